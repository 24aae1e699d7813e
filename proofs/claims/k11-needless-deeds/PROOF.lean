import PyProof.Rows.All
import Wide.All
import OpenK.AllK
import Wide.FinOn
import KE.KStateDown
import KE.SortData
import KE.KMinKey
import Lean
import HandS.ForMost
import HandS.Nested
import HandS.NestedK
import HandS.HeadWalk
import HandS.Head2
import HandS.HeadHook4
import HandS.DictComp
import HandS.Zip
import HandS.Conv
import HandS.TupAny
import HandS.IsInst
import HandS.Exc
import HandS.TryOnly
import HandS.ExcOwn
import HandS.WordsExc
import HandS.Wide
import HandS.WideMore
import HandS.Walk
import HandS.Deep
import HandS.Flow
import KE.GoesMore
import KE.GoesEnum
import KE.GoesZip
import PySem.Challenge.RW_gridlooks_k11_whole_needless_deeds
import HandS.SortKw
set_option Elab.async false
set_option linter.all false
set_option maxRecDepth 100000
set_option maxHeartbeats 8000000
namespace Gr
open PySem PySem.Spec PyProof.Rows L2
/-! ### the text by places -/
abbrev prg : Program := PySem.Challenge.pw_gridlooks_k11_whole_needless_deeds
abbrev lawRow : PySem.W.OpenLaw := PySem.Challenge.rw_gridlooks_k11_whole_needless_deeds
def top (i : Nat) : Stmt := prg.main.body.getD i (.Pass ⟨0, 0, 0, 0⟩)
abbrev FnP (K : PySem.W.Frag) (x : Str) (st : Stmt) (f : Addr) (fd : FuncData) : Prop := FunD K x x (defArgs st) (defBody st) (defScope st) [] [] f fd
/-- a def of the top: its function object, its place, how arguments bind -/
structure Df (K : PySem.W.Frag) (mg : Str → Option Value) (x : Str) (i : Nat) (ps : List Str) (fd : FuncData) : Prop where
  fn : FnP K x (top i) (He.ga K x) fd
  mg : mg x = some (.ref (He.ga K x))
  bd : Binds K fd ps []
/-- a method -/
structure Me (K : PySem.W.Frag) (C m q : Str) (i j : Nat) (ps : List Str) (fd : FuncData) : Prop where
  fn : FunD K m q (defArgs (inClass (top i) j)) (defBody (inClass (top i) j)) (defScope (inClass (top i) j)) [] [] (He.ma K (He.ga K C) m) fd
  bd : Binds K fd ps []
/-- what the walk asks of the top -/
structure Txt (K : PySem.W.Frag) (mg : Str → Option Value) (fds : Str → FuncData) : Prop where
  d_is_number : Df K mg "is_number" 8 ["value", "least", "most"] (fds "is_number")
  d_is_kind : Df K mg "is_kind" 9 ["value"] (fds "is_kind")
  d_check_order : Df K mg "check_order" 10 ["order"] (fds "check_order")
  d_is_range : Df K mg "is_range" 11 ["a", "b"] (fds "is_range")
  d_is_cells : Df K mg "is_cells" 12 ["value"] (fds "is_cells")
  d_is_scope : Df K mg "is_scope" 13 ["value"] (fds "is_scope")
  d_is_told_value : Df K mg "is_told_value" 14 ["value"] (fds "is_told_value")
  d_is_axis : Df K mg "is_axis" 15 ["value"] (fds "is_axis")
  d_reach_of : Df K mg "reach_of" 19 ["many"] (fds "reach_of")
  e_init : Me K "Trace" "__init__" "Trace.__init__" 20 0 ["self", "size"] (fds "Trace.__init__")
  e_tell : Me K "Trace" "tell" "Trace.tell" 20 1 ["self", "scope", "kind", "telling"] (fds "Trace.tell")
  e_shift : Me K "Trace" "shift" "Trace.shift" 20 2 ["self", "axis", "change_lane", "change_spots"] (fds "Trace.shift")
  e_insert : Me K "Trace" "insert" "Trace.insert" 20 3 ["self", "axis", "at", "many", "how"] (fds "Trace.insert")
  e_remove : Me K "Trace" "remove" "Trace.remove" 20 4 ["self", "axis", "at", "many"] (fds "Trace.remove")
  e_move : Me K "Trace" "move" "Trace.move" 20 5 ["self", "axis", "at", "many", "to"] (fds "Trace.move")
  e_copy : Me K "Trace" "copy" "Trace.copy" 20 6 ["self", "scope", "row", "column"] (fds "Trace.copy")
  e_do : Me K "Trace" "do" "Trace.do" 20 7 ["self", "deed", "age"] (fds "Trace.do")
  e_tellings_at : Me K "Trace" "tellings_at" "Trace.tellings_at" 20 8 ["self", "kind", "row", "column"] (fds "Trace.tellings_at")
  d_traced : Df K mg "traced" 21 ["deeds", "shown"] (fds "traced")
  d_deciding_tellings : Df K mg "deciding_tellings" 22 ["order", "tellings"] (fds "deciding_tellings")
  d_age_of : Df K mg "age_of" 23 ["telling"] (fds "age_of")
  d_rows_at : Df K mg "rows_at" 25 ["order", "trace", "row", "column"] (fds "rows_at")
  d_is_unlike : Df K mg "is_unlike" 26 ["order", "one", "other"] (fds "is_unlike")
  d_first_unlike : Df K mg "first_unlike" 27 ["one", "other"] (fds "first_unlike")
  d_tells_for : Df K mg "tells_for" 28 ["order", "kind", "one", "other"] (fds "tells_for")
  d_parted_by : Df K mg "parted_by" 29 ["order", "one", "two"] (fds "parted_by")
  d_parted : Df K mg "parted" 30 ["order", "one", "two"] (fds "parted")
  d_same_for_all : Df K mg "same_for_all" 31 ["order", "one", "two"] (fds "same_for_all")
  d_needless : Df K mg "needless" 32 ["order", "deeds"] (fds "needless")
  d_swaps : Df K mg "swaps" 33 ["order", "deeds"] (fds "swaps")
  d_choices : Df K mg "choices" 34 ["things", "many"] (fds "choices")
  d_cores : Df K mg "cores" 35 ["order", "deeds"] (fds "cores")
  d_is_small : Df K mg "is_small" 39 ["value"] (fds "is_small")
  d_is_small_scope : Df K mg "is_small_scope" 40 ["value"] (fds "is_small_scope")
  d_is_shift : Df K mg "is_shift" 41 ["value"] (fds "is_shift")
  d_is_deed : Df K mg "is_deed" 42 ["value"] (fds "is_deed")
  e_Deeds_init : Me K "Deeds" "__init__" "Deeds.__init__" 43 0 ["self", "deeds"] (fds "Deeds.__init__")
  d__law_begin : Df K mg "_law_begin" 45 ["_law_script"] (fds "_law_begin")
  d__law_draw : Df K mg "_law_draw" 46 ["_law_draws", "_law_many"] (fds "_law_draw")
  d__law_order : Df K mg "_law_order" 47 ["_law_draws"] (fds "_law_order")
  d__law_kind : Df K mg "_law_kind" 49 ["_law_draws"] (fds "_law_kind")
  d__law_ends : Df K mg "_law_ends" 50 ["_law_draws", "_law_most"] (fds "_law_ends")
  d__law_cells : Df K mg "_law_cells" 51 ["_law_draws"] (fds "_law_cells")
  d__law_scope : Df K mg "_law_scope" 52 ["_law_draws"] (fds "_law_scope")
  d__law_deed : Df K mg "_law_deed" 53 ["_law_draws"] (fds "_law_deed")
  d__law_row : Df K mg "_law_row" 54 ["_law_draws", "_law_most"] (fds "_law_row")
  d__law_like : Df K mg "_law_like" 56 ["_law_actual", "_law_due"] (fds "_law_like")
  d__law_choices : Df K mg "_law_choices" 57 ["_law_things", "_law_many"] (fds "_law_choices")
  d__law_refused : Df K mg "_law_refused" 58 ["_law_row_here", "_law_way"] (fds "_law_refused")
  d_law : Df K mg "law" 59 ["_law_script"] (fds "law")
  g_len : mg "len" = none
  g_range : mg "range" = none
  g_list : mg "list" = none
  g_tuple : mg "tuple" = none
  g_isinstance : mg "isinstance" = none
  g_int : mg "int" = none
  g_str : mg "str" = none
  g_bool : mg "bool" = none
  g_max : mg "max" = none
  g_min : mg "min" = none
  g_sorted : mg "sorted" = none
  g_zip : mg "zip" = none
  g_enumerate : mg "enumerate" = none
  g_any : mg "any" = none
  g_all : mg "all" = none
  c_MOST_sheets : ∃ t, mg "MOST_sheets" = some (.int 999999 t)
  c_WIDEST_traces : ∃ t, mg "WIDEST_traces" = some (.int 9 t)
  c_MOST_traces : ∃ t, mg "MOST_traces" = some (.int 3 t)
  c_MOST_deeds : ∃ t, mg "MOST_deeds" = some (.int 6 t)
  c_WIDEST_deeds : ∃ t, mg "WIDEST_deeds" = some (.int 9 t)
  m_KINDS : mg "KINDS" = some (.ref (He.ga K "KINDS"))
  t_KINDS : ∀ H, SqT K H (He.ga K "KINDS") [.str "ink", .str "ground", .str "face"]
  m_ORDERS : mg "ORDERS" = some (.ref (He.ga K "ORDERS"))
  t_ORDERS : ∀ H, SqT K H (He.ga K "ORDERS") [.str "nearest", .str "newest"]
  k_Trace : Cls K (He.ga K "Trace")
  k_Deeds : Cls K (He.ga K "Deeds")
  m_Trace : mg "Trace" = some (.ref (He.ga K "Trace"))
  m_Deeds : mg "Deeds" = some (.ref (He.ga K "Deeds"))
  mk_Trace : Mk K (He.ga K "Trace") (He.ma K (He.ga K "Trace") "__init__")
  mk_Deeds : Mk K (He.ga K "Deeds") (He.ma K (He.ga K "Deeds") "__init__")
  n_whole : NoAttr K (He.ga K "Trace") "whole"
  n_lanes : NoAttr K (He.ga K "Trace") "lanes"
  n_files : NoAttr K (He.ga K "Trace") "files"
  n_spots : NoAttr K (He.ga K "Trace") "spots"
  n_deeds : NoAttr K (He.ga K "Deeds") "deeds"
  h_tell : Meth K (He.ga K "Trace") "tell" (He.ma K (He.ga K "Trace") "tell")
  h_shift : Meth K (He.ga K "Trace") "shift" (He.ma K (He.ga K "Trace") "shift")
  h_insert : Meth K (He.ga K "Trace") "insert" (He.ma K (He.ga K "Trace") "insert")
  h_remove : Meth K (He.ga K "Trace") "remove" (He.ma K (He.ga K "Trace") "remove")
  h_move : Meth K (He.ga K "Trace") "move" (He.ma K (He.ga K "Trace") "move")
  h_copy : Meth K (He.ga K "Trace") "copy" (He.ma K (He.ga K "Trace") "copy")
  h_do : Meth K (He.ga K "Trace") "do" (He.ma K (He.ga K "Trace") "do")
  h_tellings_at : Meth K (He.ga K "Trace") "tellings_at" (He.ma K (He.ga K "Trace") "tellings_at")
  x_BadOrder : PySem.W.excIn K (He.ga K "BadOrder") He.veBase "ValueError.__new__" = true ∧ PySem.W.keepIn K (.ref (He.ga K "BadOrder")) = true ∧ PySem.W.subIn K (.ref (He.ga K "BadOrder")) (.type "BaseException") = some true ∧ PySem.W.typeIn K (.ref (He.ga K "BadOrder")) = some (.type "type")
  m_BadOrder : mg "BadOrder" = some (.ref (He.ga K "BadOrder"))
  y_BadOrder : PySem.W.exmOne K (.ref (He.ga K "BadOrder")) (.ref (He.ga K "BadOrder")) = some true
end Gr

namespace Gr
open PySem PySem.Spec PyProof.Rows L2
/-! ### readings, unfolded where they are applied -/
section
variable {σ : L2.St} {H : Hp} {Q : VK} {D : Ends} {K : PySem.W.Frag}
theorem u_tVar {i : Nat} : tVar i σ H Q = (∃ v, σ[i]? = some (some v) ∧ Q v H) := rfl
theorem u_tC {v : V} : tC v σ H Q = (Q v H) := rfl
theorem u_tB {t : TE} {Q : Bool → Hp → Prop} : tB t σ H Q = (t σ H fun x H1 => ∃ c, x = .bl c ∧ Q c H1) := rfl
theorem u_tTest {t : TE} {Q : Bool → Hp → Prop} : tTest t σ H Q = (t σ H fun x H1 => ∃ c, x = .bl c ∧ Q c H1) := rfl
theorem u_tAnd {t u : TT} {Q : Bool → Hp → Prop} : tAnd t u σ H Q = (t σ H fun c H1 => if c = true then u σ H1 Q else Q false H1) := rfl
theorem u_tOr {t u : TT} {Q : Bool → Hp → Prop} : tOr t u σ H Q = (t σ H fun c H1 => if c = true then Q true H1 else u σ H1 Q) := rfl
theorem u_tNot {t : TT} {Q : Bool → Hp → Prop} : tNot t σ H Q = (t σ H fun c H1 => Q (!c) H1) := rfl
theorem u_tAndV {t u : TE} : tAndV t u σ H Q = (t σ H fun x H1 => ∃ c, x = .bl c ∧ if c = true then u σ H1 Q else Q (.bl false) H1) := rfl
theorem u_tOrV {t u : TE} : tOrV t u σ H Q = (t σ H fun x H1 => ∃ c, x = .bl c ∧ if c = true then Q (.bl true) H1 else u σ H1 Q) := rfl
theorem u_tNotV {t : TE} : tNotV t σ H Q = (t σ H fun x H1 => ∃ c, x = .bl c ∧ Q (.bl (!c)) H1) := rfl
theorem u_tIf {t : TT} {ta tb : TE} : tIf t ta tb σ H Q = (t σ H fun c H1 => if c = true then ta σ H1 Q else tb σ H1 Q) := rfl
theorem u_tNext  : tNext D σ H = (D.nx σ H) := rfl
theorem u_tSeq {t u : TS} : tSeq t u D σ H = (t { D with nx := u D } σ H) := rfl
theorem u_tBreak  : tBreak D σ H = (D.bk σ H) := rfl
theorem u_tCont  : tCont D σ H = (D.ct σ H) := rfl
theorem u_tDrop {t : TE} : tDrop t D σ H = (t σ H fun _ H1 => D.nx σ H1) := rfl
theorem u_tRet {t : TE} : tRet t D σ H = (t σ H D.rt) := rfl
theorem u_tRetN  : tRetN D σ H = (D.rt .non H) := rfl
theorem u_tIfS {c : TT} {t u : TS} : tIfS c t u D σ H = (c σ H fun b H1 => if b = true then t D σ H1 else u D σ H1) := rfl
theorem u_tNever  : tNever D σ H = (False) := rfl
theorem u_gName {i : Nat} {v : V} {R : L2.St → Hp → Prop} : gName i v σ H R = (R (σ.set i (some v)) H) := rfl
theorem u_tAsg {t : TE} {g : TG} : tAsg t g D σ H = (t σ H fun x H1 => g x σ H1 D.nx) := rfl
theorem u_tPar {i j : Nat} {t : TA} : tPar i j t D σ H = (t σ H fun vs H1 => ∃ v w, vs = [v, w] ∧ D.nx ((σ.set i (some v)).set j (some w)) H1) := rfl
theorem u_gSub {to ti : TE} {t : TSet} {v : V} {R : L2.St → Hp → Prop} : gSub to ti t v σ H R = (to σ H fun o H1 => ti σ H1 fun i H2 => t o i v H2 fun H3 => R σ H3) := rfl
theorem u_tOp {r : R2} {ta tb : TE} : tOp r ta tb σ H Q = (ta σ H fun x H1 => tb σ H1 fun y H2 => r x y H2 Q) := rfl
theorem u_tUn {r : V → Hp → VK → Prop} {ta : TE} : tUn r ta σ H Q = (ta σ H fun x H1 => r x H1 Q) := rfl
theorem u_tChain {r r' : R2} {ta tb tc : TE} : tChain r r' ta tb tc σ H Q = (ta σ H fun x H1 => tb σ H1 fun y H2 => r x y H2 fun z H3 => ∃ k, z = .bl k ∧ (if k = true then tc σ H3 fun w' H4 => r' y w' H4 Q else Q (.bl false) H3)) := rfl
theorem u_tNil {R : List V → Hp → Prop} : tNil σ H R = (R [] H) := rfl
theorem u_tCons {ta : TE} {tr : TA} {R : List V → Hp → Prop} : tCons ta tr σ H R = (ta σ H fun x H1 => tr σ H1 fun xs H2 => R (x :: xs) H2) := rfl
theorem u_tTup {t : TA} : tTup t σ H Q = (t σ H fun xs H1 => xs.length ≤ sizeLine ∧ ∀ p, H1 p = none → Q (.ref p) (upd H1 p (.tup xs))) := rfl
theorem u_tLst {t : TA} : tLst t σ H Q = (t σ H fun xs H1 => xs.length ≤ sizeLine ∧ ∀ p, H1 p = none → Q (.ref p) (upd H1 p (.lst xs))) := rfl
theorem u_tCB {r : List V → Hp → VK → Prop} {t : TA} : tCB r t σ H Q = (t σ H fun vs H1 => r vs H1 Q) := rfl
theorem u_tCall {sp : Sp} {ds : List V} {E : XK} {t : TA} : tCall sp ds E t σ H Q = (t σ H fun vs H1 => sp (vs ++ ds) H1 Q E) := rfl
theorem u_tNoPart {R : Option Int → Hp → Prop} : tNoPart σ H R = (R none H) := rfl
theorem u_tPart {t : TE} {R : Option Int → Hp → Prop} : tPart t σ H R = (t σ H fun x H1 => ∃ i, x = .int i ∧ R (some i) H1) := rfl
theorem u_tSl {r : V → Option Int → Option Int → Hp → VK → Prop} {te : TE} {tl th : TO} : tSl r te tl th σ H Q = (te σ H fun x H1 => tl σ H1 fun l H2 => th σ H2 fun u H3 => r x l u H3 Q) := rfl
theorem u_tYes {Q : Bool → Hp → Prop} : tYes σ H Q = (Q true H) := rfl
theorem u_iList {t : TE} {R : It → Hp → Prop} : iList K t σ H R = (t σ H fun x H1 => ∃ a, x = .ref a ∧ (∃ xs, SqL K H1 a xs) ∧ R (Itl K a) H1) := rfl
theorem u_iTup {t : TE} {R : It → Hp → Prop} : iTup K t σ H R = (t σ H fun x H1 => ∃ a, x = .ref a ∧ (∃ xs, SqT K H1 a xs) ∧ R (Itt K a) H1) := rfl
theorem u_sDPut {td ty tv : TE} : sDPut td ty tv D σ H = (tv σ H fun v H1 => td σ H1 fun x H2 => ty σ H2 fun y H3 => ∃ a H4, x = .ref a ∧ DPut H3 a y v H4 ∧ D.nx σ H4) := rfl
theorem u_tDGet {td ty : TE} : tDGet td ty σ H Q = (td σ H fun x H1 => ty σ H1 fun y H2 => ∃ a v, x = .ref a ∧ DGet H2 a y (some v) ∧ Q v H2) := rfl
theorem u_tDNewK  : tDNewK σ H Q = (∀ p, H p = none → Q (.ref p) (upd H p (.dK []))) := rfl
theorem u_tFld {ta : TE} {f : Str} : tFld K ta f σ H Q = (ta σ H fun x H1 => ∃ a C dx fs v, x = .ref a ∧ H1 a = some (.ins C dx fs) ∧ Cls K C ∧ NoAttr K C f ∧ fs.lookup f = some v ∧ Q v H1) := rfl
end
/-! ### operators at values -/
section
variable {H : Hp} {Q : VK} {K : PySem.W.Frag}
theorem v_rI0 {g : Int → Int → V} {i j : Int} : rI0 g (.int i) (.int j) H Q = Q (g i j) H := by
  apply propext
  constructor
  · rintro ⟨a, b, e1, e2, q⟩
    cases e1
    cases e2
    exact q
  · exact fun q => ⟨i, j, rfl, rfl, q⟩
theorem v_rI {C : Int → Int → Prop} {g : Int → Int → V} {i j : Int} : rI C g (.int i) (.int j) H Q = (C i j ∧ Q (g i j) H) := by
  apply propext
  constructor
  · rintro ⟨a, b, e1, e2, q⟩
    cases e1
    cases e2
    exact q
  · exact fun q => ⟨i, j, rfl, rfl, q⟩
theorem v_eqI {i j : Int} : rEq (.int i) (.int j) H Q = Q (.bl (decide (i = j))) H := by
  have e : decide (V.int i = V.int j) = decide (i = j) := by simp
  unfold rEq
  rw [e]
  simp [scal]
theorem v_neI {i j : Int} : rNe (.int i) (.int j) H Q = Q (.bl (!decide (i = j))) H := by
  have e : decide (V.int i = V.int j) = decide (i = j) := by simp
  unfold rNe
  rw [e]
  simp [scal]
theorem v_eqS {i j : Str} : rEq (.str i) (.str j) H Q = Q (.bl (decide (i = j))) H := by
  have e : decide (V.str i = V.str j) = decide (i = j) := by simp
  unfold rEq
  rw [e]
  simp [scal]
theorem v_neS {i j : Str} : rNe (.str i) (.str j) H Q = Q (.bl (!decide (i = j))) H := by
  have e : decide (V.str i = V.str j) = decide (i = j) := by simp
  unfold rNe
  rw [e]
  simp [scal]
theorem v_bl {b : Bool} {R : Bool → Prop} : (∃ c, V.bl b = .bl c ∧ R c) = R b := by
  apply propext
  constructor
  · rintro ⟨c, e, r⟩
    cases e
    exact r
  · exact fun r => ⟨b, rfl, r⟩
theorem v_int {b : Int} {R : Int → Prop} : (∃ c, V.int b = .int c ∧ R c) = R b := by
  apply propext
  constructor
  · rintro ⟨c, e, r⟩
    cases e
    exact r
  · exact fun r => ⟨b, rfl, r⟩
theorem v_ref {b : Addr} {R : Addr → Prop} : (∃ c, V.ref b = .ref c ∧ R c) = R b := by
  apply propext
  constructor
  · rintro ⟨c, e, r⟩
    cases e
    exact r
  · exact fun r => ⟨b, rfl, r⟩
theorem v_some {v : V} {R : V → Prop} : (∃ c, some (some v) = some (some c) ∧ R c) = R v := by
  apply propext
  constructor
  · rintro ⟨c, e, r⟩
    cases e
    exact r
  · exact fun r => ⟨v, rfl, r⟩
theorem v_two {a b : V} {R : V → V → Prop} : (∃ v w, [a, b] = [v, w] ∧ R v w) = R a b := by
  apply propext
  constructor
  · rintro ⟨c, d, e, r⟩
    cases e
    exact r
  · exact fun r => ⟨a, b, rfl, r⟩
theorem isi {x : V} {a b : String} {r : Bool} (ty : TyX K H x (.type a)) (e : kitB a b = some r) (q : Q (.bl r) H) : rIsi K [x, .ty b] H Q :=
  ⟨x, .ty b, .type a, .type b, r, rfl, .ty _, ty, kit_ty e, q⟩
end
/-! ### a call of a def of the top -/
theorem pe_fn {X : Cx} {x : Str} {i k j : Nat} {ps : List Str} {fd : FuncData} {sp : Sp} {e : Expr} {es : List Expr} {t : TA} {p pos : Pos} (D : Df X.K X.mg x i ps fd) (F : FnOk X.prog X.w X.K X.mg X.base CX0 k (He.ga X.K x) fd ps sp) (hr : Room j X.A) (hg : Gl X x) (ha : PA X (e :: es) t)
    (hk : k ≤ j := by decide) (hdb : (x == ("__debug__" : Str)) = false := by decide) (he : starEach (e :: es) X.env = (false, eval e X.env) :: starEach es X.env := by rfl) (hpl : (backTo pos (starEach es X.env)).any (·.1) = false := by rfl) :
    PE X (.Call (.Name x p) (e :: es) [] pos) (tCall sp [] E0 t) := pe_call F (hr.mono hk) hg D.mg D.fn.kp D.bd .nil pass0 ha hdb he hpl
theorem w_insert_tell : ((Str.ofString "insert" = Str.ofString "tell") = False) := eq_false (by decide +kernel)
theorem w_remove_tell : ((Str.ofString "remove" = Str.ofString "tell") = False) := eq_false (by decide +kernel)
theorem w_remove_insert : ((Str.ofString "remove" = Str.ofString "insert") = False) := eq_false (by decide +kernel)
theorem w_move_tell : ((Str.ofString "move" = Str.ofString "tell") = False) := eq_false (by decide +kernel)
theorem w_move_insert : ((Str.ofString "move" = Str.ofString "insert") = False) := eq_false (by decide +kernel)
theorem w_move_remove : ((Str.ofString "move" = Str.ofString "remove") = False) := eq_false (by decide +kernel)
theorem w_copy_tell : ((Str.ofString "copy" = Str.ofString "tell") = False) := eq_false (by decide +kernel)
theorem w_copy_insert : ((Str.ofString "copy" = Str.ofString "insert") = False) := eq_false (by decide +kernel)
theorem w_copy_remove : ((Str.ofString "copy" = Str.ofString "remove") = False) := eq_false (by decide +kernel)
theorem w_copy_move : ((Str.ofString "copy" = Str.ofString "move") = False) := eq_false (by decide +kernel)
theorem w_rows_table : ((Str.ofString "rows" = Str.ofString "table") = False) := eq_false (by decide +kernel)
theorem w_columns_table : ((Str.ofString "columns" = Str.ofString "table") = False) := eq_false (by decide +kernel)
theorem w_cells_table : ((Str.ofString "cells" = Str.ofString "table") = False) := eq_false (by decide +kernel)
theorem w_rows_cells : ((Str.ofString "rows" = Str.ofString "cells") = False) := eq_false (by decide +kernel)
theorem w_columns_cells : ((Str.ofString "columns" = Str.ofString "cells") = False) := eq_false (by decide +kernel)
theorem w_columns_rows : ((Str.ofString "columns" = Str.ofString "rows") = False) := eq_false (by decide +kernel)
theorem w_cells_rows : ((Str.ofString "cells" = Str.ofString "rows") = False) := eq_false (by decide +kernel)
theorem w_cells_columns : ((Str.ofString "cells" = Str.ofString "columns") = False) := eq_false (by decide +kernel)
theorem w_rows_columns : ((Str.ofString "rows" = Str.ofString "columns") = False) := eq_false (by decide +kernel)
theorem w_table_cells : ((Str.ofString "table" = Str.ofString "cells") = False) := eq_false (by decide +kernel)
theorem w_table_rows : ((Str.ofString "table" = Str.ofString "rows") = False) := eq_false (by decide +kernel)
theorem w_table_columns : ((Str.ofString "table" = Str.ofString "columns") = False) := eq_false (by decide +kernel)
theorem w_column_row : ((Str.ofString "column" = Str.ofString "row") = False) := eq_false (by decide +kernel)
theorem w_plain_like : ((Str.ofString "plain" = Str.ofString "like") = False) := eq_false (by decide +kernel)
theorem w_like_plain : ((Str.ofString "like" = Str.ofString "plain") = False) := eq_false (by decide +kernel)
theorem w_old_new : ((Str.ofString "old" = Str.ofString "new") = False) := eq_false (by decide +kernel)
theorem w_new_old : ((Str.ofString "new" = Str.ofString "old") = False) := eq_false (by decide +kernel)
theorem w_newest_nearest : ((Str.ofString "newest" = Str.ofString "nearest") = False) := eq_false (by decide +kernel)
theorem w_nearest_newest : ((Str.ofString "nearest" = Str.ofString "newest") = False) := eq_false (by decide +kernel)
theorem w_ink_ground : ((Str.ofString "ink" = Str.ofString "ground") = False) := eq_false (by decide +kernel)
theorem w_ink_face : ((Str.ofString "ink" = Str.ofString "face") = False) := eq_false (by decide +kernel)
theorem w_ground_ink : ((Str.ofString "ground" = Str.ofString "ink") = False) := eq_false (by decide +kernel)
theorem w_ground_face : ((Str.ofString "ground" = Str.ofString "face") = False) := eq_false (by decide +kernel)
theorem w_face_ink : ((Str.ofString "face" = Str.ofString "ink") = False) := eq_false (by decide +kernel)
theorem w_face_ground : ((Str.ofString "face" = Str.ofString "ground") = False) := eq_false (by decide +kernel)
theorem w_whole_lanes : ((Str.ofString "whole" = Str.ofString "lanes") = False) := eq_false (by decide +kernel)
theorem w_whole_files : ((Str.ofString "whole" = Str.ofString "files") = False) := eq_false (by decide +kernel)
theorem w_whole_spots : ((Str.ofString "whole" = Str.ofString "spots") = False) := eq_false (by decide +kernel)
theorem w_lanes_files : ((Str.ofString "lanes" = Str.ofString "files") = False) := eq_false (by decide +kernel)
theorem w_lanes_spots : ((Str.ofString "lanes" = Str.ofString "spots") = False) := eq_false (by decide +kernel)
theorem w_files_spots : ((Str.ofString "files" = Str.ofString "spots") = False) := eq_false (by decide +kernel)
/-! ### the data: kinds, orders, scopes, deeds -/
inductive Kd where
  | ink | ground | face
  deriving DecidableEq
def Kd.s : Kd → Str
  | .ink => "ink"
  | .ground => "ground"
  | .face => "face"
inductive Od where
  | nearest | newest
  deriving DecidableEq
def Od.s : Od → Str
  | .nearest => "nearest"
  | .newest => "newest"
/-- row or column -/
inductive Ax where
  | row | col
  deriving DecidableEq
def Ax.s : Ax → Str
  | .row => "row"
  | .col => "column"
/-- a number or None -/
def ov : Option Nat → V
  | none => .non
  | some n => .int (n : Int)
inductive Sc where
  | table
  | rows (a : Nat) (b : Option Nat)
  | cols (a : Nat) (b : Option Nat)
  | cells (t b l r : Nat)
def Sc.vs : Sc → List V
  | .table => [.str "table"]
  | .rows a b => [.str "rows", .int (a : Int), ov b]
  | .cols a b => [.str "columns", .int (a : Int), ov b]
  | .cells t b l r => [.str "cells", .int (t : Int), .int (b : Int), .int (l : Int), .int (r : Int)]
def Sc.ok : Sc → Prop
  | .table => True
  | .rows a b => a ≤ 9 ∧ ∀ n, b = some n → a ≤ n ∧ n ≤ 9
  | .cols a b => a ≤ 9 ∧ ∀ n, b = some n → a ≤ n ∧ n ≤ 9
  | .cells t b l r => t ≤ b ∧ b ≤ 9 ∧ l ≤ r ∧ r ≤ 9
inductive De where
  | tell (s : Sc) (k : Kd) (x : Option Nat)
  | ins (x : Ax) (a n : Nat) (like : Bool)
  | rem (x : Ax) (a n : Nat)
  | mov (x : Ax) (a n to : Nat)
  | cpy (t b l r row col : Nat)
def De.ok : De → Prop
  | .tell s _ x => s.ok ∧ ∀ n, x = some n → n ≤ 9
  | .ins _ a n like => a ≤ 9 ∧ 1 ≤ n ∧ n ≤ 3 ∧ (like = true → 0 < a)
  | .rem _ a n => a ≤ 9 ∧ 1 ≤ n ∧ n ≤ 3
  | .mov _ a n to => a ≤ 9 ∧ 1 ≤ n ∧ n ≤ 3 ∧ to ≤ 9
  | .cpy t b l r row col => (t ≤ b ∧ b ≤ 9 ∧ l ≤ r ∧ r ≤ 9) ∧ row ≤ 9 ∧ col ≤ 9
def how (like : Bool) : Str := if like then "like" else "plain"
/-- the deed's items, its scope standing at q -/
def De.vs (q : Addr) : De → List V
  | .tell _ k x => [.str "tell", .ref q, .str k.s, ov x]
  | .ins x a n like => [.str "insert", .str x.s, .int (a : Int), .int (n : Int), .str (how like)]
  | .rem x a n => [.str "remove", .str x.s, .int (a : Int), .int (n : Int)]
  | .mov x a n to => [.str "move", .str x.s, .int (a : Int), .int (n : Int), .int (to : Int)]
  | .cpy _ _ _ _ row col => [.str "copy", .ref q, .int (row : Int), .int (col : Int), .str "tellings"]
def De.sc : De → Option Sc
  | .tell s _ _ => some s
  | .cpy t b l r _ _ => some (.cells t b l r)
  | _ => none
/-- a deed stands at v -/
def DeAt (H : Hp) (v : V) (d : De) : Prop := ∃ p q, v = .ref p ∧ H p = some (.tup (d.vs q)) ∧ ∀ s, d.sc = some s → H q = some (.tup s.vs)
theorem DeAt.same {H H' : Hp} {v : V} {d : De} (h : DeAt H v d) (e : ∀ b xs, H b = some (.tup xs) → H' b = some (.tup xs)) : DeAt H' v d := by
  obtain ⟨p, q, rfl, h1, h2⟩ := h
  exact ⟨p, q, rfl, e _ _ h1, fun s hs => e _ _ (h2 s hs)⟩
/-! ### more at values -/
section
variable {H : Hp} {Q : VK} {K : PySem.W.Frag}
theorem ixT {p : Addr} {xs : List V} {i : Int} {v : V} (h : H p = some (.tup xs)) (e : atI xs i = some v) (q : Q v H) : rIxT K (.ref p) (.int i) H Q := ⟨p, xs, i, v, rfl, rfl, SqT.of h, e, q⟩
theorem ixL {p : Addr} {xs : List V} {i : Int} {v : V} (h : H p = some (.lst xs)) (e : atI xs i = some v) (q : Q v H) : rIxL K (.ref p) (.int i) H Q := ⟨p, xs, i, v, rfl, rfl, SqL.of h, e, q⟩
theorem inS {p : Addr} {xs : List V} {x : Str} {b : Bool} (h : SqT K H p xs) (hf : xs.all flatV = true) (e : inV (.str x) xs = b) (q : Q (.bl b) H) : rIn K false (.str x) (.ref p) H Q :=
  ⟨p, xs, rfl, .inr h, rfl, hf, by rw [e]; exact q⟩
theorem notInS {p : Addr} {xs : List V} {x : Str} {b : Bool} (h : SqT K H p xs) (hf : xs.all flatV = true) (e : inV (.str x) xs = b) (q : Q (.bl (!b)) H) : rIn K true (.str x) (.ref p) H Q :=
  ⟨p, xs, rfl, .inr h, rfl, hf, by rw [e]; exact q⟩
end
theorem same_upd {H : Hp} {q : Addr} {o : HO} (n : H q = none) : Same H (upd H q o) := fun b u e => by
  rw [upd_ne (ne_of_none e n)]
  exact e
/-! ### calls of built-ins, their readings by name -/
section
variable {X : Cx} {K : PySem.W.Frag} {H : Hp} {Q : VK}
def rLenQ (K : PySem.W.Frag) : List V → Hp → VK → Prop := fun xs H Q => ∃ p ys, xs = [.ref p] ∧ (SqL K H p ys ∨ SqT K H p ys) ∧ Q (.int ys.length) H
theorem call_lenQ : CallR X (.builtin "len") (rLenQ X.K) := call_len_seq
theorem lenT {p : Addr} {xs : List V} {n : Int} (h : H p = some (.tup xs)) (e : (xs.length : Int) = n) (q : Q (.int n) H) : rLenQ K [.ref p] H Q := ⟨p, xs, rfl, .inr (SqT.of h), by rw [e]; exact q⟩
theorem lenL {p : Addr} {xs : List V} {n : Int} (h : H p = some (.lst xs)) (e : (xs.length : Int) = n) (q : Q (.int n) H) : rLenQ K [.ref p] H Q := ⟨p, xs, rfl, .inl (SqL.of h), by rw [e]; exact q⟩
def rListQ (K : PySem.W.Frag) : List V → Hp → VK → Prop := fun xs H Q => ∃ p ys, xs = [.ref p] ∧ (SqL K H p ys ∨ SqT K H p ys) ∧ ∀ l, H l = none → Q (.ref l) (upd H l (.lst ys))
theorem call_listQ : CallR X (.type "list") (rListQ X.K) := call_list_of
theorem listL {p : Addr} {xs : List V} (h : H p = some (.lst xs)) (q : ∀ l, H l = none → Q (.ref l) (upd H l (.lst xs))) : rListQ K [.ref p] H Q := ⟨p, xs, rfl, .inl (SqL.of h), q⟩
theorem listT {p : Addr} {xs : List V} (h : H p = some (.tup xs)) (q : ∀ l, H l = none → Q (.ref l) (upd H l (.lst xs))) : rListQ K [.ref p] H Q := ⟨p, xs, rfl, .inr (SqT.of h), q⟩
def rTupQ (K : PySem.W.Frag) : List V → Hp → VK → Prop := fun xs H Q => ∃ p ys, xs = [.ref p] ∧ ((SqL K H p ys ∧ ∀ l, H l = none → Q (.ref l) (upd H l (.tup ys))) ∨ (SqT K H p ys ∧ Q (.ref p) H))
theorem call_tupQ : CallR X (.type "tuple") (rTupQ X.K) := call_tuple_of
theorem tupL {p : Addr} {xs : List V} (h : H p = some (.lst xs)) (q : ∀ l, H l = none → Q (.ref l) (upd H l (.tup xs))) : rTupQ K [.ref p] H Q := ⟨p, xs, rfl, .inl ⟨SqL.of h, q⟩⟩
def rMaxQ : List V → Hp → VK → Prop := fun xs H Q => ∃ i j, xs = [.int i, .int j] ∧ Q (.int (if j > i then j else i)) H
theorem call_maxQ (hc : X.calm = true) : CallR X (.builtin "max") rMaxQ := call_max2 hc
def rMinQ : List V → Hp → VK → Prop := fun xs H Q => ∃ i j, xs = [.int i, .int j] ∧ Q (.int (if j < i then j else i)) H
theorem call_minQ (hc : X.calm = true) : CallR X (.builtin "min") rMinQ := call_min2 hc
theorem v_max {i j : Int} : rMaxQ [.int i, .int j] H Q = Q (.int (if j > i then j else i)) H := by
  apply propext
  constructor
  · rintro ⟨a, b, e, q⟩
    cases e
    exact q
  · exact fun q => ⟨i, j, rfl, q⟩
theorem v_min {i j : Int} : rMinQ [.int i, .int j] H Q = Q (.int (if j < i then j else i)) H := by
  apply propext
  constructor
  · rintro ⟨a, b, e, q⟩
    cases e
    exact q
  · exact fun q => ⟨i, j, rfl, q⟩
def rIntQ : List V → Hp → VK → Prop := fun xs H Q => (∃ i, xs = [.int i] ∧ Q (.int i) H) ∨ ∃ k, xs = [.bl k] ∧ Q (.int (if k then 1 else 0)) H
theorem call_intQ : CallR X (.type "int") rIntQ := call_int1
theorem v_intQ {i : Int} : rIntQ [.int i] H Q = Q (.int i) H := by
  apply propext
  constructor
  · rintro (⟨a, e, q⟩ | ⟨a, e, q⟩)
    · cases e
      exact q
    · cases e
  · exact fun q => .inl ⟨i, rfl, q⟩
/-- is None, is not None -/
def rIsN : R2 := fun x y H Q => y = .non ∧ Q (.bl (decide (x = .non))) H
def rNotN : R2 := fun x y H Q => y = .non ∧ Q (.bl (!decide (x = .non))) H
theorem op_isQ : OpR X (compareOp .Is) rIsN := op_isN
theorem op_notQ : OpR X (compareOp .IsNot) rNotN := op_notN
theorem v_isN {x : V} : rIsN x .non H Q = Q (.bl (decide (x = .non))) H := by
  apply propext
  exact ⟨fun h => h.2, fun h => ⟨rfl, h⟩⟩
theorem v_notN {x : V} : rNotN x .non H Q = Q (.bl (!decide (x = .non))) H := by
  apply propext
  exact ⟨fun h => h.2, fun h => ⟨rfl, h⟩⟩
end
theorem kit_int_int : kitB "int" "int" = some true := by decide +kernel
theorem kit_int_str : kitB "int" "str" = some false := by decide +kernel
theorem kit_int_bool : kitB "int" "bool" = some false := by decide +kernel
theorem kit_int_tuple : kitB "int" "tuple" = some false := by decide +kernel
theorem kit_int_list : kitB "int" "list" = some false := by decide +kernel
theorem kit_str_int : kitB "str" "int" = some false := by decide +kernel
theorem kit_str_str : kitB "str" "str" = some true := by decide +kernel
theorem kit_str_bool : kitB "str" "bool" = some false := by decide +kernel
theorem kit_str_tuple : kitB "str" "tuple" = some false := by decide +kernel
theorem kit_str_list : kitB "str" "list" = some false := by decide +kernel
theorem kit_bool_int : kitB "bool" "int" = some true := by decide +kernel
theorem kit_bool_str : kitB "bool" "str" = some false := by decide +kernel
theorem kit_bool_bool : kitB "bool" "bool" = some true := by decide +kernel
theorem kit_bool_tuple : kitB "bool" "tuple" = some false := by decide +kernel
theorem kit_bool_list : kitB "bool" "list" = some false := by decide +kernel
theorem kit_tuple_int : kitB "tuple" "int" = some false := by decide +kernel
theorem kit_tuple_str : kitB "tuple" "str" = some false := by decide +kernel
theorem kit_tuple_bool : kitB "tuple" "bool" = some false := by decide +kernel
theorem kit_tuple_tuple : kitB "tuple" "tuple" = some true := by decide +kernel
theorem kit_tuple_list : kitB "tuple" "list" = some false := by decide +kernel
theorem kit_list_int : kitB "list" "int" = some false := by decide +kernel
theorem kit_list_str : kitB "list" "str" = some false := by decide +kernel
theorem kit_list_bool : kitB "list" "bool" = some false := by decide +kernel
theorem kit_list_tuple : kitB "list" "tuple" = some false := by decide +kernel
theorem kit_list_list : kitB "list" "list" = some true := by decide +kernel
theorem kit_NoneType_int : kitB "NoneType" "int" = some false := by decide +kernel
theorem kit_NoneType_str : kitB "NoneType" "str" = some false := by decide +kernel
theorem kit_NoneType_bool : kitB "NoneType" "bool" = some false := by decide +kernel
theorem kit_NoneType_tuple : kitB "NoneType" "tuple" = some false := by decide +kernel
theorem kit_NoneType_list : kitB "NoneType" "list" = some false := by decide +kernel
end Gr

namespace Gr
open PySem PySem.Spec PyProof.Rows L2
local macro_rules | `(tactic| walk_at "n") => `(tactic| try simp only [u_tVar, u_tC, u_tB, u_tTest, u_tAnd, u_tOr, u_tNot, u_tAndV, u_tOrV, u_tNotV, u_tIf, u_tNext, u_tSeq, u_tBreak, u_tCont, u_tDrop, u_tRet, u_tRetN, u_tIfS, u_tNever, u_gName, u_tAsg, u_tPar, u_gSub, u_tOp, u_tUn, u_tChain, u_tNil, u_tCons, u_tTup, u_tLst, u_tCB, u_tCall, u_tNoPart, u_tPart, u_tSl, u_tYes, u_iList, u_iTup, u_sDPut, u_tDGet, u_tDNewK, u_tFld, v_rI0, v_rI, v_eqI, v_neI, v_eqS, v_neS, v_bl, v_int, v_ref, v_some, v_two, w_insert_tell, w_remove_tell, w_remove_insert, w_move_tell, w_move_insert, w_move_remove, w_copy_tell, w_copy_insert, w_copy_remove, w_copy_move, w_rows_table, w_columns_table, w_cells_table, w_rows_cells, w_columns_cells, w_columns_rows, w_cells_rows, w_cells_columns, w_rows_columns, w_table_cells, w_table_rows, w_table_columns, w_column_row, w_plain_like, w_like_plain, w_old_new, w_new_old, w_newest_nearest, w_nearest_newest, w_ink_ground, w_ink_face, w_ground_ink, w_ground_face, w_face_ink, w_face_ground, w_whole_lanes, w_whole_files, w_whole_spots, w_lanes_files, w_lanes_spots, w_files_spots, List.getElem?_cons_zero, List.getElem?_cons_succ, List.set_cons_zero, List.set_cons_succ, List.append_nil, Bool.not_true, Bool.not_false, eq_self, if_true, Bool.false_eq_true, if_false, decide_true, decide_false, v_max, v_min, v_intQ, v_isN, v_notN, reduceCtorEq, Nat.reduceAdd, Nat.zero_add, Int.cast_ofNat_Int, Int.reduceEq, Int.reduceLE, Int.reduceLT, Int.reduceAdd, List.cons_append, List.nil_append, Sc.vs, ov, List.length_cons, List.length_nil])
local macro_rules | `(tactic| walk_at "x") => `(tactic| first | refine ixT (by assumption) rfl ?_ | refine ixL (by assumption) rfl ?_ | refine lenT (by assumption) rfl ?_ | refine lenL (by assumption) rfl ?_ | refine isi (.base (.int _)) kit_int_int ?_ | refine isi (.base (.int _)) kit_int_str ?_ | refine isi (.base (.int _)) kit_int_bool ?_ | refine isi (.base (.int _)) kit_int_tuple ?_ | refine isi (.base (.int _)) kit_int_list ?_ | refine isi (.base (.str _)) kit_str_int ?_ | refine isi (.base (.str _)) kit_str_str ?_ | refine isi (.base (.str _)) kit_str_bool ?_ | refine isi (.base (.str _)) kit_str_tuple ?_ | refine isi (.base (.str _)) kit_str_list ?_ | refine isi (.base (.bl _)) kit_bool_int ?_ | refine isi (.base (.bl _)) kit_bool_str ?_ | refine isi (.base (.bl _)) kit_bool_bool ?_ | refine isi (.base (.bl _)) kit_bool_tuple ?_ | refine isi (.base (.bl _)) kit_bool_list ?_ | refine isi (.base (.tup (by assumption))) kit_tuple_int ?_ | refine isi (.base (.tup (by assumption))) kit_tuple_str ?_ | refine isi (.base (.tup (by assumption))) kit_tuple_bool ?_ | refine isi (.base (.tup (by assumption))) kit_tuple_tuple ?_ | refine isi (.base (.tup (by assumption))) kit_tuple_list ?_ | refine isi (.base (.lst (by assumption))) kit_list_int ?_ | refine isi (.base (.lst (by assumption))) kit_list_str ?_ | refine isi (.base (.lst (by assumption))) kit_list_bool ?_ | refine isi (.base (.lst (by assumption))) kit_list_tuple ?_ | refine isi (.base (.lst (by assumption))) kit_list_list ?_ | refine isi (.base (.non)) kit_NoneType_int ?_ | refine isi (.base (.non)) kit_NoneType_str ?_ | refine isi (.base (.non)) kit_NoneType_bool ?_ | refine isi (.base (.non)) kit_NoneType_tuple ?_ | refine isi (.base (.non)) kit_NoneType_list ?_)
local macro_rules | `(tactic| walk_at "g") => `(tactic| (repeat (walk_at "n"; walk_at "x")); walk_at "n")

section
variable {P : Program} {w : World} {K : PySem.W.Frag} {mg : Str → Option Value} {fds : Str → FuncData} {base : Heap}
abbrev s_is_number : Stmt := top 8
abbrev N_is_number : List Str := ["value", "least", "most"]
theorem sc_is_number : FnScope N_is_number ["value", "least", "most"] (defScope s_is_number) := ⟨rfl, rfl, rfl, by decide +kernel, rfl, by decide +kernel, by decide +kernel⟩
def spIsNumber : Sp := fun vs H Q _ => ∃ n a b : Int, vs = [.int n, .int a, .int b] ∧ Q (.bl (decide (a ≤ n) && decide (n ≤ b))) H
theorem ok_is_number (T : Txt K mg fds) : FnOk P w K mg base CX0 1 (He.ga K "is_number") (fds "is_number") ["value", "least", "most"] spIsNumber := by
  refine T.d_is_number.fn.ok sc_is_number (fun vs H Q E h => ?_) (fun cdv A outer s H vs Q E hr h => ?_)
  · obtain ⟨n, a, b, rfl, _⟩ := h; rfl
  · obtain ⟨n, a, b, rfl, k⟩ := h
    have nd := sc_is_number.nd
    refine ⟨_, PSs.nox (pss_one (ps_ret (pe_and (pe_callB call_isi (by rfl) T.g_isinstance (by decide +kernel) (pa_cons (pv 0) (pa_cons (pe_bltn (v := .ty "int") (by rfl) T.g_int (by decide +kernel) rfl) pa_nil))) (pe_and (pe_not (pe_callB call_isi (by rfl) T.g_isinstance (by decide +kernel) (pa_cons (pv 0) (pa_cons (pe_bltn (v := .ty "bool") (by rfl) T.g_bool (by decide +kernel) rfl) pa_nil)))) (pe_one (pe_chain op_le op_le (pv 1) (pv 0) (pv 2))))))), ?_⟩
    rw [show L2.start N_is_number [.int n, .int a, .int b] = [some (.int n), some (.int a), some (.int b)] from rfl]
    walk_at "n"
    refine isi (.base (.int n)) (r := true) (by decide +kernel) ?_
    walk_at "n"
    refine isi (.base (.int n)) (r := false) (by decide +kernel) ?_
    walk_at "n"
    by_cases h1 : a ≤ n
    · rw [if_pos (decide_eq_true h1)]
      rw [decide_eq_true h1] at k
      exact k
    · rw [decide_eq_false h1] at k
      rw [if_neg (by simp [h1])]
      exact k
theorem isNumT {n a b : Int} {H : Hp} {Q : VK} {E : XK} (h1 : a ≤ n) (h2 : n ≤ b) (q : Q (.bl true) H) : spIsNumber [.int n, .int a, .int b] H Q E := ⟨n, a, b, rfl, by rw [decide_eq_true h1, decide_eq_true h2]; exact q⟩
abbrev s_is_kind : Stmt := top 9
abbrev N_is_kind : List Str := ["value"]
theorem sc_is_kind : FnScope N_is_kind ["value"] (defScope s_is_kind) := ⟨rfl, rfl, rfl, by decide +kernel, rfl, by decide +kernel, by decide +kernel⟩
def spIsKind : Sp := fun vs H Q _ => ∃ k : Kd, vs = [.str k.s] ∧ Q (.bl true) H
theorem ok_is_kind (T : Txt K mg fds) : FnOk P w K mg base CX0 1 (He.ga K "is_kind") (fds "is_kind") ["value"] spIsKind := by
  refine T.d_is_kind.fn.ok sc_is_kind (fun vs H Q E h => ?_) (fun cdv A outer s H vs Q E hr h => ?_)
  · obtain ⟨n, rfl, _⟩ := h; rfl
  · obtain ⟨n, rfl, k⟩ := h
    have nd := sc_is_kind.nd
    refine ⟨_, PSs.nox (pss_one (ps_ret (pe_and (pe_callB call_isi (by rfl) T.g_isinstance (by decide +kernel) (pa_cons (pv 0) (pa_cons (pe_bltn (v := .ty "str") (by rfl) T.g_str (by decide +kernel) rfl) pa_nil))) (pe_one (pe_cmpR op_in_seq (pv 0) (pe_glob (v := .ref (He.ga K "KINDS")) rfl T.m_KINDS rfl) (by with_unfolding_all rfl)))))), ?_⟩
    rw [show L2.start N_is_kind [.str n.s] = [some (.str n.s)] from rfl]
    walk_at "n"
    refine isi (.base (.str _)) (r := true) (by decide +kernel) ?_
    walk_at "n"
    exact inS (T.t_KINDS _) (by rfl) (by cases n <;> decide +kernel) k
abbrev s_check_order : Stmt := top 10
abbrev N_check_order : List Str := ["order"]
theorem sc_check_order : FnScope N_check_order ["order"] (defScope s_check_order) := ⟨rfl, rfl, rfl, by decide +kernel, rfl, by decide +kernel, by decide +kernel⟩
def spCheckOrder : Sp := fun vs H Q _ => ∃ o : Od, vs = [.str o.s] ∧ Q .non H
theorem ok_check_order (T : Txt K mg fds) : FnOk P w K mg base CX0 1 (He.ga K "check_order") (fds "check_order") ["order"] spCheckOrder := by
  refine T.d_check_order.fn.ok sc_check_order (fun vs H Q E h => ?_) (fun cdv A outer s H vs Q E hr h => ?_)
  · obtain ⟨n, rfl, _⟩ := h; rfl
  · obtain ⟨n, rfl, k⟩ := h
    have nd := sc_check_order.nd
    refine ⟨_, PSs.nox (pss_one (ps_if (PW.pt (pw_or (pt_not (pt_val (pe_callB call_isi (by rfl) T.g_isinstance (by decide +kernel) (pa_cons (pv 0) (pa_cons (pe_bltn (v := .ty "str") (by rfl) T.g_str (by decide +kernel) rfl) pa_nil))))) (pw_or1 (pt_cmpR op_notIn_seq (pv 0) (pe_glob (v := .ref (He.ga K "ORDERS")) rfl T.m_ORDERS rfl) (by with_unfolding_all rfl)))))
        (pss_one ps_never)
        pss_nil)), ?_⟩
    rw [show L2.start N_check_order [.str n.s] = [some (.str n.s)] from rfl]
    walk_at "n"
    refine isi (.base (.str _)) (r := true) (by decide +kernel) ?_
    walk_at "n"
    refine notInS (b := true) (T.t_ORDERS _) (by rfl) (by cases n <;> decide +kernel) ?_
    walk_at "n"
    exact k
abbrev s_is_range : Stmt := top 11
abbrev N_is_range : List Str := ["a", "b"]
theorem sc_is_range : FnScope N_is_range ["a", "b"] (defScope s_is_range) := ⟨rfl, rfl, rfl, by decide +kernel, rfl, by decide +kernel, by decide +kernel⟩
def spIsRange : Sp := fun vs H Q _ => ∃ a b : Int, vs = [.int a, .int b] ∧ 0 ≤ a ∧ a ≤ b ∧ b ≤ 999999 ∧ Q (.bl true) H
theorem ok_is_range (T : Txt K mg fds) : FnOk P w K mg base CX0 2 (He.ga K "is_range") (fds "is_range") ["a", "b"] spIsRange := by
  refine T.d_is_range.fn.ok sc_is_range (fun vs H Q E h => ?_) (fun cdv A outer s H vs Q E hr h => ?_)
  · obtain ⟨a, b, rfl, _⟩ := h; rfl
  · obtain ⟨a, b, rfl, h1, h2, h3, k⟩ := h
    have nd := sc_is_range.nd
    refine ⟨_, PSs.nox (pss_one (ps_ret (pe_and (pe_fn T.d_is_number (ok_is_number T) hr rfl (pa_cons (pv 0) (pa_cons pe_int (pa_cons (pe_glob (v := .int 999999) rfl T.c_MOST_sheets.choose_spec ⟨_, rfl⟩) pa_nil)))) (pe_one (pe_fn T.d_is_number (ok_is_number T) hr rfl (pa_cons (pv 1) (pa_cons (pv 0) (pa_cons (pe_glob (v := .int 999999) rfl T.c_MOST_sheets.choose_spec ⟨_, rfl⟩) pa_nil)))))))), ?_⟩
    rw [show L2.start N_is_range [.int a, .int b] = [some (.int a), some (.int b)] from rfl]
    walk_at "n"
    refine isNumT (by omega) (by omega) ?_
    walk_at "n"
    exact isNumT (by omega) (by omega) k
end

end Gr

namespace Gr
open PySem PySem.Spec PyProof.Rows L2
local macro_rules | `(tactic| walk_at "n") => `(tactic| try simp only [u_tVar, u_tC, u_tB, u_tTest, u_tAnd, u_tOr, u_tNot, u_tAndV, u_tOrV, u_tNotV, u_tIf, u_tNext, u_tSeq, u_tBreak, u_tCont, u_tDrop, u_tRet, u_tRetN, u_tIfS, u_tNever, u_gName, u_tAsg, u_tPar, u_gSub, u_tOp, u_tUn, u_tChain, u_tNil, u_tCons, u_tTup, u_tLst, u_tCB, u_tCall, u_tNoPart, u_tPart, u_tSl, u_tYes, u_iList, u_iTup, u_sDPut, u_tDGet, u_tDNewK, u_tFld, v_rI0, v_rI, v_eqI, v_neI, v_eqS, v_neS, v_bl, v_int, v_ref, v_some, v_two, w_insert_tell, w_remove_tell, w_remove_insert, w_move_tell, w_move_insert, w_move_remove, w_copy_tell, w_copy_insert, w_copy_remove, w_copy_move, w_rows_table, w_columns_table, w_cells_table, w_rows_cells, w_columns_cells, w_columns_rows, w_cells_rows, w_cells_columns, w_rows_columns, w_table_cells, w_table_rows, w_table_columns, w_column_row, w_plain_like, w_like_plain, w_old_new, w_new_old, w_newest_nearest, w_nearest_newest, w_ink_ground, w_ink_face, w_ground_ink, w_ground_face, w_face_ink, w_face_ground, w_whole_lanes, w_whole_files, w_whole_spots, w_lanes_files, w_lanes_spots, w_files_spots, List.getElem?_cons_zero, List.getElem?_cons_succ, List.set_cons_zero, List.set_cons_succ, List.append_nil, Bool.not_true, Bool.not_false, eq_self, if_true, Bool.false_eq_true, if_false, decide_true, decide_false, v_max, v_min, v_intQ, v_isN, v_notN, reduceCtorEq, Nat.reduceAdd, Nat.zero_add, Int.cast_ofNat_Int, Int.reduceEq, Int.reduceLE, Int.reduceLT, Int.reduceAdd, List.cons_append, List.nil_append, Sc.vs, ov, List.length_cons, List.length_nil])
local macro_rules | `(tactic| walk_at "x") => `(tactic| first | refine ixT (by assumption) rfl ?_ | refine ixL (by assumption) rfl ?_ | refine lenT (by assumption) rfl ?_ | refine lenL (by assumption) rfl ?_ | refine isi (.base (.int _)) kit_int_int ?_ | refine isi (.base (.int _)) kit_int_str ?_ | refine isi (.base (.int _)) kit_int_bool ?_ | refine isi (.base (.int _)) kit_int_tuple ?_ | refine isi (.base (.int _)) kit_int_list ?_ | refine isi (.base (.str _)) kit_str_int ?_ | refine isi (.base (.str _)) kit_str_str ?_ | refine isi (.base (.str _)) kit_str_bool ?_ | refine isi (.base (.str _)) kit_str_tuple ?_ | refine isi (.base (.str _)) kit_str_list ?_ | refine isi (.base (.bl _)) kit_bool_int ?_ | refine isi (.base (.bl _)) kit_bool_str ?_ | refine isi (.base (.bl _)) kit_bool_bool ?_ | refine isi (.base (.bl _)) kit_bool_tuple ?_ | refine isi (.base (.bl _)) kit_bool_list ?_ | refine isi (.base (.tup (by assumption))) kit_tuple_int ?_ | refine isi (.base (.tup (by assumption))) kit_tuple_str ?_ | refine isi (.base (.tup (by assumption))) kit_tuple_bool ?_ | refine isi (.base (.tup (by assumption))) kit_tuple_tuple ?_ | refine isi (.base (.tup (by assumption))) kit_tuple_list ?_ | refine isi (.base (.lst (by assumption))) kit_list_int ?_ | refine isi (.base (.lst (by assumption))) kit_list_str ?_ | refine isi (.base (.lst (by assumption))) kit_list_bool ?_ | refine isi (.base (.lst (by assumption))) kit_list_tuple ?_ | refine isi (.base (.lst (by assumption))) kit_list_list ?_ | refine isi (.base (.non)) kit_NoneType_int ?_ | refine isi (.base (.non)) kit_NoneType_str ?_ | refine isi (.base (.non)) kit_NoneType_bool ?_ | refine isi (.base (.non)) kit_NoneType_tuple ?_ | refine isi (.base (.non)) kit_NoneType_list ?_)
local macro_rules | `(tactic| walk_at "g") => `(tactic| (repeat (walk_at "n"; walk_at "x")); walk_at "n")

section
variable {P : Program} {w : World} {K : PySem.W.Frag} {mg : Str → Option Value} {fds : Str → FuncData} {base : Heap}
abbrev s_is_cells : Stmt := top 12
abbrev N_is_cells : List Str := ["value"]
theorem sc_is_cells : FnScope N_is_cells ["value"] (defScope s_is_cells) := ⟨rfl, rfl, rfl, by decide +kernel, rfl, by decide +kernel, by decide +kernel⟩
def spIsCells : Sp := fun vs H Q _ => ∃ (p : Addr) (t b l r : Nat), vs = [.ref p] ∧ H p = some (.tup (Sc.cells t b l r).vs) ∧ t ≤ b ∧ b ≤ 9 ∧ l ≤ r ∧ r ≤ 9 ∧ Q (.bl true) H
theorem ok_is_cells (T : Txt K mg fds) : FnOk P w K mg base CX0 3 (He.ga K "is_cells") (fds "is_cells") ["value"] spIsCells := by
  refine T.d_is_cells.fn.ok sc_is_cells (fun vs H Q E h => ?_) (fun cdv A outer s H vs Q E hr h => ?_)
  · obtain ⟨p, t, b, l, r, rfl, _⟩ := h; rfl
  · obtain ⟨p, t, b, l, r, rfl, h0, h1, h2, h3, h4, k⟩ := h
    have nd := sc_is_cells.nd
    refine ⟨_, PSs.nox (pss_cons (ps_if (PW.pt (pw_or (pt_not (pt_val (pe_callB call_isi (by rfl) T.g_isinstance (by decide +kernel) (pa_cons (pv 0) (pa_cons (pe_bltn (v := .ty "tuple") (by rfl) T.g_tuple (by decide +kernel) rfl) pa_nil))))) (pw_or (pt_cmpR op_ne (pe_callB call_lenQ (by rfl) T.g_len (by decide +kernel) (pa_cons (pv 0) pa_nil)) pe_int (nomark _)) (pw_or (pt_not (pt_val (pe_callB call_isi (by rfl) T.g_isinstance (by decide +kernel) (pa_cons (pe_ix ix_tup (pv 0) pe_int (fun _ _ => rfl)) (pa_cons (pe_bltn (v := .ty "str") (by rfl) T.g_str (by decide +kernel) rfl) pa_nil))))) (pw_or1 (pt_cmpR op_ne (pe_ix ix_tup (pv 0) pe_int (fun _ _ => rfl)) pe_str (nomark _)))))))
        (pss_one (ps_ret pe_bl))
        pss_nil)
      (pss_one (ps_ret (pe_and (pe_fn T.d_is_range (ok_is_range T) hr rfl (pa_cons (pe_ix ix_tup (pv 0) pe_int (fun _ _ => rfl)) (pa_cons (pe_ix ix_tup (pv 0) pe_int (fun _ _ => rfl)) pa_nil))) (pe_one (pe_fn T.d_is_range (ok_is_range T) hr rfl (pa_cons (pe_ix ix_tup (pv 0) pe_int (fun _ _ => rfl)) (pa_cons (pe_ix ix_tup (pv 0) pe_int (fun _ _ => rfl)) pa_nil)))))))), ?_⟩
    rw [show L2.start N_is_cells [.ref p] = [some (.ref p)] from rfl]
    walk_at "n"
    refine isi (.base (.tup h0)) (r := true) (by decide +kernel) ?_
    walk_at "n"
    walk_at "g"
    refine ⟨_, _, rfl, by omega, by omega, by omega, ?_⟩
    walk_at "g"
    exact ⟨_, _, rfl, by omega, by omega, by omega, k⟩
abbrev s_is_scope : Stmt := top 13
abbrev N_is_scope : List Str := ["value"]
theorem sc_is_scope : FnScope N_is_scope ["value"] (defScope s_is_scope) := ⟨rfl, rfl, rfl, by decide +kernel, rfl, by decide +kernel, by decide +kernel⟩
def spIsScope : Sp := fun vs H Q _ => ∃ (p : Addr) (s : Sc), vs = [.ref p] ∧ H p = some (.tup s.vs) ∧ s.ok ∧ ∀ H', Same H H' → Q (.bl true) H'
theorem ok_is_scope (T : Txt K mg fds) : FnOk P w K mg base CX0 4 (He.ga K "is_scope") (fds "is_scope") ["value"] spIsScope := by
  refine T.d_is_scope.fn.ok sc_is_scope (fun vs H Q E h => ?_) (fun cdv A outer s H vs Q E hr h => ?_)
  · obtain ⟨p, t, rfl, _⟩ := h; rfl
  · obtain ⟨p, t, rfl, h0, hk, k⟩ := h
    have nd := sc_is_scope.nd
    refine ⟨_, PSs.nox (pss_cons (ps_if (PW.pt (pw_or (pt_not (pt_val (pe_callB call_isi (by rfl) T.g_isinstance (by decide +kernel) (pa_cons (pv 0) (pa_cons (pe_bltn (v := .ty "tuple") (by rfl) T.g_tuple (by decide +kernel) rfl) pa_nil))))) (pw_or (pt_not (pt_truth (pv 0) (by intro _; rfl))) (pw_or1 (pt_not (pt_val (pe_callB call_isi (by rfl) T.g_isinstance (by decide +kernel) (pa_cons (pe_ix ix_tup (pv 0) pe_int (fun _ _ => rfl)) (pa_cons (pe_bltn (v := .ty "str") (by rfl) T.g_str (by decide +kernel) rfl) pa_nil)))))))))
        (pss_one (ps_ret pe_bl))
        pss_nil)
      (pss_cons (ps_if (pt_cmpR op_eq (pe_ix ix_tup (pv 0) pe_int (fun _ _ => rfl)) pe_str (nomark _))
        (pss_one (ps_ret (pe_cmpR op_eq (pe_callB call_lenQ (by rfl) T.g_len (by decide +kernel) (pa_cons (pv 0) pa_nil)) pe_int (nomark _))))
        pss_nil)
      (pss_cons (ps_if (PW.pt (pw_and (pt_cmpR op_in_seq (pe_ix ix_tup (pv 0) pe_int (fun _ _ => rfl)) (pe_tup (pa_cons pe_str (pa_cons pe_str pa_nil))) (by with_unfolding_all rfl)) (pw_and1 (pt_cmpR op_eq (pe_callB call_lenQ (by rfl) T.g_len (by decide +kernel) (pa_cons (pv 0) pa_nil)) pe_int (nomark _)))))
        (pss_one (ps_ret (pe_and (pe_fn T.d_is_number (ok_is_number T) hr rfl (pa_cons (pe_ix ix_tup (pv 0) pe_int (fun _ _ => rfl)) (pa_cons pe_int (pa_cons (pe_glob (v := .int 999999) rfl T.c_MOST_sheets.choose_spec ⟨_, rfl⟩) pa_nil)))) (pe_one (pe_or (pe_cmpR op_isQ (pe_ix ix_tup (pv 0) pe_int (fun _ _ => rfl)) pe_non (nomark _)) (pe_one (pe_fn T.d_is_range (ok_is_range T) hr rfl (pa_cons (pe_ix ix_tup (pv 0) pe_int (fun _ _ => rfl)) (pa_cons (pe_ix ix_tup (pv 0) pe_int (fun _ _ => rfl)) pa_nil)))))))))
        pss_nil)
      (pss_one (ps_ret (pe_fn T.d_is_cells (ok_is_cells T) hr rfl (pa_cons (pv 0) pa_nil))))))), ?_⟩
    rw [show L2.start N_is_scope [.ref p] = [some (.ref p)] from rfl]
    walk_at "n"
    cases t with
    | table =>
      walk_at "g"
      refine ⟨true, .inr (.inl ⟨_, SqT.of h0, rfl⟩), ?_⟩
      walk_at "g"
      exact k H (Same.refl H)
    | rows a b =>
      walk_at "g"
      refine ⟨true, .inr (.inl ⟨_, SqT.of h0, rfl⟩), ?_⟩
      walk_at "g"
      refine ⟨by show 2 ≤ sizeLine; decide, fun q hq => ?_⟩
      have s1 := same_upd (o := .tup [.str "rows", .str "columns"]) hq
      have h1 := s1 _ _ h0
      refine inS (b := true) (SqT.of upd_same) rfl (by decide +kernel) ?_
      walk_at "g"
      obtain ⟨k1, k2⟩ := hk
      refine isNumT (by omega) (by omega) ?_
      walk_at "g"
      cases b with
      | none =>
        walk_at "n"
        exact k _ s1
      | some n =>
        obtain ⟨k3, k4⟩ := k2 n rfl
        walk_at "g"
        exact ⟨_, _, rfl, by omega, by omega, by omega, k _ s1⟩
    | cols a b =>
      walk_at "g"
      refine ⟨true, .inr (.inl ⟨_, SqT.of h0, rfl⟩), ?_⟩
      walk_at "g"
      refine ⟨by show 2 ≤ sizeLine; decide, fun q hq => ?_⟩
      have s1 := same_upd (o := .tup [.str "rows", .str "columns"]) hq
      have h1 := s1 _ _ h0
      refine inS (b := true) (SqT.of upd_same) rfl (by decide +kernel) ?_
      walk_at "g"
      obtain ⟨k1, k2⟩ := hk
      refine isNumT (by omega) (by omega) ?_
      walk_at "g"
      cases b with
      | none =>
        walk_at "n"
        exact k _ s1
      | some n =>
        obtain ⟨k3, k4⟩ := k2 n rfl
        walk_at "g"
        exact ⟨_, _, rfl, by omega, by omega, by omega, k _ s1⟩
    | cells t b l r =>
      walk_at "g"
      refine ⟨true, .inr (.inl ⟨_, SqT.of h0, rfl⟩), ?_⟩
      walk_at "g"
      refine ⟨by show 2 ≤ sizeLine; decide, fun q hq => ?_⟩
      have s1 := same_upd (o := .tup [.str "rows", .str "columns"]) hq
      have h1 := s1 _ _ h0
      refine inS (b := false) (SqT.of upd_same) rfl (by decide +kernel) ?_
      walk_at "g"
      obtain ⟨k1, k2, k3, k4⟩ := hk
      exact ⟨p, t, b, l, r, rfl, h1, k1, k2, k3, k4, k _ s1⟩
abbrev s_is_told_value : Stmt := top 14
abbrev N_is_told_value : List Str := ["value"]
theorem sc_is_told_value : FnScope N_is_told_value ["value"] (defScope s_is_told_value) := ⟨rfl, rfl, rfl, by decide +kernel, rfl, by decide +kernel, by decide +kernel⟩
def spIsTold : Sp := fun vs H Q _ => ∃ x : Option Nat, vs = [ov x] ∧ (∀ n, x = some n → n ≤ 9) ∧ Q (.bl true) H
theorem ok_is_told_value (T : Txt K mg fds) : FnOk P w K mg base CX0 2 (He.ga K "is_told_value") (fds "is_told_value") ["value"] spIsTold := by
  refine T.d_is_told_value.fn.ok sc_is_told_value (fun vs H Q E h => ?_) (fun cdv A outer s H vs Q E hr h => ?_)
  · obtain ⟨p, rfl, _⟩ := h; rfl
  · obtain ⟨x, rfl, h0, k⟩ := h
    have nd := sc_is_told_value.nd
    refine ⟨_, PSs.nox (pss_one (ps_ret (pe_or (pe_cmpR op_isQ (pv 0) pe_non (nomark _)) (pe_one (pe_fn T.d_is_number (ok_is_number T) hr rfl (pa_cons (pv 0) (pa_cons pe_int (pa_cons pe_int pa_nil)))))))), ?_⟩
    rw [show L2.start N_is_told_value [ov x] = [some (ov x)] from rfl]
    cases x with
    | none =>
      walk_at "n"
      exact k
    | some n =>
      have := h0 n rfl
      walk_at "n"
      exact isNumT (by omega) (by omega) k
abbrev s_is_axis : Stmt := top 15
abbrev N_is_axis : List Str := ["value"]
theorem sc_is_axis : FnScope N_is_axis ["value"] (defScope s_is_axis) := ⟨rfl, rfl, rfl, by decide +kernel, rfl, by decide +kernel, by decide +kernel⟩
def spIsAxis : Sp := fun vs H Q _ => ∃ x : Ax, vs = [.str x.s] ∧ ∀ H', Same H H' → Q (.bl true) H'
theorem ok_is_axis (T : Txt K mg fds) : FnOk P w K mg base CX0 1 (He.ga K "is_axis") (fds "is_axis") ["value"] spIsAxis := by
  refine T.d_is_axis.fn.ok sc_is_axis (fun vs H Q E h => ?_) (fun cdv A outer s H vs Q E hr h => ?_)
  · obtain ⟨p, rfl, _⟩ := h; rfl
  · obtain ⟨x, rfl, k⟩ := h
    have nd := sc_is_axis.nd
    refine ⟨_, PSs.nox (pss_one (ps_ret (pe_and (pe_callB call_isi (by rfl) T.g_isinstance (by decide +kernel) (pa_cons (pv 0) (pa_cons (pe_bltn (v := .ty "str") (by rfl) T.g_str (by decide +kernel) rfl) pa_nil))) (pe_one (pe_cmpR op_in_seq (pv 0) (pe_tup (pa_cons pe_str (pa_cons pe_str pa_nil))) (by with_unfolding_all rfl)))))), ?_⟩
    rw [show L2.start N_is_axis [.str x.s] = [some (.str x.s)] from rfl]
    walk_at "g"
    refine ⟨by show 2 ≤ sizeLine; decide, fun q hq => ?_⟩
    refine inS (b := true) (SqT.of upd_same) rfl (by cases x <;> decide +kernel) ?_
    exact k _ (same_upd hq)
abbrev s_is_small : Stmt := top 39
abbrev N_is_small : List Str := ["value"]
theorem sc_is_small : FnScope N_is_small ["value"] (defScope s_is_small) := ⟨rfl, rfl, rfl, by decide +kernel, rfl, by decide +kernel, by decide +kernel⟩
def spIsSmall : Sp := fun vs H Q _ => ∃ n : Nat, vs = [.int (n : Int)] ∧ n ≤ 9 ∧ Q (.bl true) H
theorem ok_is_small (T : Txt K mg fds) : FnOk P w K mg base CX0 2 (He.ga K "is_small") (fds "is_small") ["value"] spIsSmall := by
  refine T.d_is_small.fn.ok sc_is_small (fun vs H Q E h => ?_) (fun cdv A outer s H vs Q E hr h => ?_)
  · obtain ⟨p, rfl, _⟩ := h; rfl
  · obtain ⟨x, rfl, h0, k⟩ := h
    have nd := sc_is_small.nd
    refine ⟨_, PSs.nox (pss_one (ps_ret (pe_fn T.d_is_number (ok_is_number T) hr rfl (pa_cons (pv 0) (pa_cons pe_int (pa_cons (pe_glob (v := .int 9) rfl T.c_WIDEST_deeds.choose_spec ⟨_, rfl⟩) pa_nil)))))), ?_⟩
    rw [show L2.start N_is_small [.int (x : Int)] = [some (.int (x : Int))] from rfl]
    walk_at "g"
    exact isNumT (by omega) (by omega) k
abbrev s_is_shift : Stmt := top 41
abbrev N_is_shift : List Str := ["value"]
theorem sc_is_shift : FnScope N_is_shift ["value"] (defScope s_is_shift) := ⟨rfl, rfl, rfl, by decide +kernel, rfl, by decide +kernel, by decide +kernel⟩
def spIsShift : Sp := fun vs H Q _ => ∃ (p : Addr) (a : V) (x : Ax) (i n : Nat) (r : List V), vs = [.ref p] ∧ H p = some (.tup (a :: .str x.s :: .int (i : Int) :: .int (n : Int) :: r)) ∧ i ≤ 9 ∧ 1 ≤ n ∧ n ≤ 3 ∧ ∀ H', Same H H' → Q (.bl true) H'
theorem ok_is_shift (T : Txt K mg fds) : FnOk P w K mg base CX0 3 (He.ga K "is_shift") (fds "is_shift") ["value"] spIsShift := by
  refine T.d_is_shift.fn.ok sc_is_shift (fun vs H Q E h => ?_) (fun cdv A outer s H vs Q E hr h => ?_)
  · obtain ⟨p, a, x, i, n, r, rfl, _⟩ := h; rfl
  · obtain ⟨p, a, x, i, n, r, rfl, h0, h1, h2, h3, k⟩ := h
    have nd := sc_is_shift.nd
    refine ⟨_, PSs.nox (pss_one (ps_ret (pe_and (pe_fn T.d_is_axis (ok_is_axis T) hr rfl (pa_cons (pe_ix ix_tup (pv 0) pe_int (fun _ _ => rfl)) pa_nil)) (pe_and (pe_fn T.d_is_small (ok_is_small T) hr rfl (pa_cons (pe_ix ix_tup (pv 0) pe_int (fun _ _ => rfl)) pa_nil)) (pe_one (pe_fn T.d_is_number (ok_is_number T) hr rfl (pa_cons (pe_ix ix_tup (pv 0) pe_int (fun _ _ => rfl)) (pa_cons pe_int (pa_cons pe_int pa_nil))))))))), ?_⟩
    rw [show L2.start N_is_shift [.ref p] = [some (.ref p)] from rfl]
    walk_at "n"
    refine ixT h0 (atI_nat (j := 1) rfl) ?_
    refine ⟨x, rfl, fun H' s1 => ?_⟩
    have h0' := s1 _ _ h0
    walk_at "n"
    refine ixT h0' (atI_nat (j := 2) rfl) ?_
    refine ⟨i, rfl, h1, ?_⟩
    walk_at "n"
    refine ixT h0' (atI_nat (j := 3) rfl) ?_
    exact isNumT (by omega) (by omega) (k _ s1)
end

end Gr

namespace Gr
open PySem PySem.Spec PyProof.Rows L2
/-! ### heaps that grow -/
/-- all that is tracked stays, but at D -/
def Grow (D : Addr) (H H' : Hp) : Prop := ∀ b o, b ≠ D → H b = some o → H' b = some o
theorem Grow.refl (D : Addr) (H : Hp) : Grow D H H := fun _ _ _ e => e
theorem Grow.trans {D : Addr} {H H1 H2 : Hp} (a : Grow D H H1) (b : Grow D H1 H2) : Grow D H H2 := fun c o n e => b c o n (a c o n e)
theorem Grow.of {D : Addr} {H H' : Hp} (e : Same H H') : Grow D H H' := fun b o _ h => e b o h
theorem Grow.upd {D : Addr} {H : Hp} (o : HO) : Grow D H (upd H D o) := fun b u n e => by rw [upd_ne n]; exact e
theorem Grow.same {D : Addr} {H H' : Hp} (g : Grow D H H') (n : H D = none) : Same H H' := fun b o e => g b o (ne_of_none e n) e
theorem Same.upd {H : Hp} {q : Addr} (o : HO) (n : H q = none) : Same H (upd H q o) := same_upd n
theorem Same.tup {H H' : Hp} (e : Same H H') : ∀ b xs, H b = some (.tup xs) → H' b = some (.tup xs) := fun b xs h => e b _ h
/-! ### comprehensions and loops, by name -/
def LcT (J : It) (g : TG) (tt : TT) (te : TE) (vs : List Nat) (σ : L2.St) (H1 : Hp) (Q : VK) : Prop := ∀ D, H1 D = none → ∃ W : Nat → Nat → Hp → Prop, (∃ m, W 0 m (upd H1 D (.lst []))) ∧ ∀ i m H, W i m H →
  (J.stop i H ∧ Q (.ref D) H) ∨ (J.go i H ∧ ∃ Nx : Hp → Prop, (∀ H', Nx H' → ∃ m', m' < m ∧ W (i + 1) m' H') ∧ ∀ x H', J.yld i H x H' → g x (wipe σ vs) H' fun σ2 H2 => wipe σ2 vs = wipe σ vs ∧ tt σ2 H2 fun b H3 =>
    if b = true then te σ2 H3 fun y H4 => ∃ acc, H4 D = some (.lst acc) ∧ acc.length < sizeLine ∧ Nx (upd H4 D (.lst (acc ++ [y]))) else Nx H3)
theorem u_tLc {wi : TI} {g : TG} {tt : TT} {te : TE} {vs : List Nat} {σ : L2.St} {H : Hp} {Q : VK} : tLc wi g tt te vs σ H Q = wi σ H fun J H1 => LcT J g tt te vs σ H1 Q := rfl
def DcT (J : It) (g : TG) (tt : TT) (tk tv : TE) (vs : List Nat) (σ : L2.St) (H1 : Hp) (Q : VK) : Prop := ∀ D, H1 D = none → ∃ W : Nat → Nat → Hp → Prop, (∃ m, W 0 m (upd H1 D (.dK []))) ∧ ∀ i m H, W i m H →
  (J.stop i H ∧ Q (.ref D) H) ∨ (J.go i H ∧ ∃ Nx : Hp → Prop, (∀ H', Nx H' → ∃ m', m' < m ∧ W (i + 1) m' H') ∧ ∀ x H', J.yld i H x H' → g x (wipe σ vs) H' fun σ2 H2 => wipe σ2 vs = wipe σ vs ∧ tt σ2 H2 fun b H3 =>
    if b = true then tk σ2 H3 fun y H4 => tv σ2 H4 fun z H5 => ∃ kvs k, y = kV k ∧ H5 D = some (.dK kvs) ∧ kvs.length < sizeLine ∧ Nx (upd H5 D (.dK (putK kvs k z))) else Nx H3)
theorem u_tDc {wi : TI} {g : TG} {tt : TT} {tk tv : TE} {vs : List Nat} {σ : L2.St} {H : Hp} {Q : VK} : tDc wi g tt tk tv vs σ H Q = wi σ H fun J H1 => DcT J g tt tk tv vs σ H1 Q := rfl
def ForT (J : It) (g : TG) (tb : TS) (D : Ends) (σ : L2.St) (H : Hp) : Prop := ∃ W : Nat → Nat → L2.St → Hp → Prop, (∃ m, W 0 m σ H) ∧ ∀ i m σ H, W i m σ H →
  (J.stop i H ∧ D.nx σ H) ∨ (J.go i H ∧ ∃ N : L2.St → Hp → Prop, (∀ σ' H', N σ' H' → ∃ m', m' < m ∧ W (i + 1) m' σ' H') ∧ ∀ x H', J.yld i H x H' → g x σ H' fun σ2 H2 => tb { D with nx := N, ct := N, bk := D.nx } σ2 H2)
theorem u_tFor {wi : TI} {g : TG} {tb : TS} {D : Ends} {σ : L2.St} {H : Hp} : tFor wi g tb D σ H = wi σ H fun J H1 => ForT J g tb D σ H1 := rfl
theorem forW {J : It} {n : Nat} {G : Hp → Prop} {Y : Nat → Hp → V → Hp → Prop} (w : Walk J n G Y) {g : TG} {tb : TS} {D : Ends} {σ : L2.St} {H : Hp} (Pv : Nat → L2.St → Hp → Prop) (h0 : Pv 0 σ H) (hG : ∀ i σ H, i ≤ n → Pv i σ H → G H)
    (hs : ∀ i x σ H H', i < n → Pv i σ H → Y i H x H' → g x σ H' fun σ2 H2 => tb { D with nx := Pv (i + 1), ct := Pv (i + 1), bk := D.nx } σ2 H2) (hd : ∀ σ H, Pv n σ H → D.nx σ H) : ForT J g tb D σ H := for_it w Pv h0 hG hs hd
/-- a comprehension, told by I over what is made so far -/
theorem lc_inv {J : It} {n : Nat} {G : Hp → Prop} {Y : Nat → Hp → V → Hp → Prop} (w : Walk J n G Y) {g : TG} {tt : TT} {te : TE} {vs : List Nat} {σ : L2.St} {H1 : Hp} {Q : VK} (Iv : Addr → Nat → List V → Hp → Prop) (hn : n ≤ 1000)
    (len : ∀ D i acc H, Iv D i acc H → acc.length ≤ i) (h0 : ∀ D, H1 D = none → Iv D 0 [] (upd H1 D (.lst []))) (hG : ∀ D H, H1 D = none → Grow D H1 H → G H)
    (step : ∀ D i x H H' acc (k : VK) (kn : Hp → Prop), H1 D = none → i < n → Grow D H1 H → H D = some (.lst acc) → Iv D i acc H → Y i H x H' → (∀ y H3, Same H H3 → Iv D (i + 1) (acc ++ [y]) (upd H3 D (.lst (acc ++ [y]))) → k y H3) → (∀ H3, Same H H3 → Iv D (i + 1) acc H3 → kn H3) →
      g x (wipe σ vs) H' fun σ2 H2 => wipe σ2 vs = wipe σ vs ∧ tt σ2 H2 fun b H3 => if b = true then te σ2 H3 k else kn H3)
    (fin : ∀ D ys H, H1 D = none → Grow D H1 H → H D = some (.lst ys) → Iv D n ys H → Q (.ref D) H) : LcT J g tt te vs σ H1 Q := fun D hD => by
  refine lc_it w (fun i H => Grow D H1 H ∧ ∃ acc, H D = some (.lst acc) ∧ Iv D i acc H) ⟨Grow.upd _, [], upd_same, h0 D hD⟩ (fun i H _ p => hG D H hD p.1) ?_ ?_
  · rintro i x H H' hi ⟨gr, acc, hacc, hI⟩ y
    have hl := len D i acc H hI
    refine step D i x H H' acc _ _ hD hi gr hacc hI y (fun z H3 s1 i1 => ?_) fun H3 s1 i1 => ?_
    · exact ⟨acc, s1 _ _ hacc, by have := (by decide : 1000 < sizeLine); omega, gr.trans ((Grow.of s1).trans (Grow.upd _)), _, upd_same, i1⟩
    · exact ⟨gr.trans (Grow.of s1), acc, s1 _ _ hacc, i1⟩
  · rintro H ⟨gr, acc, hacc, hI⟩
    exact fin D acc H hD gr hacc hI
/-- a comprehension without a test: each item told by R -/
theorem lc_map {J : It} {n : Nat} {G : Hp → Prop} {Y : Nat → Hp → V → Hp → Prop} (w : Walk J n G Y) {g : TG} {te : TE} {vs : List Nat} {σ : L2.St} {H1 : Hp} {Q : VK} (R : Addr → Nat → V → Hp → Prop) (hn : n ≤ 1000)
    (stay : ∀ D i y H H' acc, H D = some (.lst acc) → Grow D H H' → R D i y H → R D i y H') (hG : ∀ D H, H1 D = none → Grow D H1 H → G H)
    (step : ∀ D i x H H' acc (k : VK), H1 D = none → i < n → Grow D H1 H → H D = some (.lst acc) → Y i H x H' → (∀ y H3, Same H H3 → R D i y H3 → k y H3) → g x (wipe σ vs) H' fun σ2 H2 => wipe σ2 vs = wipe σ vs ∧ te σ2 H2 k)
    (fin : ∀ D ys H, H1 D = none → Grow D H1 H → H D = some (.lst ys) → ys.length = n → (∀ i y, ys[i]? = some y → R D i y H) → Q (.ref D) H) : LcT J g tYes te vs σ H1 Q := by
  refine lc_inv w (fun D i acc H => H D = some (.lst acc) ∧ acc.length = i ∧ ∀ j y, acc[j]? = some y → R D j y H) hn (fun D i acc H h => Nat.le_of_eq h.2.1) (fun D _ => ⟨upd_same, rfl, fun j y e => by cases e⟩) hG ?_ ?_
  · rintro D i x H H' acc k kn hD hi gr hacc ⟨_, hl, hR⟩ y kk _
    refine step D i x H H' acc k hD hi gr hacc y fun z H3 s1 r => kk z H3 s1 ⟨upd_same, by simp [hl], fun j u e => ?_⟩
    have h3 := s1 _ _ hacc
    refine stay D j u H3 _ acc h3 (Grow.upd _) ?_
    by_cases hj : j < acc.length
    · rw [List.getElem?_append_left hj] at e
      exact stay D j u H H3 acc hacc (Grow.of s1) (hR j u e)
    · rw [List.getElem?_append_right (by omega)] at e
      have hj2 : j - acc.length = 0 := by
        have := (List.getElem?_eq_some_iff.mp e).1
        simp at this
        omega
      rw [hj2] at e
      cases e
      have : j = i := by omega
      rw [this]
      exact r
  · rintro D ys H hD gr hy ⟨_, hl, hR⟩
    exact fin D ys H hD gr hy hl hR
/-- a dict comprehension without a test -/
theorem dc_inv {J : It} {n : Nat} {G : Hp → Prop} {Y : Nat → Hp → V → Hp → Prop} (w : Walk J n G Y) {g : TG} {tk tv : TE} {vs : List Nat} {σ : L2.St} {H1 : Hp} {Q : VK} (Iv : Addr → Nat → List (Key × V) → Hp → Prop) (hn : n ≤ 1000)
    (len : ∀ D i acc H, Iv D i acc H → acc.length ≤ i) (h0 : ∀ D, H1 D = none → Iv D 0 [] (upd H1 D (.dK []))) (hG : ∀ D H, H1 D = none → Grow D H1 H → G H)
    (step : ∀ D i x H H' acc (k : V → V → Hp → Prop), H1 D = none → i < n → Grow D H1 H → H D = some (.dK acc) → Iv D i acc H → Y i H x H' → (∀ y z ky H3, y = kV ky → Same H H3 → Iv D (i + 1) (putK acc ky z) (upd H3 D (.dK (putK acc ky z))) → k y z H3) →
      g x (wipe σ vs) H' fun σ2 H2 => wipe σ2 vs = wipe σ vs ∧ tk σ2 H2 fun y H4 => tv σ2 H4 fun z H5 => k y z H5)
    (fin : ∀ D ys H, H1 D = none → Grow D H1 H → H D = some (.dK ys) → Iv D n ys H → Q (.ref D) H) : DcT J g tYes tk tv vs σ H1 Q := fun D hD => by
  refine ⟨fun i m H => m = n - i ∧ i ≤ n ∧ Grow D H1 H ∧ ∃ acc, H D = some (.dK acc) ∧ Iv D i acc H, ⟨n, by simp, Nat.zero_le _, Grow.upd _, [], upd_same, h0 D hD⟩, ?_⟩
  rintro i m H ⟨rfl, hi, gr, acc, hacc, hI⟩
  have q := hG D H hD gr
  by_cases hlt : i < n
  · refine .inr ⟨w.goes i H hlt q, fun H3 => i + 1 ≤ n ∧ Grow D H1 H3 ∧ ∃ acc, H3 D = some (.dK acc) ∧ Iv D (i + 1) acc H3, fun H' p' => ⟨n - (i + 1), by omega, rfl, p'⟩, fun x H' y => ?_⟩
    have hl := len D i acc H hI
    refine step D i x H H' acc _ hD hlt gr hacc hI (w.yields i H x H' hlt q y) fun yk z ky H3 ek s1 i1 => ?_
    exact ⟨acc, ky, ek, s1 _ _ hacc, by have := (by decide : 1000 < sizeLine); omega, hlt, gr.trans ((Grow.of s1).trans (Grow.upd _)), _, upd_same, i1⟩
  · have e : i = n := by omega
    subst e
    exact .inl ⟨w.stops H q, fin D acc H hD gr hacc hI⟩
end Gr

namespace Gr
open PySem PySem.Spec PyProof.Rows L2
/-! ### enumerate of a tuple -/
theorem en_meets {v : Value} {o : Obj} {S : Heap → Prop} (B : Begins v o S) :
    Meets (Builtin.«enumerate.__new__» ⟨[.type "enumerate", v], []⟩) (fun _ R z => S z.heap ∧
      R (.ok (.ret (.ref (z.heap.push o).objs.size)))
        { z with heap := (z.heap.push o).push { cls := .type "enumerate", data := .fields #[.none, .bool false, .ref z.heap.objs.size, rawInt 0, .none, .none] } }) :=
  .of_wp fun pr wo ar R z hz => by
    obtain ⟨hp, gs, dr, tk, os⟩ := z
    obtain ⟨h1, hz⟩ := hz
    have hsub := sub_enumerate
    have go : ∀ {A' : Around} {E' : Value → Shared → Prop} {Q' : Value → Shared → Prop}, Q' (.ref hp.objs.size) ⟨hp.push o, gs, dr, tk, os⟩ → wpAny (model pr wo) A' (pyIter v) Q' E' ⟨hp, gs, dr, tk, os⟩ :=
      fun q => B.iter pr wo _ _ ⟨hp, gs, dr, tk, os⟩ _ h1 q
    wp_walk using go
    refine wpAny_stack_any fun stk => wpAny_pure ?_
    split
    · rename_i cc _ _ _ _ _
      cases (cc == Value.type "enumerate")
      · wp_walk using go
        exact ⟨_, rfl, hz⟩
      · wp_walk using go
        exact ⟨_, rfl, hz⟩
    · wp_walk using go
      exact ⟨_, rfl, hz⟩
theorem en_call {prog : Program} {w : World} {A : Around} {E : Value → Shared → Prop} {s : Shared} {v : Value} {o : Obj} {S : Heap → Prop} {Q : Value → Shared → Prop} (B : Begins v o S) (h1 : S s.heap)
    (h : ∀ h', IsEnum h' (s.heap.objs.size + 1) s.heap.objs.size 0 .none → h'.get? s.heap.objs.size = some o → (∀ b u, s.heap.get? b = some u → h'.get? b = some u) → Q (.ref (s.heap.objs.size + 1)) { s with heap := h' }) :
    wpAny (model prog w) A (call (.type "enumerate") [v]) Q E s := by
  refine callType_new F.called_enumerate (by decide) (F.typeCall_enumerate_1 _) (F.newCall_enumerate_1 _) (fun ob => F.args_object_init_2 ob _) F.entry_enumerate_new (en_meets B) ⟨h1, ?_⟩
  have sz : (s.heap.push o).objs.size = s.heap.objs.size + 1 := Heap.size_push ..
  show _ ∧ _
  rw [sz]
  have e1 := Heap.get?_push_size (s.heap.push o) (o := { cls := .type "enumerate", data := .fields #[.none, .bool false, .ref s.heap.objs.size, rawInt 0, .none, .none] }) rfl
  rw [sz] at e1
  refine ⟨⟨_, e1, rfl⟩, h _ e1 (Heap.get?_push_of_some _ (Heap.get?_push_size _ B.free)) fun b u x => Heap.get?_push_of_some _ (Heap.get?_push_of_some _ x)⟩
/-- the tuple at a, each item in a new pair -/
def ItEt (K : PySem.W.Frag) (a : Addr) : It where
  go := fun i H => ∃ (xs : List V) (x : V), SqT K H a xs ∧ xs[i]? = some x
  yld := fun i H v H' => ∃ T x, v = .ref T ∧ H T = none ∧ H' = upd H T (.tup [.int (i : Nat), x]) ∧ ∀ xs, SqT K H a xs → xs[i]? = some x
  stop := fun i H => ∃ xs : List V, SqT K H a xs ∧ xs.length = i
theorem turn_enumT {P : Program} {w : World} {K : PySem.W.Frag} {elts : List Expr} {kk : Nat} {tpos : Pos} (a en it : Addr) (ha : a < it) (hen : it < en) :
    Turn P w K (.Tuple elts kk tpos) (ItEt K a) [en, it] en (fun i h => (∃ old, IsEnum h en it ((i : Nat) : Int) old) ∧ h.IsTupleIter it a i) where
  mem := by simp
  obj := fun i h st b hb => by
    obtain ⟨⟨old, he⟩, ⟨o, ho, hc, hd⟩⟩ := st
    rcases (show b = en ∨ b = it by simpa using hb) with z | z
    · rw [z]
      exact ⟨_, he, fun v q => nomatch q⟩
    · rw [z]
      exact ⟨o, ho, fun v q => by rw [hd] at q; cases q⟩
  keep := fun i h h' st k => by
    obtain ⟨⟨old, he⟩, hi⟩ := st
    exact ⟨⟨old, k en (by simp) _ he⟩, hi.at fun o q => k it (by simp) o q⟩
  item := by
    intro X e1 e2 e3 hc i pins s σ H E I hf st hg
    subst e1 e2 e3
    obtain ⟨⟨old, he⟩, hit⟩ := st
    obtain ⟨xs, x, hq, hx⟩ := hg
    obtain ⟨its, rv, p, hz⟩ := I.tuple hq
    obtain ⟨u, hu, ru⟩ := rv.get hx
    have hne : en ≠ it := Nat.ne_of_gt hen
    have hel : en < s.heap.objs.size := Heap.lt_size he
    have hil : it < s.heap.objs.size := Nat.lt_trans hen hel
    have hu2 : its.toArray[i]? = some u := by simpa using hu
    have hlt : i < its.toArray.size := (Array.getElem?_eq_some_iff.mp hu2).1
    have dr := Draws.tuple (prog := X.prog) (w := X.w) (A := X.A.in1) (I.ok.hd hc) it a (Nat.ne_of_lt ha) its.toArray
    refine wpAny_pyNext_enum_itemD dr he ⟨hit, p⟩ hlt hne (by simp [hne, Nat.ne_of_gt (Nat.lt_trans ha hen)]) fun y h' tk hy ho hst hT hsz hk => ?_
    have ey : y = u := by
      rw [hu2] at hy
      exact (Option.some.inj hy).symm
    subst ey
    refine ⟨_, rfl, wpAny_letOwnedTupleGo_enum (s := { s with heap := h', toks := tk + 1 }) ho fun h2 he' sb => ?_⟩
    have hT2 := (sb.2 _ (Nat.ne_of_gt hel)).trans hT
    have nw : ObjOk X.prog X.w (upd H s.heap.objs.size (.tup [.int (i : Nat), x])) h2 s.heap.objs.size (.tup [.int (i : Nat), x]) :=
      ⟨by show 2 ≤ sizeLine; decide, [.int i tk, y], .cons ⟨_, rfl⟩ (.cons ru .nil), ⟨_, hT2, rfl, _, rfl⟩⟩
    have I1 := I.turnedNew (t' := tk + 1) (ch := [en, it]) (fun b ob hb q => (sb.2 b (fun z => hb (by simp [z]))).trans (hk b ob (fun z => hb (by simp [z])) (fun z => hb (by simp [z])) q)) hf (Nat.le_refl _) nw
    refine ⟨.ref s.heap.objs.size, _, I1, rfl, ⟨_, x, rfl, I.hok.fresh (Nat.le_refl _), rfl, fun ys hy => by rw [I.tuple_inj hy hq]; exact hx⟩, ⟨⟨y, ?_⟩, hst.1.at fun o q => (sb.2 it hne.symm).trans q⟩, fun b hb => ?_⟩
    · rw [show ((i + 1 : Nat) : Int) = (i : Int) + 1 by omega]
      exact he'
    · have hlb : b < s.heap.objs.size := by
        rcases (show b = en ∨ b = it by simpa using hb) with z | z
        · rw [z]; exact hel
        · rw [z]; exact hil
      rw [upd_ne (Nat.ne_of_lt hlb)]
      exact (hf b hb).1
  done := by
    intro X e1 e2 e3 hc i pins s σ H E I hf st hg
    subst e1 e2 e3
    obtain ⟨⟨old, he⟩, hit⟩ := st
    obtain ⟨xs, hq, hx⟩ := hg
    obtain ⟨its, rv, p, hz⟩ := I.tuple hq
    have dr := Draws.tuple (prog := X.prog) (w := X.w) (A := X.A.in1) (I.ok.hd hc) it a (Nat.ne_of_lt ha) its.toArray
    obtain ⟨f0, f1, f2, f3, f4, f5⟩ := hf it (by simp)
    have ei : i = its.toArray.size := by
      rw [List.size_toArray, ← rv.length]
      exact hx.symm
    exact wpAny_pyNext_enum_endD dr he (by rw [← ei]; exact ⟨hit, p⟩) fun h' eb => ⟨rfl, I.turned (t' := s.toks) (fun b o hb q => eb b o hb q) f0 f1 f3 f4 f5⟩
  self := fun A i s Q E st h => by
    obtain ⟨⟨_, he⟩, _⟩ := st
    exact wpAny_pyIter_enum he h
def iEnumT (K : PySem.W.Frag) (ta : TA) : TI := fun σ H R => ta σ H fun vs H1 => ∃ a xs, vs = [.ref a] ∧ SqT K H1 a xs ∧ R (ItEt K a) H1
theorem pi_enumT {X : Cx} {e : Expr} {ta : TA} {p pos tpos : Pos} {elts : List Expr} {kk : Nat} (hg : Gl X "enumerate") (hm : X.mg "enumerate" = none) (ha : PA X [e] ta) (hs : starEach [e] X.env = [(false, eval e X.env)] := by rfl) :
    PI X (.Tuple elts kk tpos) (.Call (.Name "enumerate" p) [e] [] pos) (iEnumT X.K ta) := by
  refine ⟨fun pins s σ H R I h => Call_ (ld_blt I hg hm boot_enumerate (PyProof.Rows.callWith_type1 (thn (ha.run pos pins s σ H _ I h) fun us s1 hq => ?_) hs rfl))⟩
  obtain ⟨vs, H1, I1, r1, a, xs, ex, hq, q⟩ := hq
  subst ex
  cases r1 with
  | cons r rr =>
    cases rr
    cases r
    obtain ⟨its, rv, p', hz⟩ := I1.tuple hq
    have hal : a < s1.heap.objs.size := p'.lt
    refine en_call (begins_tuple a its.toArray) p' fun h' he hi hk => wpAny_pyIter_enum he ?_
    have I2 : L2.Inv X pins σ H1 { s1 with heap := h' } := I1.kept (t' := s1.toks) hk
    refine ⟨s1.heap.objs.size + 1, [s1.heap.objs.size + 1, s1.heap.objs.size], _, _, H1, rfl, I2, turn_enumT a (s1.heap.objs.size + 1) s1.heap.objs.size hal (Nat.lt_succ_self _), ⟨⟨.none, he⟩, ⟨_, hi, rfl, rfl⟩⟩, fun b hb => ?_, q⟩
    have hle : s1.heap.objs.size ≤ b := by
      rcases (show b = s1.heap.objs.size + 1 ∨ b = s1.heap.objs.size by simpa using hb) with z | z
      · rw [z]; exact Nat.le_add_right _ _
      · rw [z]; exact Nat.le_refl _
    exact I1.fpOk hle (I1.hok.fresh hle)
theorem walk_enumT {K : PySem.W.Frag} {a : Addr} {xs : List V} : Walk (ItEt K a) xs.length (fun H => SqT K H a xs) (YPair (fun i => some (.int (i : Nat))) (fun i => xs[i]?)) where
  goes := fun i H hi q => ⟨xs, xs[i], q, by simp [hi]⟩
  stops := fun H q => ⟨xs, q, rfl⟩
  yields := fun i H v H' _ q y => by
    obtain ⟨T, x, h1, h2, h3, h4⟩ := y
    exact ⟨T, .int (i : Nat), x, h1, h2, h3, rfl, h4 xs q⟩
/-! ### zip of a tuple and two lists -/
theorem lt6 {n m d : Nat} (h : n + 5 < m) (e : d = n + 5 ∨ d = n + 3 ∨ d = n + 4 ∨ d = n ∨ d = n + 1 ∨ d = n + 2) : d < m := by omega
theorem le6 {n d : Nat} (e : d = n + 5 ∨ d = n + 3 ∨ d = n + 4 ∨ d = n ∨ d = n + 1 ∨ d = n + 2) : n ≤ d := by omega
def Itz3 (K : PySem.W.Frag) (a b c : Addr) : It where
  go := fun i H => ∃ (xs ys zs : List V) (x y z : V), SqT K H a xs ∧ SqL K H b ys ∧ SqL K H c zs ∧ xs[i]? = some x ∧ ys[i]? = some y ∧ zs[i]? = some z
  yld := fun i H v H' => ∃ T x y z, v = .ref T ∧ H T = none ∧ H' = upd H T (.tup [x, y, z]) ∧ (∀ xs, SqT K H a xs → xs[i]? = some x) ∧ (∀ ys, SqL K H b ys → ys[i]? = some y) ∧ ∀ zs, SqL K H c zs → zs[i]? = some z
  stop := fun i H => ∃ xs ys zs : List V, SqT K H a xs ∧ SqL K H b ys ∧ SqL K H c zs ∧ xs.length = i ∧ ys.length = i ∧ zs.length = i
theorem turn_zip3 {P : Program} {w : World} {K : PySem.W.Frag} {elts : List Expr} {kk : Nat} {tpos : Pos} {a b c n : Addr} (la : a < n) (lb : b < n) (lc : c < n) :
    Turn P w K (.Tuple elts kk tpos) (Itz3 K a b c) [n + 5, n + 3, n + 4, n, n + 1, n + 2] (n + 5)
      (fun i h => IsZip h (n + 5) (n + 3) (n + 4) .none ∧ IsTupOf3 h (n + 3) (.ref n) (.ref (n + 1)) (.ref (n + 2)) ∧ (∃ u1 u2 u3, IsTupOf3 h (n + 4) u1 u2 u3) ∧ h.IsTupleIter n a i ∧ h.IsListIter (n + 1) b i ∧ h.IsListIter (n + 2) c i) where
  mem := by simp
  obj := fun i h st d hd => by
    obtain ⟨hz, hTI, ⟨u1, u2, u3, hTO⟩, ⟨o1, e1, _, d1⟩, ⟨o2, e2, _, d2⟩, ⟨o3, e3, _, d3⟩⟩ := st
    rcases (show d = n + 5 ∨ d = n + 3 ∨ d = n + 4 ∨ d = n ∨ d = n + 1 ∨ d = n + 2 by simpa using hd) with q | q | q | q | q | q
    · rw [q]; exact ⟨_, hz, fun v z => nomatch z⟩
    · rw [q]; exact ⟨_, hTI, fun v z => nomatch z⟩
    · rw [q]; exact ⟨_, hTO, fun v z => nomatch z⟩
    · rw [q]; exact ⟨o1, e1, fun v z => by rw [d1] at z; cases z⟩
    · rw [q]; exact ⟨o2, e2, fun v z => by rw [d2] at z; cases z⟩
    · rw [q]; exact ⟨o3, e3, fun v z => by rw [d3] at z; cases z⟩
  keep := fun i h h' st k => by
    obtain ⟨hz, hTI, ⟨u1, u2, u3, hTO⟩, h1, h2, h3⟩ := st
    exact ⟨k _ (by simp) _ hz, k _ (by simp) _ hTI, ⟨u1, u2, u3, k _ (by simp) _ hTO⟩, h1.at fun o q => k n (by simp) o q, h2.at fun o q => k (n + 1) (by simp) o q, h3.at fun o q => k (n + 2) (by simp) o q⟩
  item := by
    intro X e1 e2 e3 hc i pins s σ H E I hf st hg
    subst e1 e2 e3
    obtain ⟨hz, hTI, ⟨u1, u2, u3, hTO⟩, h1, h2, h3⟩ := st
    obtain ⟨xs, ys, zs, x, y, z, qx, qy, qz, hx, hy, hzz⟩ := hg
    obtain ⟨ix, rx, px, _⟩ := I.tuple qx
    obtain ⟨iy, ry, py, _⟩ := I.list qy
    obtain ⟨iz, rz, pz, _⟩ := I.list qz
    obtain ⟨vx, gx, sx⟩ := rx.get hx
    obtain ⟨vy, gy, sy⟩ := ry.get hy
    obtain ⟨vz, gz, sz⟩ := rz.get hzz
    have hnl : n + 5 < s.heap.objs.size := Heap.lt_size hz
    have gx2 : ix.toArray[i]? = some vx := by simpa using gx
    have gy2 : iy.toArray[i]? = some vy := by simpa using gy
    have gz2 : iz.toArray[i]? = some vz := by simpa using gz
    have hh := I.ok.hd hc
    have d1 := Draws.tuple (prog := X.prog) (w := X.w) (A := X.A.in1) hh n a (Nat.ne_of_lt la) ix.toArray
    have d2 := Draws.list (prog := X.prog) (w := X.w) (A := X.A.in1) hh (n + 1) b (Nat.ne_of_lt (Nat.lt_succ_of_lt lb)) iy.toArray
    have d3 := Draws.list (prog := X.prog) (w := X.w) (A := X.A.in1) hh (n + 2) c (Nat.ne_of_lt (Nat.lt_succ_of_lt (Nat.lt_succ_of_lt lc))) iz.toArray
    have S := zip_sep3 (N := n) (fp1 := [a]) (fp2 := [b]) (fp3 := [c]) (by simpa using la) (by simpa using lb) (by simpa using lc)
    refine wpAny_pyNext_zipD3_item S d1 d2 d3 hz hTI hTO ⟨h1, px⟩ ⟨h2, py.isList⟩ ⟨h3, pz.isList⟩ (Array.getElem?_eq_some_iff.mp gx2).1 (Array.getElem?_eq_some_iff.mp gy2).1 (Array.getElem?_eq_some_iff.mp gz2).1 fun x1 x2 x3 h' tk p1 p2 p3 z' TO' s1' s2' s3' hT hsz hk => ?_
    obtain rfl : x1 = vx := (Option.some.inj (gx2.symm.trans p1)).symm
    obtain rfl : x2 = vy := (Option.some.inj (gy2.symm.trans p2)).symm
    obtain rfl : x3 = vz := (Option.some.inj (gz2.symm.trans p3)).symm
    refine ⟨_, rfl, wpAny_letOwnedTupleGo_zip (s := { s with heap := h', toks := tk }) z' fun h2' z2 sb => ?_⟩
    have hT2 := (sb.2 _ (Nat.ne_of_gt hnl)).trans hT
    have nw : ObjOk X.prog X.w (upd H s.heap.objs.size (.tup [x, y, z])) h2' s.heap.objs.size (.tup [x, y, z]) := ⟨by show 3 ≤ sizeLine; decide, [x1, x2, x3], .cons sx (.cons sy (.cons sz .nil)), ⟨_, hT2, rfl, _, rfl⟩⟩
    have kk2 : ∀ d o, d ∉ [n + 5, n + 3, n + 4, n, n + 1, n + 2] → s.heap.get? d = some o → h2'.get? d = some o := fun d o hd q =>
      (sb.2 d (fun e => hd (by simp [e]))).trans (hk d o (fun e => hd (by simp [e])) (fun e => hd (by simp [e])) (fun e => hd (by simp [e])) (fun e => hd (by simp [e])) (fun e => hd (by simp [e])) q)
    have I1 := I.turnedNew (t' := tk) kk2 hf (Nat.le_refl _) nw
    refine ⟨.ref s.heap.objs.size, _, I1, rfl, ⟨_, x, y, z, rfl, I.hok.fresh (Nat.le_refl _), rfl, fun l hl => by rw [I.tuple_inj hl qx]; exact hx, fun l hl => by rw [I.list_inj hl qy]; exact hy, fun l hl => by rw [I.list_inj hl qz]; exact hzz⟩, ⟨z2, ?_, ⟨x1, x2, x3, ?_⟩, ?_, ?_, ?_⟩, fun d hd => ?_⟩
    · exact (sb.2 _ S.TIz).trans (hk _ _ S.TIz S.TITO S.TIi1 S.TIi2 S.TIi3 hTI)
    · exact (sb.2 _ S.TOz).trans TO'
    · exact s1'.1.at fun o q => (sb.2 _ S.zi1.symm).trans q
    · exact s2'.1.at fun o q => (sb.2 _ S.zi2.symm).trans q
    · exact s3'.1.at fun o q => (sb.2 _ S.zi3.symm).trans q
    · have hlb : d < s.heap.objs.size := by
        have hd2 : d = n + 5 ∨ d = n + 3 ∨ d = n + 4 ∨ d = n ∨ d = n + 1 ∨ d = n + 2 := by simpa using hd
        exact lt6 hnl hd2
      rw [upd_ne (Nat.ne_of_lt hlb)]
      exact (hf d hd).1
  done := by
    intro X e1 e2 e3 hc i pins s σ H E I hf st hg
    subst e1 e2 e3
    obtain ⟨hz, hTI, ⟨u1, u2, u3, hTO⟩, h1, h2, h3⟩ := st
    obtain ⟨xs, ys, zs, qx, qy, qz, lx, ly, lz⟩ := hg
    obtain ⟨ix, rx, px, _⟩ := I.tuple qx
    obtain ⟨iy, ry, py, _⟩ := I.list qy
    obtain ⟨iz, rz, pz, _⟩ := I.list qz
    have hh := I.ok.hd hc
    have d1 := Draws.tuple (prog := X.prog) (w := X.w) (A := X.A.in1) hh n a (Nat.ne_of_lt la) ix.toArray
    have d2 := Draws.list (prog := X.prog) (w := X.w) (A := X.A.in1) hh (n + 1) b (Nat.ne_of_lt (Nat.lt_succ_of_lt lb)) iy.toArray
    have d3 := Draws.list (prog := X.prog) (w := X.w) (A := X.A.in1) hh (n + 2) c (Nat.ne_of_lt (Nat.lt_succ_of_lt (Nat.lt_succ_of_lt lc))) iz.toArray
    have S := zip_sep3 (N := n) (fp1 := [a]) (fp2 := [b]) (fp3 := [c]) (by simpa using la) (by simpa using lb) (by simpa using lc)
    have k1 : ix.toArray.size = i := by rw [List.size_toArray, ← rx.length]; exact lx
    have k2 : iy.toArray.size = i := by rw [List.size_toArray, ← ry.length]; exact ly
    have k3 : iz.toArray.size = i := by rw [List.size_toArray, ← rz.length]; exact lz
    refine wpAny_pyNext_zipD3_end S d1 d2 d3 hz hTI hTO ⟨h1, px⟩ ⟨h2, py.isList⟩ ⟨h3, pz.isList⟩ (Nat.le_of_eq k1.symm) (Nat.le_of_eq k2.symm) (Nat.le_of_eq k3.symm) (.inl k1.symm) fun h' tk hk => ⟨rfl, ?_⟩
    exact I.turnedL (t' := tk) (ch := [n + 5, n + 3, n + 4, n, n + 1, n + 2]) (fun d o hd q => hk d o (fun e => hd (by simp [e])) (fun e => hd (by simp [e])) (fun e => hd (by simp [e])) (fun e => hd (by simp [e])) (fun e => hd (by simp [e])) q) hf
  self := fun A i s Q E st h => wpAny_pyIter_zip st.1 h
def iZip3 (K : PySem.W.Frag) (ta : TA) : TI := fun σ H R => ta σ H fun vs H1 => ∃ a b c xs ys zs, vs = [.ref a, .ref b, .ref c] ∧ SqT K H1 a xs ∧ SqL K H1 b ys ∧ SqL K H1 c zs ∧ R (Itz3 K a b c) H1
theorem pi_zip3 {X : Cx} {e e2 e3 : Expr} {ta : TA} {p pos tpos : Pos} {elts : List Expr} {kk : Nat} (hg : Gl X "zip") (hm : X.mg "zip" = none) (ha : PA X [e, e2, e3] ta)
    (hs : starEach [e, e2, e3] X.env = (false, eval e X.env) :: starEach [e2, e3] X.env := by rfl) (hpl : (backTo pos (starEach [e2, e3] X.env)).any (·.1) = false := by rfl) :
    PI X (.Tuple elts kk tpos) (.Call (.Name "zip" p) [e, e2, e3] [] pos) (iZip3 X.K ta) := by
  refine ⟨fun pins s σ H R I h => Call_ (ld_blt I hg hm PyProof.Rows.boot_zip (PyProof.Rows.callWith_type1 (thn (ha.run pos pins s σ H _ I h) fun us s1 hq => ?_) hs hpl))⟩
  obtain ⟨vs, H1, I1, r1, a, b, c, xs, ys, zs, ex, qx, qy, qz, q⟩ := hq
  subst ex
  obtain ⟨w1, w2, w3, rfl, t1, t2, t3⟩ : ∃ w1 w2 w3, us = [w1, w2, w3] ∧ L2.RelV (.ref a) w1 ∧ L2.RelV (.ref b) w2 ∧ L2.RelV (.ref c) w3 := by
    cases r1 with
    | cons t1 r1 =>
      cases r1 with
      | cons t2 r1 =>
        cases r1 with
        | cons t3 r1 =>
          cases r1
          exact ⟨_, _, _, rfl, t1, t2, t3⟩
  cases t1
  cases t2
  cases t3
  obtain ⟨ix, rx, px, _⟩ := I1.tuple qx
  obtain ⟨iy, ry, py, _⟩ := I1.list qy
  obtain ⟨iz, rz, pz, _⟩ := I1.list qz
  refine zip_begins3 (begins_tuple a ix.toArray) (begins_list b iy.toArray) (begins_list c iz.toArray) px py.isList pz.isList fun h' hz hTI hTO g1 g2 g3 hsz hk => wpAny_pyIter_zip hz ?_
  have I2 : L2.Inv X pins σ H1 { s1 with heap := h' } := I1.kept (t' := s1.toks) hk
  refine ⟨s1.heap.objs.size + 5, _, _, _, H1, rfl, I2, turn_zip3 (n := s1.heap.objs.size) px.lt py.lt pz.lt, ⟨hz, hTI, ⟨_, _, _, hTO⟩, ⟨_, g1, rfl, rfl⟩, ⟨_, g2, rfl, rfl⟩, ⟨_, g3, rfl, rfl⟩⟩, fun d hd => ?_, q⟩
  have hd2 : d = s1.heap.objs.size + 5 ∨ d = s1.heap.objs.size + 3 ∨ d = s1.heap.objs.size + 4 ∨ d = s1.heap.objs.size ∨ d = s1.heap.objs.size + 1 ∨ d = s1.heap.objs.size + 2 := by simpa using hd
  have hle : s1.heap.objs.size ≤ d := by
    exact le6 hd2
  exact I1.fpOk hle (I1.hok.fresh hle)
theorem walk_zip3 {K : PySem.W.Frag} {a b c : Addr} {xs ys zs : List V} {n : Nat} (lx : xs.length = n) (ly : ys.length = n) (lz : zs.length = n) :
    Walk (Itz3 K a b c) n (fun H => SqT K H a xs ∧ SqL K H b ys ∧ SqL K H c zs) (fun i H v H' => ∃ T x y z, v = .ref T ∧ H T = none ∧ H' = upd H T (.tup [x, y, z]) ∧ xs[i]? = some x ∧ ys[i]? = some y ∧ zs[i]? = some z) where
  goes := fun i H hi q => ⟨xs, ys, zs, xs[i], ys[i], zs[i], q.1, q.2.1, q.2.2, by simp, by simp, by simp⟩
  stops := fun H q => ⟨xs, ys, zs, q.1, q.2.1, q.2.2, lx, ly, lz⟩
  yields := fun i H v H' _ q y => by
    obtain ⟨T, x, y, z, h1, h2, h3, h4, h5, h6⟩ := y
    exact ⟨T, x, y, z, h1, h2, h3, h4 xs q.1, h5 ys q.2.1, h6 zs q.2.2⟩
end Gr

namespace Gr
open PySem PySem.Spec PyProof.Rows L2
/-! ### sorted of data -/
theorem each_vals {ps : List (V × PyData)} : ∀ {us : List Value}, L2.Vals (ps.map Prod.fst) us → PySem.W.EachIs (fun (v : Value) (b : V × PyData) => L2.RelV b.1 v) us ps := by
  induction ps with
  | nil =>
    intro us r
    cases r
    exact .nil
  | cons p ps ih =>
    intro us r
    cases r with
    | cons a b => exact .cons a (ih b)
theorem vals_each {ps : List (V × PyData)} {us : List Value} (r : PySem.W.EachIs (fun (v : Value) (b : V × PyData) => L2.RelV b.1 v) us ps) : L2.Vals (ps.map Prod.fst) us := by
  induction r with
  | nil => exact .nil
  | cons a b ih => exact .cons a ih
def rSortD (K : PySem.W.Frag) : List V → Hp → VK → Prop := fun xs H Q => ∃ (a : Addr) (ps : List (V × PyData)), xs = [.ref a] ∧ SqL K H a (ps.map Prod.fst) ∧ (∀ p ∈ ps, Dp K H p.1 p.2) ∧ PySem.W.AllAlike (ps.map Prod.snd) ∧ PySem.W.Sortable (ps.map Prod.snd) ∧ (∀ p ∈ ps, p.2.depth ≤ 8) ∧
  ∀ l, H l = none → Q (.ref l) (upd H l (.lst ((ps.mergeSort (PySem.W.dataLe false Prod.snd)).map Prod.fst)))
theorem cr_sortD {X : Cx} (hu : X.A.units + 10 < cLine) : CallR X (.builtin "sorted") (rSortD X.K) := by
  intro pins s σ H xs us Q I r h
  obtain ⟨a, ps, rfl, hs, hd, hal, hk, hdep, q⟩ := h
  obtain rfl := Vals.ref1 r
  obtain ⟨its, rv, hl, hz⟩ := I.list hs
  have e1 := each_vals rv
  have er : PySem.W.EachIs (fun (v : Value) (b : V × PyData) => ∃ as, PySem.Reads s.heap v b.2 as) its ps := by
    have key : ∀ {us : List Value} {qs : List (V × PyData)}, PySem.W.EachIs (fun (v : Value) (b : V × PyData) => L2.RelV b.1 v) us qs → (∀ p ∈ qs, Dp X.K H p.1 p.2) → PySem.W.EachIs (fun (v : Value) (b : V × PyData) => ∃ as, PySem.Reads s.heap v b.2 as) us qs := by
      intro us qs e
      induction e with
      | nil => exact fun _ => .nil
      | cons x y ih => exact fun hh => .cons (Dp.reads I _ _ _ (hh _ List.mem_cons_self) x) (ih fun p hp => hh p (List.mem_cons_of_mem _ hp))
    exact key e1 hd
  have hlen : ps.length ≤ sizeLine := by
    rw [List.length_map] at hz
    exact hz
  refine PySem.W.sorted_data (enc := Prod.snd) hl.isList e1 er hal hk hlen (fun b hb => by have := hdep b hb; omega) fun out ho eo => ?_
  obtain ⟨ep, he⟩ := PyProof.Rows.sortedAll_at s.heap its (List.toArray out)
  have l2 : ((ps.mergeSort (PySem.W.dataLe false Prod.snd)).map Prod.fst).length ≤ sizeLine := by
    rw [List.length_map, List.length_mergeSort]
    exact hlen
  exact ⟨.ref _, upd H (s.heap.objs.size + 1) (.lst ((ps.mergeSort (PySem.W.dataLe false Prod.snd)).map Prod.fst)), I.laid (t' := s.toks) (fun _ _ => PyProof.Rows.sortedAll_old) (Nat.le_succ _) ⟨l2, out, ep, vals_each eo, he⟩, rfl, q _ (I.hok.fresh (Nat.le_succ _))⟩
/-! ### max of a list of new tellings by their age -/
def tMaxA (K : PySem.W.Frag) (te : TE) : TE := fun σ H Q => te σ H fun x H1 => ∃ (l : Addr) (vs : List V) (ag : Nat → Int), x = .ref l ∧ H1 l = some (.lst vs) ∧ vs ≠ [] ∧ (∀ i v, vs[i]? = some v → ∃ p a b, v = .ref p ∧ H1 p = some (.tup [a, b, .int (ag i)])) ∧
  ∀ i v, vs[i]? = some v → (∀ j, j < vs.length → ag j ≤ ag i ∧ (j < i → ag j < ag i)) → Q v H1
/-! ### what is walked, by name -/
section
variable {σ : L2.St} {H : Hp} {K : PySem.W.Frag} {ta : TA} {R : It → Hp → Prop}
def Rg1T (vs : List V) (H : Hp) (R : It → Hp → Prop) : Prop := ∃ j : Int, vs = [.int j] ∧ -(2 ^ 62) ≤ j ∧ j < 2 ^ 62 ∧ R (Itr 0 j.toNat) H
theorem u_iRng1 : iRng1 ta σ H R = (ta σ H fun vs H1 => Rg1T vs H1 R) := rfl
theorem rg1 {j : Int} (h1 : 0 ≤ j) (h2 : j < 100000) (q : R (Itr 0 j.toNat) H) : Rg1T [.int j] H R := ⟨j, rfl, by omega, by omega, q⟩
def Rg2T (vs : List V) (H : Hp) (R : It → Hp → Prop) : Prop := ∃ i j : Int, vs = [.int i, .int j] ∧ (-(2 ^ 62) ≤ i ∧ i < 2 ^ 62 ∧ -(2 ^ 62) ≤ j ∧ j < 2 ^ 62) ∧ R (Itr i (j - i).toNat) H
theorem u_iRng2 : iRng2 ta σ H R = (ta σ H fun vs H1 => Rg2T vs H1 R) := rfl
theorem rg2 {i j : Int} (h0 : 0 ≤ i) (h0' : i < 100000) (h1 : 0 ≤ j) (h2 : j < 100000) (q : R (Itr i (j - i).toNat) H) : Rg2T [.int i, .int j] H R := ⟨i, j, rfl, ⟨by omega, by omega, by omega, by omega⟩, q⟩
def EnLT (K : PySem.W.Frag) (vs : List V) (H : Hp) (R : It → Hp → Prop) : Prop := ∃ a xs, vs = [.ref a] ∧ SqL K H a xs ∧ R (Ite K a) H
theorem u_iEnum : iEnum K ta σ H R = (ta σ H fun vs H1 => EnLT K vs H1 R) := rfl
theorem enL {a : Addr} {xs : List V} (h : H a = some (.lst xs)) (q : R (Ite K a) H) : EnLT K [.ref a] H R := ⟨a, xs, rfl, SqL.of h, q⟩
def EnTT (K : PySem.W.Frag) (vs : List V) (H : Hp) (R : It → Hp → Prop) : Prop := ∃ a xs, vs = [.ref a] ∧ SqT K H a xs ∧ R (ItEt K a) H
theorem u_iEnumT : iEnumT K ta σ H R = (ta σ H fun vs H1 => EnTT K vs H1 R) := rfl
theorem enT {a : Addr} {xs : List V} (h : H a = some (.tup xs)) (q : R (ItEt K a) H) : EnTT K [.ref a] H R := ⟨a, xs, rfl, SqT.of h, q⟩
def ZpT (K : PySem.W.Frag) (vs : List V) (H : Hp) (R : It → Hp → Prop) : Prop := ∃ a b xs ys, vs = [.ref a, .ref b] ∧ SqL K H a xs ∧ SqL K H b ys ∧ R (Itz K a b) H
theorem u_iZip : iZip K ta σ H R = (ta σ H fun vs H1 => ZpT K vs H1 R) := rfl
theorem zpL {a b : Addr} {xs ys : List V} (h : H a = some (.lst xs)) (h2 : H b = some (.lst ys)) (q : R (Itz K a b) H) : ZpT K [.ref a, .ref b] H R := ⟨a, b, xs, ys, rfl, SqL.of h, SqL.of h2, q⟩
def Zp3T (K : PySem.W.Frag) (vs : List V) (H : Hp) (R : It → Hp → Prop) : Prop := ∃ a b c xs ys zs, vs = [.ref a, .ref b, .ref c] ∧ SqT K H a xs ∧ SqL K H b ys ∧ SqL K H c zs ∧ R (Itz3 K a b c) H
theorem u_iZip3 : iZip3 K ta σ H R = (ta σ H fun vs H1 => Zp3T K vs H1 R) := rfl
theorem zp3 {a b c : Addr} {xs ys zs : List V} (h : SqT K H a xs) (h2 : H b = some (.lst ys)) (h3 : H c = some (.lst zs)) (q : R (Itz3 K a b c) H) : Zp3T K [.ref a, .ref b, .ref c] H R := ⟨a, b, c, xs, ys, zs, rfl, h, SqL.of h2, SqL.of h3, q⟩
/-- the thing that a plain for or comprehension walks -/
def LsT (K : PySem.W.Frag) (x : V) (H : Hp) (R : It → Hp → Prop) : Prop := ∃ a, x = .ref a ∧ (∃ xs, SqL K H a xs) ∧ R (Itl K a) H
theorem u_iList' {t : TE} : iList K t σ H R = (t σ H fun x H1 => LsT K x H1 R) := rfl
theorem lsL {a : Addr} {xs : List V} (h : H a = some (.lst xs)) (q : R (Itl K a) H) : LsT K (.ref a) H R := ⟨a, rfl, ⟨xs, SqL.of h⟩, q⟩
def TpT (K : PySem.W.Frag) (x : V) (H : Hp) (R : It → Hp → Prop) : Prop := ∃ a, x = .ref a ∧ (∃ xs, SqT K H a xs) ∧ R (Itt K a) H
theorem u_iTup' {t : TE} : iTup K t σ H R = (t σ H fun x H1 => TpT K x H1 R) := rfl
theorem tpT {a : Addr} {xs : List V} (h : SqT K H a xs) (q : R (Itt K a) H) : TpT K (.ref a) H R := ⟨a, rfl, ⟨xs, h⟩, q⟩
end
section
variable {H : Hp} {Q : VK} {K : PySem.W.Frag}
/-- slices -/
theorem slL {a : Addr} {xs : List V} {lo hi : Option Int} (h : H a = some (.lst xs)) (q : ∀ p, H p = none → Q (.ref p) (upd H p (.lst (cutV xs lo hi)))) : rSlL K (.ref a) lo hi H Q := ⟨a, xs, rfl, SqL.of h, q⟩
theorem cutV_nat (xs : List V) (i j : Nat) : cutV xs (some (i : Int)) (some (j : Int)) = (xs.drop i).take (j - i) := by
  unfold cutV
  rw [HT.sIx_nat, HT.sIx_nat]
  apply List.ext_getElem?
  intro k
  simp only [List.getElem?_take, List.getElem?_drop]
  by_cases hk : k < j - i
  · by_cases hi : i ≤ xs.length
    · rw [Nat.min_eq_left hi]
      by_cases hj : j ≤ xs.length
      · rw [Nat.min_eq_left hj]
      · rw [Nat.min_eq_right (by omega), if_pos hk]
        by_cases h2 : k < xs.length - i
        · rw [if_pos h2]
        · rw [if_neg h2, List.getElem?_eq_none (by omega)]
    · rw [Nat.min_eq_right (by omega), if_pos hk, List.getElem?_eq_none (show xs.length ≤ i + k by omega)]
      split
      · rw [List.getElem?_eq_none (by omega)]
      · rfl
  · rw [if_neg hk, if_neg (by omega)]
theorem cutV_to (xs : List V) (j : Nat) : cutV xs none (some (j : Int)) = xs.take j := by
  unfold cutV
  rw [HT.sIx_nat, HT.sIx_none, List.drop_zero, Nat.sub_zero, List.take_eq_take_iff]
  omega
theorem cutV_from (xs : List V) (i : Nat) : cutV xs (some (i : Int)) none = xs.drop i := by
  unfold cutV
  rw [HT.sIx_nat, HT.sIx_none]
  by_cases hi : i ≤ xs.length
  · rw [Nat.min_eq_left hi, List.take_of_length_le (Nat.le_of_eq List.length_drop)]
  · rw [Nat.min_eq_right (by omega), List.drop_of_length_le (Nat.le_refl _), List.drop_of_length_le (by omega), List.take_nil]
end
/-! ### fields -/
section
variable {σ : L2.St} {H : Hp} {Q : VK} {K : PySem.W.Frag} {D : Ends}
def FldGet (K : PySem.W.Frag) (f : Str) (x : V) (H : Hp) (Q : VK) : Prop := ∃ a C dx fs v, x = .ref a ∧ H a = some (.ins C dx fs) ∧ Cls K C ∧ NoAttr K C f ∧ fs.lookup f = some v ∧ Q v H
theorem u_tFld' {ta : TE} {f : Str} : tFld K ta f σ H Q = (ta σ H fun x H1 => FldGet K f x H1 Q) := rfl
theorem fldG {f : Str} {a C dx : Addr} {fs : List (Str × V)} {v : V} (h : H a = some (.ins C dx fs)) (c : Cls K C) (n : NoAttr K C f) (e : fs.lookup f = some v) (q : Q v H) : FldGet K f (.ref a) H Q := ⟨a, C, dx, fs, v, rfl, h, c, n, e, q⟩
def FldSet (K : PySem.W.Frag) (f : Str) (x y : V) (H : Hp) (R : Hp → Prop) : Prop := ∃ a C dx fs, x = .ref a ∧ H a = some (.ins C dx fs) ∧ Cls K C ∧ NoAttr K C f ∧ fs.length < 1000 ∧ R (upd H a (.ins C dx (putF f y fs)))
theorem u_sFld {ta tv : TE} {f : Str} : sFld K ta tv f D σ H = (tv σ H fun y H1 => ta σ H1 fun x H2 => FldSet K f x y H2 fun H3 => D.nx σ H3) := rfl
theorem fldS {f : Str} {a C dx : Addr} {fs : List (Str × V)} {y : V} {R : Hp → Prop} (h : H a = some (.ins C dx fs)) (c : Cls K C) (n : NoAttr K C f) (e : fs.length < 1000) (q : R (upd H a (.ins C dx (putF f y fs)))) : FldSet K f (.ref a) y H R := ⟨a, C, dx, fs, rfl, h, c, n, e, q⟩
/-- a pair taken apart -/
def TupG (K : PySem.W.Frag) (n : Nat) (v : V) (H : Hp) (R : List V → Hp → Prop) : Prop := ∃ a xs, v = .ref a ∧ SqT K H a xs ∧ xs.length = n ∧ R xs H
theorem u_gTup {n : Nat} {t : TGs} {v : V} {R : L2.St → Hp → Prop} : gTup K n t v σ H R = TupG K n v H fun xs H1 => t xs σ H1 R := rfl
theorem tupG {n : Nat} {a : Addr} {xs : List V} {R : List V → Hp → Prop} (h : H a = some (.tup xs)) (e : xs.length = n) (q : R xs H) : TupG K n (.ref a) H R := ⟨a, xs, rfl, SqT.of h, e, q⟩
theorem u_gCons {t : TG} {u : TGs} {v : V} {xs : List V} {R : L2.St → Hp → Prop} : gCons t u (v :: xs) σ H R = (t v σ H fun σ' H' => u xs σ' H' R) := by
  apply propext
  constructor
  · rintro ⟨a, r, e, h⟩
    cases e
    exact h
  · exact fun h => ⟨v, xs, rfl, h⟩
theorem u_gNil {R : L2.St → Hp → Prop} : gNil [] σ H R = R σ H := by
  apply propext
  exact ⟨fun h => h.2, fun h => ⟨rfl, h⟩⟩
end
theorem paired_get {α β : Type} {F : α → β → Prop} {xs : List α} {ys : List β} (p : Paired F xs ys) : ∀ {i : Nat} {x : α}, xs[i]? = some x → ∃ y, ys[i]? = some y ∧ F x y := by
  induction p with
  | nil => intro i x h; cases h
  | cons a b ih =>
    intro i x h
    cases i with
    | zero =>
      cases h
      exact ⟨_, rfl, a⟩
    | succ i => exact ih (by simpa using h)
theorem paired_app {α β : Type} {F : α → β → Prop} {xs xs' : List α} {ys ys' : List β} (p : Paired F xs ys) (q : Paired F xs' ys') : Paired F (xs ++ xs') (ys ++ ys') := by
  induction p with
  | nil => exact q
  | cons a b ih => exact .cons a ih
theorem paired_take {α β : Type} {F : α → β → Prop} {xs : List α} {ys : List β} (p : Paired F xs ys) : ∀ n : Nat, Paired F (xs.take n) (ys.take n) := by
  induction p with
  | nil => intro n; simpa using Paired.nil
  | cons a b ih =>
    intro n
    cases n with
    | zero => exact .nil
    | succ n => exact .cons a (ih n)
theorem paired_drop {α β : Type} {F : α → β → Prop} {xs : List α} {ys : List β} (p : Paired F xs ys) : ∀ n : Nat, Paired F (xs.drop n) (ys.drop n) := by
  induction p with
  | nil => intro n; simpa using Paired.nil
  | cons a b ih =>
    intro n
    cases n with
    | zero => exact .cons a b
    | succ n => exact ih n
theorem paired_rep {α β : Type} {F : α → β → Prop} {x : α} {y : β} (h : F x y) : ∀ n : Nat, Paired F (List.replicate n x) (List.replicate n y)
  | 0 => .nil
  | n + 1 => .cons h (paired_rep h n)
theorem paired_of {α β : Type} {F : α → β → Prop} : ∀ {xs : List α} {ys : List β}, xs.length = ys.length → (∀ (i : Nat) (x : α) (y : β), xs[i]? = some x → ys[i]? = some y → F x y) → Paired F xs ys
  | [], [], _, _ => .nil
  | x :: xs, y :: ys, e, h => .cons (h 0 x y rfl rfl) (paired_of (by simpa using e) fun i a b ha hb => h (i + 1) a b (by simpa using ha) (by simpa using hb))
theorem paired_set {α β : Type} {F : α → β → Prop} {xs : List α} {ys : List β} (p : Paired F xs ys) {x : α} {y : β} (h : F x y) : ∀ i : Nat, Paired F (xs.set i x) (ys.set i y) := by
  induction p with
  | nil => intro i; exact .nil
  | cons a b ih =>
    intro i
    cases i with
    | zero => exact .cons h b
    | succ i => exact .cons a (ih i)
/-! ### dicts and places -/
section
variable {σ : L2.St} {H : Hp} {Q : VK} {K : PySem.W.Frag} {D : Ends} {R : Hp → Prop}
def DctGet (x y : V) (H : Hp) (Q : VK) : Prop := ∃ a v, x = .ref a ∧ DGet H a y (some v) ∧ Q v H
theorem u_tDGet' {td ty : TE} : tDGet td ty σ H Q = (td σ H fun x H1 => ty σ H1 fun y H2 => DctGet x y H2 Q) := rfl
def DctPut (x y v : V) (H : Hp) (R : Hp → Prop) : Prop := ∃ a H', x = .ref a ∧ DPut H a y v H' ∧ R H'
theorem u_sDPut' {td ty tv : TE} : sDPut td ty tv D σ H = (tv σ H fun v H1 => td σ H1 fun x H2 => ty σ H2 fun y H3 => DctPut x y v H3 fun H4 => D.nx σ H4) := rfl
theorem setL {p : Addr} {xs : List V} {i : Nat} {v : V} (h : H p = some (.lst xs)) (hi : i < xs.length) (q : R (upd H p (.lst (xs.set i v)))) : rSetL (.ref p) (.int (i : Int)) v H R := by
  refine ⟨p, xs, i, i, rfl, rfl, h, ?_, q⟩
  unfold ixN
  rw [if_pos (by omega), if_pos (by omega)]
  rfl
theorem ixLn {p : Addr} {xs : List V} {i : Nat} {v : V} (h : H p = some (.lst xs)) (e : xs[i]? = some v) (q : Q v H) : rIxL K (.ref p) (.int (i : Int)) H Q := ixL h (atI_nat e) q
end
end Gr

namespace Gr
open PySem PySem.Spec PyProof.Rows L2
local macro_rules | `(tactic| walk_at "n") => `(tactic| try simp only [u_tVar, u_tC, u_tB, u_tTest, u_tAnd, u_tOr, u_tNot, u_tAndV, u_tOrV, u_tNotV, u_tIf, u_tNext, u_tSeq, u_tBreak, u_tCont, u_tDrop, u_tRet, u_tRetN, u_tIfS, u_tNever, u_gName, u_tAsg, u_tPar, u_gSub, u_tOp, u_tUn, u_tChain, u_tNil, u_tCons, u_tTup, u_tLst, u_tCB, u_tCall, u_tNoPart, u_tPart, u_tSl, u_tYes, u_iList', u_iTup', u_tLc, u_tDc, u_tFor, u_iRng1, u_iRng2, u_iEnum, u_iEnumT, u_iZip, u_iZip3, L2.wipe, u_sDPut', u_tDGet', u_tDNewK, u_tFld', u_sFld, u_gTup, u_gCons, u_gNil, v_rI0, v_rI, v_eqI, v_neI, v_eqS, v_neS, v_bl, v_int, v_ref, v_some, v_two, w_insert_tell, w_remove_tell, w_remove_insert, w_move_tell, w_move_insert, w_move_remove, w_copy_tell, w_copy_insert, w_copy_remove, w_copy_move, w_rows_table, w_columns_table, w_cells_table, w_rows_cells, w_columns_cells, w_columns_rows, w_cells_rows, w_cells_columns, w_rows_columns, w_table_cells, w_table_rows, w_table_columns, w_column_row, w_plain_like, w_like_plain, w_old_new, w_new_old, w_newest_nearest, w_nearest_newest, w_ink_ground, w_ink_face, w_ground_ink, w_ground_face, w_face_ink, w_face_ground, w_whole_lanes, w_whole_files, w_whole_spots, w_lanes_files, w_lanes_spots, w_files_spots, List.getElem?_cons_zero, List.getElem?_cons_succ, List.set_cons_zero, List.set_cons_succ, List.append_nil, Bool.not_true, Bool.not_false, eq_self, if_true, Bool.false_eq_true, if_false, decide_true, decide_false, v_max, v_min, v_intQ, v_isN, v_notN, reduceCtorEq, Nat.reduceAdd, Nat.zero_add, Int.cast_ofNat_Int, Int.reduceEq, Int.reduceLE, Int.reduceLT, Int.reduceAdd, List.cons_append, List.nil_append, List.map_cons, List.map_nil, Sc.vs, ov, De.vs, how, List.length_cons, List.length_nil])
local macro_rules | `(tactic| walk_at "x") => `(tactic| first | refine ixT (by assumption) rfl ?_ | refine ixL (by assumption) rfl ?_ | refine lenT (by assumption) rfl ?_ | refine lenL (by assumption) rfl ?_ | refine isi (.base (.int _)) kit_int_int ?_ | refine isi (.base (.int _)) kit_int_str ?_ | refine isi (.base (.int _)) kit_int_bool ?_ | refine isi (.base (.int _)) kit_int_tuple ?_ | refine isi (.base (.int _)) kit_int_list ?_ | refine isi (.base (.str _)) kit_str_int ?_ | refine isi (.base (.str _)) kit_str_str ?_ | refine isi (.base (.str _)) kit_str_bool ?_ | refine isi (.base (.str _)) kit_str_tuple ?_ | refine isi (.base (.str _)) kit_str_list ?_ | refine isi (.base (.bl _)) kit_bool_int ?_ | refine isi (.base (.bl _)) kit_bool_str ?_ | refine isi (.base (.bl _)) kit_bool_bool ?_ | refine isi (.base (.bl _)) kit_bool_tuple ?_ | refine isi (.base (.bl _)) kit_bool_list ?_ | refine isi (.base (.tup (by assumption))) kit_tuple_int ?_ | refine isi (.base (.tup (by assumption))) kit_tuple_str ?_ | refine isi (.base (.tup (by assumption))) kit_tuple_bool ?_ | refine isi (.base (.tup (by assumption))) kit_tuple_tuple ?_ | refine isi (.base (.tup (by assumption))) kit_tuple_list ?_ | refine isi (.base (.lst (by assumption))) kit_list_int ?_ | refine isi (.base (.lst (by assumption))) kit_list_str ?_ | refine isi (.base (.lst (by assumption))) kit_list_bool ?_ | refine isi (.base (.lst (by assumption))) kit_list_tuple ?_ | refine isi (.base (.lst (by assumption))) kit_list_list ?_ | refine isi (.base (.non)) kit_NoneType_int ?_ | refine isi (.base (.non)) kit_NoneType_str ?_ | refine isi (.base (.non)) kit_NoneType_bool ?_ | refine isi (.base (.non)) kit_NoneType_tuple ?_ | refine isi (.base (.non)) kit_NoneType_list ?_)
local macro_rules | `(tactic| walk_at "g") => `(tactic| (repeat (walk_at "n"; walk_at "x")); walk_at "n")

-- Gr4
section
variable {P : Program} {w : World} {K : PySem.W.Frag} {mg : Str → Option Value} {fds : Str → FuncData} {base : Heap}
/-- a scope's numbers are small -/
theorem sc_small {s : Sc} (h : s.ok) : ∀ v ∈ s.vs.drop 1, ∃ o : Option Nat, v = ov o ∧ ∀ n, o = some n → n ≤ 9 := by
  intro v hv
  cases s with
  | table => cases hv
  | rows a b =>
    obtain ⟨h1, h2⟩ := h
    rcases (show v = .int (a : Int) ∨ v = ov b by simpa [Sc.vs] using hv) with e | e
    · exact ⟨some a, e, fun n q => by cases q; exact h1⟩
    · exact ⟨b, e, fun n q => (h2 n q).2⟩
  | cols a b =>
    obtain ⟨h1, h2⟩ := h
    rcases (show v = .int (a : Int) ∨ v = ov b by simpa [Sc.vs] using hv) with e | e
    · exact ⟨some a, e, fun n q => by cases q; exact h1⟩
    · exact ⟨b, e, fun n q => (h2 n q).2⟩
  | cells t b l r =>
    obtain ⟨h1, h2, h3, h4⟩ := h
    rcases (show v = .int (t : Int) ∨ v = .int (b : Int) ∨ v = .int (l : Int) ∨ v = .int (r : Int) by simpa [Sc.vs] using hv) with e | e | e | e
    · exact ⟨some t, e, fun n q => by cases q; omega⟩
    · exact ⟨some b, e, fun n q => by cases q; omega⟩
    · exact ⟨some l, e, fun n q => by cases q; omega⟩
    · exact ⟨some r, e, fun n q => by cases q; omega⟩
theorem sc_len (s : Sc) : 1 ≤ s.vs.length ∧ s.vs.length ≤ 5 := by
  cases s <;> simp [Sc.vs]
theorem anyI {K : PySem.W.Frag} {H : Hp} {Q : VK} {l : Addr} {bs : List Bool} (h : H l = some (.lst (bs.map V.bl))) (q : Q (.bl (bs.any id)) H) : rAny K [.ref l] H Q := ⟨l, bs, rfl, SqL.of h, q⟩
theorem allI {K : PySem.W.Frag} {H : Hp} {Q : VK} {l : Addr} {bs : List Bool} (h : H l = some (.lst (bs.map V.bl))) (q : Q (.bl (bs.all id)) H) : rAll K [.ref l] H Q := ⟨l, bs, rfl, SqL.of h, q⟩
/-- a list of nothing but True -/
theorem trues {ys : List V} (h : ∀ (i : Nat) (y : V), ys[i]? = some y → y = V.bl true) : ys = (List.replicate ys.length true).map V.bl := by
  rw [List.map_replicate]
  exact List.eq_replicate_of_mem fun y hy => by
    obtain ⟨i, hi⟩ := List.mem_iff_getElem?.mp hy
    exact h i y hi
abbrev s_is_small_scope : Stmt := top 40
abbrev N_is_small_scope : List Str := ["value", "part"]
theorem sc_is_small_scope : FnScope N_is_small_scope ["value"] (defScope s_is_small_scope) := ⟨rfl, rfl, rfl, by decide +kernel, rfl, by decide +kernel, by decide +kernel⟩
def spIsSmallScope : Sp := fun vs H Q _ => ∃ (p : Addr) (s : Sc), vs = [.ref p] ∧ H p = some (.tup s.vs) ∧ s.ok ∧ ∀ H', Same H H' → Q (.bl true) H'
theorem ok_is_small_scope (T : Txt K mg fds) : FnOk P w K mg base CX0 5 (He.ga K "is_small_scope") (fds "is_small_scope") ["value"] spIsSmallScope := by
  refine T.d_is_small_scope.fn.ok sc_is_small_scope (fun vs H Q E h => ?_) (fun cdv A outer s H vs Q E hr h => ?_)
  · obtain ⟨p, t, rfl, _⟩ := h; rfl
  · obtain ⟨p, t, rfl, h0, hk, k⟩ := h
    have nd := sc_is_small_scope.nd
    refine ⟨_, PSs.nox (pss_one (ps_ret (pe_and (pe_fn T.d_is_scope (ok_is_scope T) hr rfl (pa_cons (pv 0) pa_nil)) (pe_one (pe_callB (cr_all rfl) (by rfl) T.g_all (by decide +kernel) (pa_cons (pe_lc (own := [("part", 1)]) rfl nd (pi_tup (pe_slice sl_tupA (pv 0) (po_some pe_int) po_none)) (blkOk_by (N := N_is_small_scope) (sc := (defScope s_is_small_scope)) (by decide +kernel)) (fun _ _ _ _ _ => (pg_name (i := 1) nd rfl (by first | exact Or.inl rfl | exact Or.inr rfl))) (fun _ _ _ _ _ => pts_nil) (fun _ _ _ _ _ => (pe_or (pe_cmpR op_isQ (pv 1) pe_non (nomark _)) (pe_one (pe_fn T.d_is_small (ok_is_small T) hr rfl (pa_cons (pv 1) pa_nil)))))) pa_nil)))))), ?_⟩
    rw [show L2.start N_is_small_scope [.ref p] = [some (.ref p), none] from rfl]
    walk_at "n"
    refine ⟨p, t, rfl, h0, hk, fun H1 s1 => ?_⟩
    have h1 := s1 _ _ h0
    walk_at "n"
    refine ⟨p, t.vs, rfl, SqT.of h1, fun e => ?_, fun _ q hq => ?_⟩
    · have := sc_len t
      have e2 : HT.sIx t.vs.length 0 (some ((1 : Nat) : Int)) = 1 := by rw [HT.sIx_nat]; omega
      exact absurd (e2.symm.trans e.1) (by decide)
    · rw [show cutV t.vs (some 1) none = t.vs.drop 1 from cutV_from t.vs 1]
      have hl := sc_len t
      have hsm := sc_small hk
      have hlx : (t.vs.drop 1).length ≤ 1000 := by rw [List.length_drop]; omega
      generalize t.vs.drop 1 = xs at hsm hlx ⊢
      refine tpT (SqT.of upd_same) ?_
      walk_at "n"
      refine lc_map (n := xs.length) (G := fun H => SqT K H q xs) walk_tup (fun _ _ y _ => y = V.bl true) hlx (fun _ _ _ _ _ _ _ _ r => r) (fun D H2 hD g => SqT.of (g.same hD _ _ upd_same)) ?_ ?_
      · intro D i x H2 H3 acc kk hD hi g hacc y hkk
        obtain ⟨rfl, hx⟩ := y
        obtain ⟨o, rfl, ho⟩ := hsm x (List.mem_of_getElem? hx)
        cases o with
        | none =>
          walk_at "n"
          exact ⟨trivial, hkk _ _ (Same.refl _) rfl⟩
        | some m =>
          walk_at "n"
          refine ⟨trivial, m, rfl, ho m rfl, hkk _ _ (Same.refl _) rfl⟩
      · intro D ys H2 hD g hys hlen hall
        have e := trues hall
        rw [e] at hys
        refine allI hys ?_
        rw [show (List.replicate ys.length true).all id = true by simp]
        exact k _ ((s1.trans (Same.upd _ hq)).trans (g.same hD))
theorem ax_ne (x : Ax) : True := trivial
abbrev s_is_deed : Stmt := top 42
abbrev N_is_deed : List Str := ["value", "word"]
theorem sc_is_deed : FnScope N_is_deed ["value"] (defScope s_is_deed) := ⟨rfl, rfl, rfl, by decide +kernel, rfl, by decide +kernel, by decide +kernel⟩
def spIsDeed : Sp := fun vs H Q _ => ∃ (v : V) (d : De), vs = [v] ∧ DeAt H v d ∧ d.ok ∧ ∀ H', Same H H' → Q (.bl true) H'
theorem ok_is_deed (T : Txt K mg fds) : FnOk P w K mg base CX0 6 (He.ga K "is_deed") (fds "is_deed") ["value"] spIsDeed := by
  refine T.d_is_deed.fn.ok sc_is_deed (fun vs H Q E h => ?_) (fun cdv A outer s H vs Q E hr h => ?_)
  · obtain ⟨p, t, rfl, _⟩ := h; rfl
  · obtain ⟨v, d, rfl, ⟨p, q, rfl, h0, h1⟩, hk, k⟩ := h
    have nd := sc_is_deed.nd
    refine ⟨_, PSs.nox (pss_cons (ps_if (PW.pt (pw_or (pt_not (pt_val (pe_callB call_isi (by rfl) T.g_isinstance (by decide +kernel) (pa_cons (pv 0) (pa_cons (pe_bltn (v := .ty "tuple") (by rfl) T.g_tuple (by decide +kernel) rfl) pa_nil))))) (pw_or (pt_not (pt_truth (pv 0) (by intro _; rfl))) (pw_or1 (pt_not (pt_val (pe_callB call_isi (by rfl) T.g_isinstance (by decide +kernel) (pa_cons (pe_ix ix_tup (pv 0) pe_int (fun _ _ => rfl)) (pa_cons (pe_bltn (v := .ty "str") (by rfl) T.g_str (by decide +kernel) rfl) pa_nil)))))))))
        (pss_one (ps_ret pe_bl))
        pss_nil)
      (pss_cons (ps_set (i := 1) nd rfl (by first | exact Or.inl rfl | exact Or.inr rfl) (pe_ix ix_tup (pv 0) pe_int (fun _ _ => rfl)))
      (pss_cons (ps_if (pt_cmpR op_eq (pv 1) pe_str (nomark _))
        (pss_one (ps_ret (pe_and (pe_cmpR op_eq (pe_callB call_lenQ (by rfl) T.g_len (by decide +kernel) (pa_cons (pv 0) pa_nil)) pe_int (nomark _)) (pe_and (pe_fn T.d_is_small_scope (ok_is_small_scope T) hr rfl (pa_cons (pe_ix ix_tup (pv 0) pe_int (fun _ _ => rfl)) pa_nil)) (pe_and (pe_fn T.d_is_kind (ok_is_kind T) hr rfl (pa_cons (pe_ix ix_tup (pv 0) pe_int (fun _ _ => rfl)) pa_nil)) (pe_one (pe_fn T.d_is_told_value (ok_is_told_value T) hr rfl (pa_cons (pe_ix ix_tup (pv 0) pe_int (fun _ _ => rfl)) pa_nil))))))))
        pss_nil)
      (pss_cons (ps_if (pt_cmpR op_eq (pv 1) pe_str (nomark _))
        (pss_cons (ps_if (PW.pt (pw_or (pt_cmpR op_ne (pe_callB call_lenQ (by rfl) T.g_len (by decide +kernel) (pa_cons (pv 0) pa_nil)) pe_int (nomark _)) (pw_or (pt_not (pt_val (pe_fn T.d_is_shift (ok_is_shift T) hr rfl (pa_cons (pv 0) pa_nil)))) (pw_or1 (pt_not (pt_val (pe_callB call_isi (by rfl) T.g_isinstance (by decide +kernel) (pa_cons (pe_ix ix_tup (pv 0) pe_int (fun _ _ => rfl)) (pa_cons (pe_bltn (v := .ty "str") (by rfl) T.g_str (by decide +kernel) rfl) pa_nil)))))))))
          (pss_one (ps_ret pe_bl))
          pss_nil)
        (pss_one (ps_ret (pe_or (pe_cmpR op_eq (pe_ix ix_tup (pv 0) pe_int (fun _ _ => rfl)) pe_str (nomark _)) (pe_one (pe_and (pe_cmpR op_eq (pe_ix ix_tup (pv 0) pe_int (fun _ _ => rfl)) pe_str (nomark _)) (pe_one (pe_cmpR op_gt (pe_ix ix_tup (pv 0) pe_int (fun _ _ => rfl)) pe_int (nomark _)))))))))
        pss_nil)
      (pss_cons (ps_if (pt_cmpR op_eq (pv 1) pe_str (nomark _))
        (pss_one (ps_ret (pe_and (pe_cmpR op_eq (pe_callB call_lenQ (by rfl) T.g_len (by decide +kernel) (pa_cons (pv 0) pa_nil)) pe_int (nomark _)) (pe_one (pe_fn T.d_is_shift (ok_is_shift T) hr rfl (pa_cons (pv 0) pa_nil))))))
        pss_nil)
      (pss_cons (ps_if (pt_cmpR op_eq (pv 1) pe_str (nomark _))
        (pss_one (ps_ret (pe_and (pe_cmpR op_eq (pe_callB call_lenQ (by rfl) T.g_len (by decide +kernel) (pa_cons (pv 0) pa_nil)) pe_int (nomark _)) (pe_and (pe_fn T.d_is_shift (ok_is_shift T) hr rfl (pa_cons (pv 0) pa_nil)) (pe_one (pe_fn T.d_is_small (ok_is_small T) hr rfl (pa_cons (pe_ix ix_tup (pv 0) pe_int (fun _ _ => rfl)) pa_nil)))))))
        pss_nil)
      (pss_cons (ps_if (PW.pt (pw_or (pt_cmpR op_ne (pv 1) pe_str (nomark _)) (pw_or (pt_cmpR op_ne (pe_callB call_lenQ (by rfl) T.g_len (by decide +kernel) (pa_cons (pv 0) pa_nil)) pe_int (nomark _)) (pw_or (pt_not (pt_val (pe_fn T.d_is_cells (ok_is_cells T) hr rfl (pa_cons (pe_ix ix_tup (pv 0) pe_int (fun _ _ => rfl)) pa_nil)))) (pw_or1 (pt_not (pt_val (pe_fn T.d_is_small_scope (ok_is_small_scope T) hr rfl (pa_cons (pe_ix ix_tup (pv 0) pe_int (fun _ _ => rfl)) pa_nil)))))))))
        (pss_one (ps_ret pe_bl))
        pss_nil)
      (pss_one (ps_ret (pe_and (pe_fn T.d_is_small (ok_is_small T) hr rfl (pa_cons (pe_ix ix_tup (pv 0) pe_int (fun _ _ => rfl)) pa_nil)) (pe_and (pe_fn T.d_is_small (ok_is_small T) hr rfl (pa_cons (pe_ix ix_tup (pv 0) pe_int (fun _ _ => rfl)) pa_nil)) (pe_and (pe_callB call_isi (by rfl) T.g_isinstance (by decide +kernel) (pa_cons (pe_ix ix_tup (pv 0) pe_int (fun _ _ => rfl)) (pa_cons (pe_bltn (v := .ty "str") (by rfl) T.g_str (by decide +kernel) rfl) pa_nil))) (pe_one (pe_cmpR op_eq (pe_ix ix_tup (pv 0) pe_int (fun _ _ => rfl)) pe_str (nomark _))))))))))))))), ?_⟩
    rw [show L2.start N_is_deed [.ref p] = [some (.ref p), none] from rfl]
    cases d with
    | tell s kd x =>
      have hs := h1 s rfl
      obtain ⟨hk1, hk2⟩ := hk
      walk_at "g"
      refine ⟨true, .inr (.inl ⟨_, SqT.of h0, rfl⟩), ?_⟩
      walk_at "g"
      refine ⟨q, s, rfl, hs, hk1, fun H1 s1 => ?_⟩
      have h0' := s1 _ _ h0
      walk_at "g"
      refine ⟨kd, rfl, ?_⟩
      walk_at "g"
      exact ⟨x, rfl, hk2, k _ s1⟩
    | ins x a n like =>
      obtain ⟨hk1, hk2, hk3, hk4⟩ := hk
      walk_at "g"
      refine ⟨true, .inr (.inl ⟨_, SqT.of h0, rfl⟩), ?_⟩
      walk_at "g"
      refine ⟨p, _, x, a, n, _, rfl, h0, hk1, hk2, hk3, fun H1 s1 => ?_⟩
      have h0' := s1 _ _ h0
      cases like with
      | false =>
        walk_at "g"
        exact k _ s1
      | true =>
        have := hk4 rfl
        walk_at "g"
        rw [show decide ((0 : Int) < (a : Int)) = true from decide_eq_true (by omega)]
        exact k _ s1
    | rem x a n =>
      obtain ⟨hk1, hk2, hk3⟩ := hk
      walk_at "g"
      refine ⟨true, .inr (.inl ⟨_, SqT.of h0, rfl⟩), ?_⟩
      walk_at "g"
      exact ⟨p, _, x, a, n, _, rfl, h0, hk1, hk2, hk3, fun H1 s1 => k _ s1⟩
    | mov x a n to =>
      obtain ⟨hk1, hk2, hk3, hk4⟩ := hk
      walk_at "g"
      refine ⟨true, .inr (.inl ⟨_, SqT.of h0, rfl⟩), ?_⟩
      walk_at "g"
      refine ⟨p, _, x, a, n, _, rfl, h0, hk1, hk2, hk3, fun H1 s1 => ?_⟩
      have h0' := s1 _ _ h0
      walk_at "g"
      exact ⟨to, rfl, hk4, k _ s1⟩
    | cpy t b l r row col =>
      obtain ⟨⟨hk1, hk2, hk3, hk4⟩, hk5, hk6⟩ := hk
      have hs := h1 _ rfl
      walk_at "g"
      refine ⟨true, .inr (.inl ⟨_, SqT.of h0, rfl⟩), ?_⟩
      walk_at "g"
      refine ⟨q, t, b, l, r, rfl, hs, hk1, hk2, hk3, hk4, ?_⟩
      walk_at "g"
      refine ⟨q, _, rfl, hs, ⟨hk1, hk2, hk3, hk4⟩, fun H1 s1 => ?_⟩
      have h0' := s1 _ _ h0
      walk_at "g"
      refine ⟨row, rfl, hk5, ?_⟩
      walk_at "g"
      refine ⟨col, rfl, hk6, ?_⟩
      walk_at "g"
      exact k _ s1
end

end Gr

namespace Gr
open PySem PySem.Spec PyProof.Rows L2
local macro_rules | `(tactic| walk_at "n") => `(tactic| try simp only [u_tVar, u_tC, u_tB, u_tTest, u_tAnd, u_tOr, u_tNot, u_tAndV, u_tOrV, u_tNotV, u_tIf, u_tNext, u_tSeq, u_tBreak, u_tCont, u_tDrop, u_tRet, u_tRetN, u_tIfS, u_tNever, u_gName, u_tAsg, u_tPar, u_gSub, u_tOp, u_tUn, u_tChain, u_tNil, u_tCons, u_tTup, u_tLst, u_tCB, u_tCall, u_tNoPart, u_tPart, u_tSl, u_tYes, u_iList', u_iTup', u_tLc, u_tDc, u_tFor, u_iRng1, u_iRng2, u_iEnum, u_iEnumT, u_iZip, u_iZip3, L2.wipe, u_sDPut', u_tDGet', u_tDNewK, u_tFld', u_sFld, u_gTup, u_gCons, u_gNil, v_rI0, v_rI, v_eqI, v_neI, v_eqS, v_neS, v_bl, v_int, v_ref, v_some, v_two, w_insert_tell, w_remove_tell, w_remove_insert, w_move_tell, w_move_insert, w_move_remove, w_copy_tell, w_copy_insert, w_copy_remove, w_copy_move, w_rows_table, w_columns_table, w_cells_table, w_rows_cells, w_columns_cells, w_columns_rows, w_cells_rows, w_cells_columns, w_rows_columns, w_table_cells, w_table_rows, w_table_columns, w_column_row, w_plain_like, w_like_plain, w_old_new, w_new_old, w_newest_nearest, w_nearest_newest, w_ink_ground, w_ink_face, w_ground_ink, w_ground_face, w_face_ink, w_face_ground, w_whole_lanes, w_whole_files, w_whole_spots, w_lanes_files, w_lanes_spots, w_files_spots, List.getElem?_cons_zero, List.getElem?_cons_succ, List.set_cons_zero, List.set_cons_succ, List.append_nil, Bool.not_true, Bool.not_false, eq_self, if_true, Bool.false_eq_true, if_false, decide_true, decide_false, v_max, v_min, v_intQ, v_isN, v_notN, reduceCtorEq, Nat.reduceAdd, Nat.zero_add, Int.cast_ofNat_Int, Int.reduceEq, Int.reduceLE, Int.reduceLT, Int.reduceAdd, List.cons_append, List.nil_append, List.map_cons, List.map_nil, Sc.vs, ov, De.vs, how, List.length_cons, List.length_nil])
local macro_rules | `(tactic| walk_at "x") => `(tactic| first | refine ixT (by assumption) rfl ?_ | refine ixL (by assumption) rfl ?_ | refine lenT (by assumption) rfl ?_ | refine lenL (by assumption) rfl ?_ | refine isi (.base (.int _)) kit_int_int ?_ | refine isi (.base (.int _)) kit_int_str ?_ | refine isi (.base (.int _)) kit_int_bool ?_ | refine isi (.base (.int _)) kit_int_tuple ?_ | refine isi (.base (.int _)) kit_int_list ?_ | refine isi (.base (.str _)) kit_str_int ?_ | refine isi (.base (.str _)) kit_str_str ?_ | refine isi (.base (.str _)) kit_str_bool ?_ | refine isi (.base (.str _)) kit_str_tuple ?_ | refine isi (.base (.str _)) kit_str_list ?_ | refine isi (.base (.bl _)) kit_bool_int ?_ | refine isi (.base (.bl _)) kit_bool_str ?_ | refine isi (.base (.bl _)) kit_bool_bool ?_ | refine isi (.base (.bl _)) kit_bool_tuple ?_ | refine isi (.base (.bl _)) kit_bool_list ?_ | refine isi (.base (.tup (by assumption))) kit_tuple_int ?_ | refine isi (.base (.tup (by assumption))) kit_tuple_str ?_ | refine isi (.base (.tup (by assumption))) kit_tuple_bool ?_ | refine isi (.base (.tup (by assumption))) kit_tuple_tuple ?_ | refine isi (.base (.tup (by assumption))) kit_tuple_list ?_ | refine isi (.base (.lst (by assumption))) kit_list_int ?_ | refine isi (.base (.lst (by assumption))) kit_list_str ?_ | refine isi (.base (.lst (by assumption))) kit_list_bool ?_ | refine isi (.base (.lst (by assumption))) kit_list_tuple ?_ | refine isi (.base (.lst (by assumption))) kit_list_list ?_ | refine isi (.base (.non)) kit_NoneType_int ?_ | refine isi (.base (.non)) kit_NoneType_str ?_ | refine isi (.base (.non)) kit_NoneType_bool ?_ | refine isi (.base (.non)) kit_NoneType_tuple ?_ | refine isi (.base (.non)) kit_NoneType_list ?_)
local macro_rules | `(tactic| walk_at "g") => `(tactic| (repeat (walk_at "n"; walk_at "x")); walk_at "n")

-- Gr4
section
variable {P : Program} {w : World} {K : PySem.W.Frag} {mg : Str → Option Value} {fds : Str → FuncData} {base : Heap}
/-- a row of deeds as values -/
def DsV (H : Hp) (vs : List V) (ds : List De) : Prop := Paired (DeAt H) vs ds ∧ (∀ d ∈ ds, d.ok) ∧ ds.length ≤ 6
theorem DsV.same {H H' : Hp} {vs : List V} {ds : List De} (h : DsV H vs ds) (e : ∀ b xs, H b = some (.tup xs) → H' b = some (.tup xs)) : DsV H' vs ds := ⟨Paired.mapP h.1 fun _ _ x => x.same e, h.2⟩
def fsD (t : Addr) : List (Str × V) := putF "deeds" (.ref t) []
/-- an object of the class Deeds -/
def DsAt (K : PySem.W.Frag) (H : Hp) (v : V) (ds : List De) : Prop := ∃ x dx t vs, v = .ref x ∧ H x = some (.ins (He.ga K "Deeds") dx (fsD t)) ∧ H t = some (.tup vs) ∧ DsV H vs ds
abbrev s_Deeds_init : Stmt := inClass (top 43) 0
abbrev N_Deeds_init : List Str := ["self", "deeds", "index", "deed"]
theorem sc_Deeds_init : FnScope N_Deeds_init ["self", "deeds"] (defScope s_Deeds_init) := ⟨rfl, rfl, rfl, by decide +kernel, rfl, by decide +kernel, by decide +kernel⟩
def spDeedsInit (K : PySem.W.Frag) : Sp := fun vs H Q _ => ∃ (x dx l : Addr) (us : List V) (ds : List De), vs = [.ref x, .ref l] ∧ H x = some (.ins (He.ga K "Deeds") dx []) ∧ H l = some (.lst us) ∧ DsV H us ds ∧
  ∀ (t : Addr) (H' : Hp), H t = none → Grow x H H' → H' x = some (.ins (He.ga K "Deeds") dx (fsD t)) → H' t = some (.tup us) → Q .non H'
theorem ok_Deeds_init (T : Txt K mg fds) : FnOk P w K mg base CX0 7 (He.ma K (He.ga K "Deeds") "__init__") (fds "Deeds.__init__") ["self", "deeds"] (spDeedsInit K) := by
  refine T.e_Deeds_init.fn.ok sc_Deeds_init (fun vs H Q E h => ?_) (fun cdv A outer s H vs Q E hr h => ?_)
  · obtain ⟨x, dx, l, us, ds, rfl, _⟩ := h; rfl
  · obtain ⟨x, dx, l, us, ds, rfl, hx, hl, hd, k⟩ := h
    have nd := sc_Deeds_init.nd
    refine ⟨_, PSs.nox (pss_cons (ps_if (pt_cmpR op_gt (pe_callB call_lenQ (by rfl) T.g_len (by decide +kernel) (pa_cons (pv 1) pa_nil)) (pe_glob (v := .int 6) rfl T.c_MOST_deeds.choose_spec ⟨_, rfl⟩) (nomark _))
        (pss_one ps_never)
        pss_nil)
      (pss_cons (ps_for PassesOwn.never rfl (pi_enum (by rfl) T.g_enumerate (pa_cons (pv 1) pa_nil)) (pg_tup rfl (pgs_cons (pg_name (i := 2) nd rfl (by first | exact Or.inl rfl | exact Or.inr rfl)) (pgs_cons (pg_name (i := 3) nd rfl (by first | exact Or.inl rfl | exact Or.inr rfl)) pgs_nil)))
        (pss_one (ps_if (pt_not (pt_val (pe_fn T.d_is_deed (ok_is_deed T) hr rfl (pa_cons (pv 3) pa_nil))))
          (pss_one ps_never)
          pss_nil)))
      (pss_one (ps_fld (pv 0) (pe_callTy call_tupQ (by rfl) T.g_tuple (by decide +kernel) (pa_cons (pv 1) pa_nil)) rfl)))), ?_⟩
    rw [show L2.start N_Deeds_init [.ref x, .ref l] = [some (.ref x), some (.ref l), none, none] from rfl]
    have hlen := hd.1.length
    have h6 := hd.2.2
    walk_at "g"
    rw [show decide ((6 : Int) < (us.length : Int)) = false from decide_eq_false (by omega)]
    walk_at "n"
    refine enL hl ?_
    refine forW (n := us.length) (G := fun H => SqL K H l us) walk_enum (fun i σ H2 => ∃ a b, σ = [some (.ref x), some (.ref l), a, b] ∧ Same H H2) ⟨none, none, rfl, Same.refl H⟩ (fun i σ H2 _ p => by obtain ⟨_, _, _, s2⟩ := p; exact SqL.of (s2 _ _ hl)) ?_ ?_
    · rintro i v σ H2 H3 hi ⟨a, b, rfl, s2⟩ ⟨T1, x1, y1, rfl, hT, rfl, e1, e2⟩
      cases e1
      obtain ⟨d, hdi, hat⟩ := paired_get hd.1 e2
      have s3 := s2.trans (Same.upd (.tup [.int (i : Nat), y1]) hT)
      walk_at "n"
      refine tupG upd_same rfl ?_
      walk_at "n"
      refine ⟨y1, d, rfl, hat.same (Same.tup s3), hd.2.1 d (List.mem_of_getElem? hdi), fun H4 s4 => ?_⟩
      walk_at "n"
      exact ⟨_, _, rfl, s3.trans s4⟩
    · rintro σ H2 ⟨a, b, rfl, s2⟩
      have hl2 := s2 _ _ hl
      walk_at "n"
      refine tupL hl2 fun t ht => ?_
      have s3 := s2.trans (Same.upd (.tup us) ht)
      walk_at "n"
      have hx3 := s3 _ _ hx
      refine fldS hx3 T.k_Deeds T.n_deeds (by show 0 < 1000; decide) ?_
      walk_at "n"
      refine k t _ (s2.free ht) ((Grow.of s3).trans (Grow.upd _)) upd_same ?_
      rw [upd_ne (ne_of upd_same hx3 (by intro z; cases z))]
      exact upd_same
end

end Gr

namespace Gr
open PySem PySem.Spec PyProof.Rows L2
/-! ### the mirror: tellings, traces -/
inductive Tl (α : Type) where
  | old (a : α)
  | new (v age : Nat)
  deriving DecidableEq
def setK {β : Type} (f : Kd → β) (k : Kd) (x : β) : Kd → β := fun j => if j = k then x else f j
theorem setK_same {β : Type} (f : Kd → β) (k : Kd) (x : β) : setK f k x k = x := if_pos rfl
theorem setK_ne {β : Type} (f : Kd → β) {k j : Kd} (x : β) (h : j ≠ k) : setK f k x j = f j := if_neg h
structure Tr where
  whole : Kd → Option (Tl Unit)
  lanes : Kd → List (Option (Tl Nat))
  files : Kd → List (Option (Tl Nat))
  spots : Kd → List (List (Option (Tl (Nat × Nat))))
/-- rows and columns there are -/
structure Tr.Wf (T : Tr) (n m : Nat) : Prop where
  ln : ∀ k, (T.lanes k).length = n
  fl : ∀ k, (T.files k).length = m
  sp : ∀ k, (T.spots k).length = n
  rw : ∀ k, ∀ r ∈ T.spots k, r.length = m
/-- n places from a on hold x -/
def setN {α : Type} (a : Nat) (x : α) : Nat → List α → List α
  | 0, xs => xs
  | n + 1, xs => (setN a x n xs).set (a + n) x
theorem setN_length {α : Type} (a : Nat) (x : α) : ∀ (n : Nat) (xs : List α), (setN a x n xs).length = xs.length
  | 0, _ => rfl
  | n + 1, xs => by rw [setN, List.length_set, setN_length a x n xs]
/-- n rows from a on changed by g -/
def modN {α : Type} (a : Nat) (g : α → α) : Nat → List α → List α
  | 0, xs => xs
  | n + 1, xs => (modN a g n xs).modify (a + n) g
theorem modN_length {α : Type} (a : Nat) (g : α → α) : ∀ (n : Nat) (xs : List α), (modN a g n xs).length = xs.length
  | 0, _ => rfl
  | n + 1, xs => by rw [modN, List.length_modify, modN_length a g n xs]
def insL {α : Type} (a n : Nat) (x : α) (xs : List α) : List α := xs.take a ++ List.replicate n x ++ xs.drop a
def remL {α : Type} (a n : Nat) (xs : List α) : List α := xs.take a ++ xs.drop (a + n)
def movL {α : Type} (a n to : Nat) (xs : List α) : List α := (remL a n xs).take to ++ (xs.drop a).take n ++ (remL a n xs).drop to
/-- the items of line laid from a on -/
def layL {α : Type} (a : Nat) : List α → List α → List α
  | [], xs => xs
  | y :: ys, xs => layL (a + 1) ys (xs.set a y)
def mkT {α : Type} : Option (Nat × Nat) → Option (Tl α)
  | none => none
  | some p => some (.new p.1 p.2)
def endOf (n : Nat) : Option Nat → Nat
  | none => n
  | some b => b + 1
def Tr.tell (T : Tr) (s : Sc) (k : Kd) (x : Option (Nat × Nat)) : Tr := match s with
  | .table => { T with whole := setK T.whole k (mkT x) }
  | .rows a b => { T with lanes := setK T.lanes k (setN a (mkT x) (endOf (T.lanes k).length b - a) (T.lanes k)) }
  | .cols a b => { T with files := setK T.files k (setN a (mkT x) (endOf (T.files k).length b - a) (T.files k)) }
  | .cells t b l r => { T with spots := setK T.spots k (modN t (setN l (mkT x) (r + 1 - l)) (b + 1 - t) (T.spots k)) }
/-! ### tellings, lines, traces in the heap -/
def srcW : Unit → List V := fun _ => [.str "table"]
def srcR : Nat → List V := fun n => [.str "rows", .int (n : Int), .int (n : Int)]
def srcF : Nat → List V := fun n => [.str "columns", .int (n : Int), .int (n : Int)]
def srcC : Nat × Nat → List V := fun p => [.str "cells", .int (p.1 : Int), .int (p.1 : Int), .int (p.2 : Int), .int (p.2 : Int)]
def TlAt {α : Type} (src : α → List V) (H : Hp) (v : V) : Option (Tl α) → Prop
  | none => v = .non
  | some (.old a) => ∃ p q, v = .ref p ∧ H p = some (.tup [.str "old", .ref q]) ∧ H q = some (.tup (src a))
  | some (.new n age) => ∃ p, v = .ref p ∧ H p = some (.tup [.str "new", .int (n : Int), .int (age : Int)])
/-- tuples stay -/
def TupS (H H' : Hp) : Prop := ∀ b xs, H b = some (.tup xs) → H' b = some (.tup xs)
theorem TupS.refl (H : Hp) : TupS H H := fun _ _ h => h
theorem TupS.trans {H H1 H2 : Hp} (a : TupS H H1) (b : TupS H1 H2) : TupS H H2 := fun c xs h => b c xs (a c xs h)
theorem TupS.of {H H' : Hp} (e : Same H H') : TupS H H' := fun b xs h => e b _ h
theorem TupS.ofN {H H' : Hp} (e : LamX.ExtN H H') : TupS H H' := fun b xs h => e b _ h fun ps z => by cases z
theorem TupS.upd {H : Hp} {a : Addr} {o : HO} (h : ∀ xs, H a ≠ some (.tup xs)) : TupS H (upd H a o) := fun b xs e => by
  rw [upd_ne (fun z => h xs (by rw [← z]; exact e))]
  exact e
theorem TupS.grow {D : Addr} {H H' : Hp} (g : Grow D H H') (h : ∀ xs, H D ≠ some (.tup xs)) : TupS H H' := fun b xs e => g b _ (fun z => h xs (by rw [← z]; exact e)) e
theorem TlAt.stay {α : Type} {src : α → List V} {H H' : Hp} {v : V} {x : Option (Tl α)} (h : TlAt src H v x) (e : TupS H H') : TlAt src H' v x := by
  cases x with
  | none => exact h
  | some t =>
    cases t with
    | old a =>
      obtain ⟨p, q, h1, h2, h3⟩ := h
      exact ⟨p, q, h1, e _ _ h2, e _ _ h3⟩
    | new n age =>
      obtain ⟨p, h1, h2⟩ := h
      exact ⟨p, h1, e _ _ h2⟩
/-- a line of tellings at l -/
def LineAt {α : Type} (src : α → List V) (H : Hp) (l : Addr) (xs : List (Option (Tl α))) : Prop := ∃ vs, H l = some (.lst vs) ∧ Paired (TlAt src H) vs xs
theorem LineAt.stay {α : Type} {src : α → List V} {H H' : Hp} {l : Addr} {xs : List (Option (Tl α))} (h : LineAt src H l xs) (e : TupS H H') (el : H' l = H l) : LineAt src H' l xs := by
  obtain ⟨vs, h1, h2⟩ := h
  exact ⟨vs, el.trans h1, Paired.mapP h2 fun _ _ x => x.stay e⟩
/-- a dict by kinds -/
def kd (f : Kd → V) : List (Key × V) := [(.inr "ink", f .ink), (.inr "ground", f .ground), (.inr "face", f .face)]
theorem kd_get (f : Kd → V) (k : Kd) : valV (kd f) (Sum.inr k.s) = some (f k) := by
  cases k
  · exact valV_pos rfl
  · exact (valV_neg (by show ¬ ((Sum.inr (Str.ofString "ink") : Key) = Sum.inr (Str.ofString "ground")); decide +kernel)).trans (valV_pos rfl)
  · exact (valV_neg (by show ¬ ((Sum.inr (Str.ofString "ink") : Key) = Sum.inr (Str.ofString "face")); decide +kernel)).trans ((valV_neg (by show ¬ ((Sum.inr (Str.ofString "ground") : Key) = Sum.inr (Str.ofString "face")); decide +kernel)).trans (valV_pos rfl))
theorem kd_put (f : Kd → V) (k : Kd) (v : V) : putK (kd f) (Sum.inr k.s) v = kd (setK f k v) := by
  have h1 : ¬ ((Sum.inr (Str.ofString "ink") : Key) = Sum.inr (Str.ofString "ground")) := by decide +kernel
  have h2 : ¬ ((Sum.inr (Str.ofString "ink") : Key) = Sum.inr (Str.ofString "face")) := by decide +kernel
  have h3 : ¬ ((Sum.inr (Str.ofString "ground") : Key) = Sum.inr (Str.ofString "face")) := by decide +kernel
  cases k <;> simp [kd, putK, Kd.s, setK, h1, h2, h3, Ne.symm h1, Ne.symm h2, Ne.symm h3, Ne.symm]
def fsT (dW dL dF dS : Addr) : List (Str × V) := [("whole", .ref dW), ("lanes", .ref dL), ("files", .ref dF), ("spots", .ref dS)]
theorem fsT_whole (dW dL dF dS : Addr) : (fsT dW dL dF dS).lookup ("whole" : Str) = some (.ref dW) := by
  simp [fsT]
theorem fsT_lanes (dW dL dF dS : Addr) : (fsT dW dL dF dS).lookup ("lanes" : Str) = some (.ref dL) := by
  have h1 : ((Str.ofString "lanes") == (Str.ofString "whole")) = false := by decide +kernel
  simp [fsT, List.lookup, h1]
theorem fsT_files (dW dL dF dS : Addr) : (fsT dW dL dF dS).lookup ("files" : Str) = some (.ref dF) := by
  have h1 : ((Str.ofString "files") == (Str.ofString "whole")) = false := by decide +kernel
  have h2 : ((Str.ofString "files") == (Str.ofString "lanes")) = false := by decide +kernel
  simp [fsT, List.lookup, h1, h2]
theorem fsT_spots (dW dL dF dS : Addr) : (fsT dW dL dF dS).lookup ("spots" : Str) = some (.ref dS) := by
  have h1 : ((Str.ofString "spots") == (Str.ofString "whole")) = false := by decide +kernel
  have h2 : ((Str.ofString "spots") == (Str.ofString "lanes")) = false := by decide +kernel
  have h3 : ((Str.ofString "spots") == (Str.ofString "files")) = false := by decide +kernel
  simp [fsT, List.lookup, h1, h2, h3]
/-! ### who stands where -/
structure Own where
  dW : Addr
  dL : Addr
  dF : Addr
  dS : Addr
  ln : Kd → Addr
  fl : Kd → Addr
  sp : Kd → Addr
  rw : Kd → List Addr
inductive Ro where
  | self | dW | dL | dF | dS | ln (k : Kd) | fl (k : Kd) | sp (k : Kd) | rw (k : Kd)
  deriving DecidableEq
structure TrAt (K : PySem.W.Frag) (H : Hp) (t : Addr) (T : Tr) (o : Own) (ro : Addr → Option Ro) : Prop where
  ob : ∃ dx, H t = some (.ins (He.ga K "Trace") dx (fsT o.dW o.dL o.dF o.dS))
  w : ∃ f, H o.dW = some (.dK (kd f)) ∧ ∀ k, TlAt srcW H (f k) (T.whole k)
  l : H o.dL = some (.dK (kd fun k => .ref (o.ln k)))
  f : H o.dF = some (.dK (kd fun k => .ref (o.fl k)))
  s : H o.dS = some (.dK (kd fun k => .ref (o.sp k)))
  ln : ∀ k, LineAt srcR H (o.ln k) (T.lanes k)
  fl : ∀ k, LineAt srcF H (o.fl k) (T.files k)
  sp : ∀ k, H (o.sp k) = some (.lst ((o.rw k).map V.ref))
  rw : ∀ k, Paired (LineAt srcC H) (o.rw k) (T.spots k)
  nd : ∀ k, (o.rw k).Nodup
  r_t : ro t = some .self
  r_W : ro o.dW = some .dW
  r_L : ro o.dL = some .dL
  r_F : ro o.dF = some .dF
  r_S : ro o.dS = some .dS
  r_ln : ∀ k, ro (o.ln k) = some (.ln k)
  r_fl : ∀ k, ro (o.fl k) = some (.fl k)
  r_sp : ∀ k, ro (o.sp k) = some (.sp k)
  r_rw : ∀ k, ∀ a ∈ o.rw k, ro a = some (.rw k)
  al : ∀ b, ro b ≠ none → H b ≠ none
theorem ne_ro {ro : Addr → Option Ro} {a b : Addr} {r q : Ro} (h1 : ro a = some r) (h2 : ro b = some q) (h : r ≠ q) : a ≠ b := fun e => by
  rw [e, h2] at h1
  exact h (Option.some.inj h1).symm
theorem upd_al {H : Hp} {a b : Addr} {o : HO} (h : H b ≠ none) : upd H a o b ≠ none := by
  unfold upd
  split
  · intro z; cases z
  · exact h
theorem paired_line {src : (Nat × Nat) → List V} {H H' : Hp} {as : List Addr} {xs : List (List (Option (Tl (Nat × Nat))))} (p : Paired (LineAt src H) as xs) (e : TupS H H') (el : ∀ a ∈ as, H' a = H a) : Paired (LineAt src H') as xs := by
  induction p with
  | nil => exact .nil
  | cons a b ih => exact .cons (a.stay e (el _ List.mem_cons_self)) (ih fun c hc => el c (List.mem_cons_of_mem _ hc))
section
variable {K : PySem.W.Frag} {H : Hp} {t : Addr} {T : Tr} {o : Own} {ro : Addr → Option Ro}
theorem TrAt.old (h : TrAt K H t T o ro) {a : Addr} {r : Ro} {u : HO} (ha : ro a = some r) : ∀ {b : Addr} {q : Ro}, ro b = some q → q ≠ r → upd H a u b = H b := fun hb hq => upd_ne (ne_ro hb ha hq)
/-- whole[k] told -/
theorem TrAt.put_W (h : TrAt K H t T o ro) (k : Kd) {v : V} {x : Option (Tl Unit)} (hv : TlAt srcW H v x) {f : Kd → V} (hf : H o.dW = some (.dK (kd f))) (hw : ∀ k, TlAt srcW H (f k) (T.whole k)) :
    TrAt K (upd H o.dW (.dK (kd (setK f k v)))) t { T with whole := setK T.whole k x } o ro := by
  have ts : TupS H (upd H o.dW (.dK (kd (setK f k v)))) := TupS.upd fun xs z => by rw [hf] at z; cases z
  obtain ⟨dx, hob⟩ := h.ob
  refine ⟨⟨dx, ?_⟩, ⟨_, upd_same, fun j => ?_⟩, ?_, ?_, ?_, fun j => (h.ln j).stay ts ?_, fun j => (h.fl j).stay ts ?_, fun j => ?_, fun j => paired_line (h.rw j) ts fun a ha => ?_, h.nd, h.r_t, h.r_W, h.r_L, h.r_F, h.r_S, h.r_ln, h.r_fl, h.r_sp, h.r_rw, fun b hb => upd_al (h.al b hb)⟩
  · rw [h.old h.r_W h.r_t (by decide)]; exact hob
  · by_cases e : j = k
    · subst e
      rw [setK_same]
      show TlAt srcW _ v (setK T.whole j x j)
      rw [setK_same]
      exact hv.stay ts
    · rw [setK_ne f v e]
      show TlAt srcW _ (f j) (setK T.whole k x j)
      rw [setK_ne _ _ e]
      exact (hw j).stay ts
  · rw [h.old h.r_W h.r_L (by decide)]; exact h.l
  · rw [h.old h.r_W h.r_F (by decide)]; exact h.f
  · rw [h.old h.r_W h.r_S (by decide)]; exact h.s
  · exact h.old h.r_W (h.r_ln j) (by simp)
  · exact h.old h.r_W (h.r_fl j) (by simp)
  · rw [h.old h.r_W (h.r_sp j) (by simp)]; exact h.sp j
  · exact h.old h.r_W (h.r_rw j a ha) (by simp)
/-- a lane's content -/
theorem TrAt.put_ln (h : TrAt K H t T o ro) (k : Kd) {vs : List V} {xs : List (Option (Tl Nat))} (hv : Paired (TlAt srcR H) vs xs) : TrAt K (upd H (o.ln k) (.lst vs)) t { T with lanes := setK T.lanes k xs } o ro := by
  obtain ⟨vs0, hl0, _⟩ := h.ln k
  have ts : TupS H (upd H (o.ln k) (.lst vs)) := TupS.upd fun xs z => by rw [hl0] at z; cases z
  obtain ⟨dx, hob⟩ := h.ob
  obtain ⟨f, hf, hw⟩ := h.w
  refine ⟨⟨dx, ?_⟩, ⟨f, ?_, fun j => (hw j).stay ts⟩, ?_, ?_, ?_, fun j => ?_, fun j => (h.fl j).stay ts ?_, fun j => ?_, fun j => paired_line (h.rw j) ts fun a ha => ?_, h.nd, h.r_t, h.r_W, h.r_L, h.r_F, h.r_S, h.r_ln, h.r_fl, h.r_sp, h.r_rw, fun b hb => upd_al (h.al b hb)⟩
  · rw [h.old (h.r_ln k) h.r_t (by simp)]; exact hob
  · rw [h.old (h.r_ln k) h.r_W (by simp)]; exact hf
  · rw [h.old (h.r_ln k) h.r_L (by simp)]; exact h.l
  · rw [h.old (h.r_ln k) h.r_F (by simp)]; exact h.f
  · rw [h.old (h.r_ln k) h.r_S (by simp)]; exact h.s
  · show LineAt srcR _ (o.ln j) (setK T.lanes k xs j)
    by_cases e : j = k
    · subst e
      rw [setK_same]
      exact ⟨vs, upd_same, Paired.mapP hv fun _ _ x => x.stay ts⟩
    · rw [setK_ne _ _ e]
      exact (h.ln j).stay ts (h.old (h.r_ln k) (h.r_ln j) (by simp [e]))
  · exact h.old (h.r_ln k) (h.r_fl j) (by simp)
  · rw [h.old (h.r_ln k) (h.r_sp j) (by simp)]; exact h.sp j
  · exact h.old (h.r_ln k) (h.r_rw j a ha) (by simp)
/-- a file's content -/
theorem TrAt.put_fl (h : TrAt K H t T o ro) (k : Kd) {vs : List V} {xs : List (Option (Tl Nat))} (hv : Paired (TlAt srcF H) vs xs) : TrAt K (upd H (o.fl k) (.lst vs)) t { T with files := setK T.files k xs } o ro := by
  obtain ⟨vs0, hl0, _⟩ := h.fl k
  have ts : TupS H (upd H (o.fl k) (.lst vs)) := TupS.upd fun xs z => by rw [hl0] at z; cases z
  obtain ⟨dx, hob⟩ := h.ob
  obtain ⟨f, hf, hw⟩ := h.w
  refine ⟨⟨dx, ?_⟩, ⟨f, ?_, fun j => (hw j).stay ts⟩, ?_, ?_, ?_, fun j => (h.ln j).stay ts ?_, fun j => ?_, fun j => ?_, fun j => paired_line (h.rw j) ts fun a ha => ?_, h.nd, h.r_t, h.r_W, h.r_L, h.r_F, h.r_S, h.r_ln, h.r_fl, h.r_sp, h.r_rw, fun b hb => upd_al (h.al b hb)⟩
  · rw [h.old (h.r_fl k) h.r_t (by simp)]; exact hob
  · rw [h.old (h.r_fl k) h.r_W (by simp)]; exact hf
  · rw [h.old (h.r_fl k) h.r_L (by simp)]; exact h.l
  · rw [h.old (h.r_fl k) h.r_F (by simp)]; exact h.f
  · rw [h.old (h.r_fl k) h.r_S (by simp)]; exact h.s
  · exact h.old (h.r_fl k) (h.r_ln j) (by simp)
  · show LineAt srcF _ (o.fl j) (setK T.files k xs j)
    by_cases e : j = k
    · subst e
      rw [setK_same]
      exact ⟨vs, upd_same, Paired.mapP hv fun _ _ x => x.stay ts⟩
    · rw [setK_ne _ _ e]
      exact (h.fl j).stay ts (h.old (h.r_fl k) (h.r_fl j) (by simp [e]))
  · rw [h.old (h.r_fl k) (h.r_sp j) (by simp)]; exact h.sp j
  · exact h.old (h.r_fl k) (h.r_rw j a ha) (by simp)
theorem paired_rows {H : Hp} {as : List Addr} {xss : List (List (Option (Tl (Nat × Nat))))} (p : Paired (LineAt srcC H) as xss) : ∀ {i : Nat} {a : Addr} {vs : List V} {xs : List (Option (Tl (Nat × Nat)))}, as.Nodup → as[i]? = some a → TupS H (upd H a (.lst vs)) → Paired (TlAt srcC H) vs xs → Paired (LineAt srcC (upd H a (.lst vs))) as (xss.set i xs) := by
  induction p with
  | nil => intro i a vs xs _ h; cases h
  | @cons b ys bs yss hb hbs ih =>
    intro i a vs xs nd h ts hv
    obtain ⟨n1, n2⟩ := List.nodup_cons.mp nd
    cases i with
    | zero =>
      have e : b = a := by simpa using h
      subst e
      exact .cons ⟨vs, upd_same, Paired.mapP hv fun _ _ x => x.stay ts⟩ (paired_line hbs ts fun c hc => upd_ne fun z => n1 (by rw [← z]; exact hc))
    | succ i =>
      have h' : bs[i]? = some a := by simpa using h
      refine .cons (hb.stay ts (upd_ne fun z => n1 (by rw [z]; exact List.mem_of_getElem? h'))) (ih n2 h' ts hv)
/-- a row's content -/
theorem TrAt.put_rw (h : TrAt K H t T o ro) (k : Kd) {i : Nat} {a : Addr} (ha : (o.rw k)[i]? = some a) {vs : List V} {xs : List (Option (Tl (Nat × Nat)))} (hv : Paired (TlAt srcC H) vs xs) :
    TrAt K (upd H a (.lst vs)) t { T with spots := setK T.spots k ((T.spots k).set i xs) } o ro := by
  obtain ⟨ys, hy, vs0, hl0, _⟩ := paired_get (h.rw k) ha
  have hm := List.mem_of_getElem? ha
  have ts : TupS H (upd H a (.lst vs)) := TupS.upd fun xs z => by rw [hl0] at z; cases z
  obtain ⟨dx, hob⟩ := h.ob
  obtain ⟨f, hf, hw⟩ := h.w
  have hr := h.r_rw k a hm
  refine ⟨⟨dx, ?_⟩, ⟨f, ?_, fun j => (hw j).stay ts⟩, ?_, ?_, ?_, fun j => (h.ln j).stay ts ?_, fun j => (h.fl j).stay ts ?_, fun j => ?_, fun j => ?_, h.nd, h.r_t, h.r_W, h.r_L, h.r_F, h.r_S, h.r_ln, h.r_fl, h.r_sp, h.r_rw, fun b hb => upd_al (h.al b hb)⟩
  · rw [h.old hr h.r_t (by simp)]; exact hob
  · rw [h.old hr h.r_W (by simp)]; exact hf
  · rw [h.old hr h.r_L (by simp)]; exact h.l
  · rw [h.old hr h.r_F (by simp)]; exact h.f
  · rw [h.old hr h.r_S (by simp)]; exact h.s
  · exact h.old hr (h.r_ln j) (by simp)
  · exact h.old hr (h.r_fl j) (by simp)
  · rw [h.old hr (h.r_sp j) (by simp)]; exact h.sp j
  · show Paired _ (o.rw j) (setK T.spots k _ j)
    by_cases e : j = k
    · subst e
      rw [setK_same]
      exact paired_rows (h.rw j) (h.nd j) ha ts hv
    · rw [setK_ne _ _ e]
      exact paired_line (h.rw j) ts fun b hb => h.old hr (h.r_rw j b hb) (by simp [e])
end
/-! ### heaps that grow, tables of code objects beside -/
structure Gx (H H' : Hp) : Prop where
  ext : LamX.ExtN H H'
  mono : ∀ b, H' b = none → H b = none
theorem Gx.refl (H : Hp) : Gx H H := ⟨LamX.ExtN.refl H, fun _ h => h⟩
theorem Gx.trans {H H1 H2 : Hp} (a : Gx H H1) (b : Gx H1 H2) : Gx H H2 := ⟨a.ext.trans b.ext, fun c h => a.mono c (b.mono c h)⟩
theorem Gx.of {H H' : Hp} (e : Same H H') : Gx H H' := ⟨fun b o h _ => e b o h, fun b h => e.free h⟩
theorem Gx.tups {H H' : Hp} (g : Gx H H') : TupS H H' := TupS.ofN g.ext
theorem Gx.lst {H H' : Hp} (g : Gx H H') {a : Addr} {xs : List V} (h : H a = some (.lst xs)) : H' a = some (.lst xs) := g.ext _ _ h fun ps z => by cases z
theorem Gx.tup {H H' : Hp} (g : Gx H H') {a : Addr} {xs : List V} (h : H a = some (.tup xs)) : H' a = some (.tup xs) := g.ext _ _ h fun ps z => by cases z
theorem Gx.dK {H H' : Hp} (g : Gx H H') {a : Addr} {xs : List (Key × V)} (h : H a = some (.dK xs)) : H' a = some (.dK xs) := g.ext _ _ h fun ps z => by cases z
theorem Gx.ins {H H' : Hp} (g : Gx H H') {a C dx : Addr} {fs : List (Str × V)} (h : H a = some (.ins C dx fs)) : H' a = some (.ins C dx fs) := g.ext _ _ h fun ps z => by cases z
/-- what is new behind H0 may be written -/
theorem Gx.upd {H0 H : Hp} (g : Gx H0 H) {a : Addr} (h : H0 a = none) (o : HO) : Gx H0 (upd H a o) := by
  refine ⟨fun b u e n => ?_, fun b e => ?_⟩
  · rw [upd_ne (ne_of_none e h)]
    exact g.ext b u e n
  · by_cases z : b = a
    · rw [z]
      exact h
    · rw [upd_ne z] at e
      exact g.mono b e
theorem tabs_upd {Tb : List NdefX.NTab} {H : Hp} {a : Addr} {o : HO} (h : NdefX.TabsN Tb H) (h1 : ∀ ps, H a ≠ some (.tbl ps)) (h2 : ∀ φ, H a ≠ some (.ext φ)) : NdefX.TabsN Tb (upd H a o) := fun p hp => by
  obtain ⟨ps, e1, e2, e3⟩ := h p hp
  refine ⟨ps, ?_, e2, fun pos cv hc => ?_⟩
  · rw [upd_ne (fun z => h1 ps (by rw [← z]; exact e1))]
    exact e1
  · obtain ⟨c, q1, q2⟩ := e3 pos cv hc
    refine ⟨c, q1, ?_⟩
    rw [upd_ne (fun z => h2 _ (by rw [← z]; exact q2))]
    exact q2
section
variable {K : PySem.W.Frag} {H H' : Hp} {t : Addr} {T : Tr} {o : Own} {ro : Addr → Option Ro}
/-- the heap grows -/
theorem TrAt.grow (h : TrAt K H t T o ro) (g : Gx H H') : TrAt K H' t T o ro := by
  have ts := g.tups
  obtain ⟨dx, hob⟩ := h.ob
  obtain ⟨f, hf, hw⟩ := h.w
  have ln : ∀ {α : Type} {src : α → List V} {l : Addr} {xs : List (Option (Tl α))}, LineAt src H l xs → LineAt src H' l xs := fun hl => by
    obtain ⟨vs, h1, h2⟩ := hl
    exact ⟨vs, g.lst h1, Paired.mapP h2 fun _ _ x => x.stay ts⟩
  refine ⟨⟨dx, g.ins hob⟩, ⟨f, g.dK hf, fun j => (hw j).stay ts⟩, g.dK h.l, g.dK h.f, g.dK h.s, fun j => ln (h.ln j), fun j => ln (h.fl j), fun j => g.lst (h.sp j), fun j => Paired.mapP (h.rw j) fun _ _ x => ln x, h.nd, h.r_t, h.r_W, h.r_L, h.r_F, h.r_S, h.r_ln, h.r_fl, h.r_sp, h.r_rw, fun b hb z => ?_⟩
  exact h.al b hb (g.mono b z)
end
/-- a trace at t, all of it newer than H0 -/
structure TrIn (K : PySem.W.Frag) (Tb : List NdefX.NTab) (H0 H : Hp) (t : Addr) (T : Tr) : Prop where
  ex : ∃ o ro, TrAt K H t T o ro ∧ ∀ b, ro b ≠ none → H0 b = none
  gx : Gx H0 H
  tb : NdefX.TabsN Tb H
section
variable {K : PySem.W.Frag} {Tb : List NdefX.NTab} {H0 H H' : Hp} {t : Addr} {T : Tr}
theorem TrIn.grow (h : TrIn K Tb H0 H t T) (e : Same H H') : TrIn K Tb H0 H' t T := by
  obtain ⟨o, ro, h1, h2⟩ := h.ex
  exact ⟨⟨o, ro, h1.grow (Gx.of e), h2⟩, h.gx.trans (Gx.of e), h.tb.ext e⟩
theorem TrIn.grow2 (h : TrIn K Tb H0 H t T) (g : Gx H H') (tb : NdefX.TabsN Tb H') : TrIn K Tb H0 H' t T := by
  obtain ⟨o, ro, h1, h2⟩ := h.ex
  exact ⟨⟨o, ro, h1.grow g, h2⟩, h.gx.trans g, tb⟩
end
section
variable {H : Hp} {Q : VK} {R : Hp → Prop}
theorem kdGet {a : Addr} {f : Kd → V} {k : Kd} (h : H a = some (.dK (kd f))) (q : Q (f k) H) : DctGet (.ref a) (.str k.s) H Q := ⟨a, f k, rfl, by rw [← kd_get f k]; exact DGet.k (k := Sum.inr k.s) h, q⟩
theorem kdPut {a : Addr} {f : Kd → V} {k : Kd} {v : V} (h : H a = some (.dK (kd f))) (q : R (upd H a (.dK (kd (setK f k v))))) : DctPut (.ref a) (.str k.s) v H R :=
  ⟨a, _, rfl, DPut.k (k := Sum.inr k.s) h (by show 3 < sizeLine; decide), by rw [kd_put]; exact q⟩
end
/-- a new telling's value -/
def NewAt (H : Hp) (v : V) : Option (Nat × Nat) → Prop
  | none => v = .non
  | some x => ∃ p, v = .ref p ∧ H p = some (.tup [.str "new", .int (x.1 : Int), .int (x.2 : Int)])
theorem NewAt.tl {α : Type} {src : α → List V} {H : Hp} {v : V} {x : Option (Nat × Nat)} (h : NewAt H v x) : TlAt src H v (mkT x) := by
  cases x with
  | none => exact h
  | some x => exact h
theorem NewAt.stay {H H' : Hp} {v : V} {x : Option (Nat × Nat)} (h : NewAt H v x) (e : TupS H H') : NewAt H' v x := by
  cases x with
  | none => exact h
  | some x =>
    obtain ⟨p, h1, h2⟩ := h
    exact ⟨p, h1, e _ _ h2⟩
/-! ### writes into a trace -/
section
variable {K : PySem.W.Frag} {Tb : List NdefX.NTab} {H0 H : Hp} {t : Addr} {T : Tr}
theorem TrIn.whole (h : TrIn K Tb H0 H t T) (k : Kd) {v : V} {x : Option (Tl Unit)} (hv : TlAt srcW H v x) {R : Hp → Prop} {Q : VK}
    (q : ∀ a (f : Kd → V), H a = some (.dK (kd f)) → TrIn K Tb H0 (upd H a (.dK (kd (setK f k v)))) t { T with whole := setK T.whole k x } → ∀ C dx fs, H t = some (.ins C dx fs) → C = He.ga K "Trace" → fs.lookup ("whole" : Str) = some (.ref a) → R H) : R H := by
  obtain ⟨o, ro, h1, h2⟩ := h.ex
  obtain ⟨f, hf, hw⟩ := h1.w
  obtain ⟨dx, hob⟩ := h1.ob
  refine q o.dW f hf ⟨⟨o, ro, h1.put_W k hv hf hw, h2⟩, h.gx.upd (h2 _ (by rw [h1.r_W]; intro z; cases z)) _, tabs_upd h.tb (fun ps z => by rw [hf] at z; cases z) fun φ z => by rw [hf] at z; cases z⟩ _ dx _ hob rfl (fsT_whole _ _ _ _)
end
end Gr

namespace Gr
open PySem PySem.Spec PyProof.Rows L2 NdefX
/-! ### a frame with cells of its own and captured ones -/
section
variable {M : Model} {A : Around} {E : Value → Shared → Prop} {s0 s : Shared} {m cm : Str → Option Value} {env : Env} {oc : List (Str × Addr)}
theorem put_loc {n : Str} {v : Value} {Q : Unit → Shared → Prop} (x : InCallC s0 env.locals m oc cm s) (hk : env.scope.kind = .function) (hl : env.kindOf n = some .local)
    (h : ∀ s1, InCallC s0 env.locals (fun y => if y = n then some v else m y) oc cm s1 → Q () s1) : wpAny M A (storeName env n v) Q E s := by
  refine wpAny_storeName_local hl x.toInCall.ns (fun h1 n1 s1 => h _ ⟨⟨?_, n1, fun b u e => ?_, x.toInCall.fresh⟩, fun k d hd => ?_, x.apart, x.above⟩) (by rw [hk] <;> rfl)
  · obtain ⟨g1, tk, rfl⟩ := x.toInCall.same
    exact ⟨h1, _, rfl⟩
  · have lt1 := Heap.lt_size e
    have fr1 := x.toInCall.fresh
    exact s1.extBut b u (Nat.ne_of_lt (Nat.lt_of_lt_of_le lt1 fr1)) (x.toInCall.keep b u e)
  · have ab := x.above k d (PySem.mem_of_lookup hd)
    exact (x.cell k d hd).sameBut s1 (Nat.ne_of_gt ab)
theorem put_cell {n : Str} {d : Addr} {v : Value} {Q : Unit → Shared → Prop} (x : InCallC s0 env.locals m oc cm s) (hk : env.scope.kind = .function) (hl : env.kindOf n = some .cell) (ho : oc.lookup n = some d) (hc : env.cells.lookup n = some d)
    (h : ∀ s1, InCallC s0 env.locals m oc (fun y => if y = n then some v else cm y) s1 → Q () s1) : wpAny M A (storeName env n v) Q E s := by
  have ab := x.above n d (PySem.mem_of_lookup ho)
  refine wpAny_storeName_cell hk hl hc (x.cell n d ho) fun h1 c1 s1 => h _ ⟨⟨?_, x.toInCall.ns.sameBut s1 (Nat.ne_of_lt ab), fun b u e => ?_, x.toInCall.fresh⟩, fun k d' hk' => ?_, x.apart, x.above⟩
  · obtain ⟨g1, tk, rfl⟩ := x.toInCall.same
    exact ⟨h1, _, rfl⟩
  · have lt1 := Heap.lt_size e
    have fr1 := x.toInCall.fresh
    exact s1.extBut b u (Nat.ne_of_lt (Nat.lt_trans (Nat.lt_of_lt_of_le lt1 fr1) ab)) (x.toInCall.keep b u e)
  · by_cases hkn : k = n
    · subst hkn
      rw [ho] at hk'
      cases hk'
      simpa using c1
    · rw [if_neg hkn]
      exact (x.cell k d' hk').sameBut s1 fun e => hkn (name_of_addr x.apart (PySem.mem_of_lookup hk') (e ▸ PySem.mem_of_lookup ho))
theorem put_pars (f : Str × Value → PUnit → Sem (ForInStep PUnit)) (hf : ∀ n v u, f (n, v) u = (do storeName env n v; pure (.yield ⟨⟩))) (hk : env.scope.kind = .function) :
    ∀ (bs : List (Str × Value)) (m cm : Str → Option Value) (s : Shared) (Q : PUnit → Shared → Prop), InCallC s0 env.locals m oc cm s →
      (∀ x ∈ bs, env.kindOf x.1 = some .local ∨ (env.kindOf x.1 = some .cell ∧ ∃ d, oc.lookup x.1 = some d ∧ env.cells.lookup x.1 = some d)) →
      (∀ s1, InCallC s0 env.locals (bindL env.kindOf bs m) oc (bindC env.kindOf bs cm) s1 → Q ⟨⟩ s1) → wpAny M A (forIn bs ⟨⟩ f) Q E s
  | [], m, cm, s, Q, x, _, h => by
    rw [List.forIn_nil]
    exact wpAny_pure (h s x)
  | (n, v) :: bs, m, cm, s, Q, x, hkd, h => by
    rw [List.forIn_cons, hf]
    rcases hkd (n, v) List.mem_cons_self with hl | ⟨hl, d, h1, h2⟩
    · refine wpAny_bind (wpAny_bind (put_loc x hk hl fun s1 x1 => wpAny_pure (put_pars f hf hk bs _ _ s1 Q x1 (fun y hy => hkd y (List.mem_cons_of_mem _ hy)) fun s2 x2 => h s2 ?_)))
      unfold bindL bindC
      rw [if_pos hl, if_pos hl]
      exact x2
    · have hnl : ¬ env.kindOf n = some .local := by
        rw [hl]
        decide
      refine wpAny_bind (wpAny_bind (put_cell x hk hl h1 h2 fun s1 x1 => wpAny_pure (put_pars f hf hk bs _ _ s1 Q x1 (fun y hy => hkd y (List.mem_cons_of_mem _ hy)) fun s2 x2 => h s2 ?_)))
      unfold bindL bindC
      rw [if_neg hnl, if_neg hnl]
      exact x2
theorem own_app : ∀ (names : List (Str × NameKind)) (n : Nat) (acc cl : List (Str × Addr)), cellsFrom n names (acc ++ cl) = cellsFrom n names acc ++ cl
  | [], n, acc, cl => rfl
  | (x, k) :: r, n, acc, cl => by
    unfold cellsFrom
    split
    · exact own_app r (n + 1) ((x, n) :: acc) cl
    · exact own_app r n acc cl
theorem own_kind : ∀ (names : List (Str × NameKind)) (n : Nat) (acc : List (Str × Addr)) (x : Str) (d : Addr), (x, d) ∈ cellsFrom n names acc → (x, d) ∈ acc ∨ (x, NameKind.cell) ∈ names
  | [], n, acc, x, d, h => .inl h
  | (y, k) :: r, n, acc, x, d, h => by
    unfold cellsFrom at h
    split at h
    · rename_i hk
      rcases own_kind r _ _ x d h with z | z
      · rcases List.mem_cons.mp z with z | z
        · cases z
          have : k = NameKind.cell := by simpa using hk
          subst this
          exact .inr List.mem_cons_self
        · exact .inl z
      · exact .inr (List.mem_cons_of_mem _ z)
    · rcases own_kind r _ _ x d h with z | z
      · exact .inl z
      · exact .inr (List.mem_cons_of_mem _ z)
theorem env_both {scope : Scope} {gl : Addr} {cl : List (Str × Addr)} {bs : List (Str × Value)} {qual : Str} {func : Option Addr} {code : Value} {bt : Addr} {Q : Env → Shared → Prop} (hk : scope.kind = .function)
    (hkd : ∀ x ∈ bs, scope.names.lookup x.1 = some .local ∨ (scope.names.lookup x.1 = some .cell ∧ ((cellsFrom (s.heap.objs.size + 1) scope.names []).lookup x.1).isSome = true))
    (hQ : ∀ s1, InCallC s s.heap.objs.size (bindL (fun y => scope.names.lookup y) bs fun _ => none) (cellsFrom (s.heap.objs.size + 1) scope.names []) (bindC (fun y => scope.names.lookup y) bs fun _ => none) s1 →
      Q (newEnv scope s.heap.objs.size gl (cellsFrom (s.heap.objs.size + 1) scope.names [] ++ cl) qual func code none bt) s1) :
    wpAny M A (newFunctionEnv scope gl cl bs qual func code none bt) Q E s := by
  simp only [newFunctionEnv, Option.isSome_none, Bool.false_eq_true, if_false]
  refine wpAny_bind (wpAny_alloc ?_)
  refine wpAny_bind (wpAny_layCells _ (fun nm kd cs => by cases hkc : kd == NameKind.cell <;> simp [hkc]) _ _ _ _ ?_)
  have ok := cellsFrom_ok scope.names (s.heap.push { cls := .type "frame", data := .dict #[] }) (s.heap.objs.size + 1) [] ⟨fun _ _ z => (nomatch z), List.Pairwise.nil⟩ (by rw [Heap.size_push] <;> exact Nat.le_refl _)
  rw [Heap.size_push] at ok
  rw [show ({ s with heap := s.heap.push { cls := .type "frame", data := .dict #[] } } : Shared).heap.objs.size = s.heap.objs.size + 1 by exact Heap.size_push ..]
  rw [show cellsFrom (s.heap.objs.size + 1) scope.names cl = cellsFrom (s.heap.objs.size + 1) scope.names [] ++ cl from own_app _ _ [] cl]
  refine wpAny_bind (put_pars (s0 := s) (oc := cellsFrom (s.heap.objs.size + 1) scope.names []) (env := newEnv scope s.heap.objs.size gl (cellsFrom (s.heap.objs.size + 1) scope.names [] ++ cl) qual func code none bt) _ (fun _ _ _ => rfl) hk bs (fun _ => none) (fun _ => none) _ _ ?_ ?_ fun s1 x1 => wpAny_pure (hQ s1 x1))
  · exact ⟨⟨⟨_, _, rfl⟩, (Heap.Ns.new s.heap (.type "frame")).keeps (pushCells_keeps _ _), fun b o e => pushCells_keeps _ _ b o (Heap.get?_push_of_some _ e), Nat.le_refl _⟩, fun n d hd => (ok.empty n d (PySem.mem_of_lookup hd)).1, ok.apart, fun n d hd => (ok.empty n d hd).2⟩
  · intro x hx
    rcases hkd x hx with z | ⟨z, hs⟩
    · exact .inl z
    · obtain ⟨d, hd⟩ := Option.isSome_iff_exists.mp hs
      refine .inr ⟨z, d, hd, ?_⟩
      show (cellsFrom (s.heap.objs.size + 1) scope.names [] ++ cl).lookup x.1 = some d
      rw [List.lookup_append, hd]
      rfl
end
/-! ### a nested def whose own names may be cells -/
structure NSc (N ps fr : List Str) (sc : Scope) : Prop where
  kind : sc.kind = .function
  co : sc.isCoroutine = false
  gen : sc.isGenerator = false
  nd : N.Nodup
  pre : N.take (ps.length + fr.length) = ps ++ fr
  par : ∀ x ∈ ps, sc.names.lookup x = some .local ∨ sc.names.lookup x = some .cell
  free : ∀ y ∈ sc.names, y.2 = .free → y.1 ∈ fr
  frk : ∀ x ∈ fr, sc.names.lookup x = some .free
  frc : ∀ x ∈ fr, (x, NameKind.cell) ∉ sc.names
def nscB2 (N ps fr : List Str) (sc : Scope) : Bool :=
  (decide (sc.kind = .function) && !sc.isCoroutine && !sc.isGenerator && decide N.Nodup && decide (N.take (ps.length + fr.length) = ps ++ fr)) && (ps.all (fun x => decide (sc.names.lookup x = some .local) || decide (sc.names.lookup x = some .cell)) && sc.names.all (fun y => !decide (y.2 = .free) || decide (y.1 ∈ fr)) && fr.all (fun x => decide (sc.names.lookup x = some .free) && decide ((x, NameKind.cell) ∉ sc.names)))
theorem nsc_by {N ps fr : List Str} {sc : Scope} (h : nscB2 N ps fr sc = true) : NSc N ps fr sc := by
  unfold nscB2 at h
  simp only [Bool.and_eq_true, Bool.not_eq_true', decide_eq_true_eq, List.all_eq_true, Bool.or_eq_true, decide_eq_false_iff_not] at h
  obtain ⟨⟨⟨⟨⟨h1, h2⟩, h3⟩, h4⟩, h5⟩, ⟨h6, h7⟩, h8⟩ := h
  exact ⟨h1, h2, h3, h4, h5, h6, fun y hy e => (h7 y hy).elim (fun z => absurd e z) id, fun x hx => (h8 x hx).1, fun x hx => (h8 x hx).2⟩
abbrev ownC (sc : Scope) (L : Addr) : List (Str × Addr) := cellsFrom (L + 1) sc.names []
abbrev envG (F : NF) (f L : Addr) : Env := PySem.W.envX F.qual F.scope L f (.ref F.c) (ownC F.scope L ++ F.cl)
def isCellB (sc : Scope) (x : Str) : Bool := match sc.names.lookup x with
  | some .cell => true
  | _ => false
theorem isCellB_iff {sc : Scope} {x : Str} (h : isCellB sc x = true) : sc.names.lookup x = some .cell := by
  unfold isCellB at h
  split at h
  · assumption
  · cases h
/-- the context of its body -/
def gcx (CX : CXT) (P : Program) (w : World) (K : PySem.W.Frag) (mg : Str → Option Value) (base : Heap) (N : List Str) (F : NF) (f : Addr) (A : Around) (outer : List Env) (s : Shared) (H : Hp) (E : XK) : Cx where
  prog := P
  w := w
  K := K
  mg := mg
  base := base
  A := A.deeper (envG F f s.heap.objs.size)
  N := N
  s_0 := s
  H_0 := H
  env := envG F f s.heap.objs.size
  outer := outer
  stack := envG F f s.heap.objs.size :: outer
  ex := []
  calm := true
  fn := isCellB F.scope
  pn := []
  xe := fun e s1 => wpAny (model P w) (A.deeper (envG F f s.heap.objs.size)) (leaving (envG F f s.heap.objs.size) e) (fun _ s2 => CX outer H s E e s2) (fun e2 s2 => CX outer H s E e2 s2) s1
section
variable {CX : CXT} {P : Program} {w : World} {K : PySem.W.Frag} {mg : Str → Option Value} {base : Heap} {N ps fr : List Str} {F : NF} {f : Addr} {A : Around} {outer : List Env} {s : Shared} {H : Hp} {E : XK} {us : List Value} {vs : List V} {ws : List (Option V)}
theorem inv_startG {s1 : Shared} (S : NSc N ps fr F.scope) (hd : A.handled = none) (e0 : Env0 P w K mg base A outer s H) (hl : vs.length = ps.length) (r : Vals vs us) (C : CellsAt F.cl fr ws s.heap H)
    (x : InCallC s s.heap.objs.size (bindL (fun y => F.scope.names.lookup y) (ps.zip us) fun _ => none) (ownC F.scope s.heap.objs.size) (bindC (fun y => F.scope.names.lookup y) (ps.zip us) fun _ => none) s1) :
    Inv (gcx CX P w K mg base N F f A outer s H E) [] (startF N vs ws) H s1 := by
  have hpl : ps.length + fr.length ≤ N.length := by
    have q := congrArg List.length S.pre
    rw [List.length_take, List.length_append] at q
    omega
  have clen := C.len
  obtain ⟨h1, tk, rfl, kp⟩ := x.done
  have noA : ∀ b : Addr, b ∉ (gcx CX P w K mg base N F f A outer s H E).ex := fun b z => absurd (show b ∈ ([] : List Addr) from z) (by simp)
  have olo : ∀ y c, (ownC F.scope s.heap.objs.size).lookup y = some c → s.heap.objs.size < c := fun y c e => x.above y c (PySem.mem_of_lookup e)
  have chi : ∀ y c, F.cl.lookup y = some c → c < s.heap.objs.size := fun y c e => by
    obtain ⟨v, z⟩ := (C.all y c e).2
    exact z.lt
  have spl : ∀ y c, (ownC F.scope s.heap.objs.size ++ F.cl).lookup y = some c → (ownC F.scope s.heap.objs.size).lookup y = some c ∨ F.cl.lookup y = some c := fun y c e => by
    rw [List.lookup_append] at e
    cases q : (ownC F.scope s.heap.objs.size).lookup y with
    | none =>
      rw [q] at e
      exact .inr e
    | some d =>
      rw [q] at e
      exact .inl e
  have onone : ∀ y ∈ fr, (ownC F.scope s.heap.objs.size).lookup y = none := fun y hy => by
    cases q : (ownC F.scope s.heap.objs.size).lookup y with
    | none => rfl
    | some d =>
      rcases own_kind _ _ _ y d (PySem.mem_of_lookup q) with z | z
      · cases z
      · exact absurd z (S.frc y hy)
  have cellK : ∀ {c : Addr} {v : Option Value}, s.heap.IsCell c v → h1.IsCell c v := fun {c v} ⟨o, ho, hd⟩ => ⟨o, kp _ _ ho, hd⟩
  refine ⟨⟨e0.mod, S.kind, rfl, rfl, Nat.le_refl _, fun y z c q1 q2 => ?_, fun y hy => ?_, fun y c hfn e => ?_, fun _ => hd, Around.frames_deeper e0.frames, .inr ⟨rfl, rfl⟩, fun b z => absurd z (noA b), e0.bs, e0.bsz, fun b _ _ => noA b, fun b z => absurd z (noA b), e0.funs, e0.frf⟩,
    rfl, e0.bare, Un.kept kp, ⟨_, x.toInCall.ns, fun i y v e1 e2 e3 => ?_⟩, fun y c e => ?_, e0.hok.fresh (Nat.le_refl _), fun y c e => ?_, fun q hq => absurd (show q ∈ ([] : List (Addr × Obj)) ++ [] from hq) (by simp), e0.hok.kept kp, ?_⟩
  · rcases spl y c q1 with a | a <;> rcases spl z c q2 with b | b
    · exact name_of_addr x.apart (PySem.mem_of_lookup a) (PySem.mem_of_lookup b)
    · exact absurd (Nat.lt_trans (olo y c a) (chi z c b)) (Nat.lt_irrefl _)
    · exact absurd (Nat.lt_trans (olo z c b) (chi y c a)) (Nat.lt_irrefl _)
    · exact C.inj y z c a b
  · have hy : F.scope.names.lookup y = some .cell ∨ F.scope.names.lookup y = some .free := hy
    show ∃ c, (ownC F.scope s.heap.objs.size ++ F.cl).lookup y = some c
    rcases hy with hy | hy
    · obtain ⟨c, hc⟩ := cell_has (n := s.heap.objs.size + 1) hy
      exact ⟨c, by rw [List.lookup_append, hc] <;> rfl⟩
    · have hm := S.free _ (PySem.mem_of_lookup hy) rfl
      obtain ⟨i, hi⟩ := List.mem_iff_getElem?.mp hm
      obtain ⟨c, hc, _⟩ := C.has i y hi
      exact ⟨c, by rw [List.lookup_append, onone y hm] <;> exact hc⟩
  · obtain ⟨d, hdl⟩ := cell_has (n := s.heap.objs.size + 1) (isCellB_iff hfn)
    have e : (ownC F.scope s.heap.objs.size ++ F.cl).lookup y = some c := e
    rw [List.lookup_append, hdl] at e
    cases e
    exact Nat.le_of_lt (olo y _ hdl)
  · have e1 : N[i]? = some y := e1
    unfold startF at e2
    by_cases h1 : i < ps.length
    · have hq : (ps ++ fr)[i]? = some y := by
        rw [← S.pre, List.getElem?_take_of_lt (by omega)]
        exact e1
      rw [List.getElem?_append_left h1] at hq
      rw [List.getElem?_append_left (by rw [List.length_map] <;> omega), List.getElem?_map] at e2
      have ha : vs[i]? = some v := by
        cases e : vs[i]? with
        | none => rw [e] at e2; cases e2
        | some a => rw [e] at e2; cases e2; rfl
      obtain ⟨u, hu, rv⟩ := r.get ha
      have ndP : ps.Nodup := by
        have q := S.nd.sublist (List.take_sublist (ps.length + fr.length) N)
        rw [S.pre] at q
        exact (List.nodup_append.mp q).1
      refine ⟨u, rv, ?_⟩
      rcases S.par y (List.mem_of_getElem? hq) with k | k
      · exact .inl ⟨k, bindL_get ndP hq hu k⟩
      · obtain ⟨c, e⟩ := cell_has (n := s.heap.objs.size + 1) k
        refine .inr ⟨.inl k, c, ?_, ?_⟩
        · show (ownC F.scope s.heap.objs.size ++ F.cl).lookup y = some c
          rw [List.lookup_append, e]
          rfl
        · have q := x.cell y c e
          rw [bindC_get ndP hq hu (by show F.scope.names.lookup y ≠ _; rw [k]; decide)] at q
          exact q
    · rw [List.getElem?_append_right (by rw [List.length_map] <;> omega), List.length_map] at e2
      by_cases h2 : i < ps.length + fr.length
      · have hq : (ps ++ fr)[i]? = some y := by
          rw [← S.pre, List.getElem?_take_of_lt (by omega)]
          exact e1
        rw [List.getElem?_append_right (by omega)] at hq
        rw [List.getElem?_append_left (by omega), hl] at e2
        obtain ⟨c, hc, hv⟩ := C.has (i - ps.length) y hq
        obtain ⟨u, ru, hu⟩ := hv v e2
        have hm := List.mem_of_getElem? hq
        refine ⟨u, ru, .inr ⟨.inr (S.frk y hm), c, ?_, cellK hu⟩⟩
        show (ownC F.scope s.heap.objs.size ++ F.cl).lookup y = some c
        rw [List.lookup_append, onone y hm]
        exact hc
      · rw [List.getElem?_append_right (by omega), List.getElem?_replicate] at e2
        split at e2 <;> cases e2
  · rcases spl y c e with a | a
    · exact ⟨_, x.cell y c a⟩
    · obtain ⟨v, z⟩ := (C.all y c a).2
      exact ⟨v, cellK z⟩
  · rcases spl y c e with a | a
    · exact e0.hok.fresh (Nat.le_of_lt (olo y c a))
    · exact (C.all y c a).1
  · unfold startF
    show _ = N.length
    rw [List.length_append, List.length_append, List.length_map, List.length_replicate]
    omega
end
section
variable {CX : CXT} {P : Program} {w : World} {K : PySem.W.Frag} {mg : Str → Option Value} {base : Heap} {N ps fr : List Str} {F : NF} {f : Addr} {k j : Nat} {sp : List (Option V) → Sp}
/-- such a def by its body -/
theorem nok_own (S : NSc N ps fr F.scope) (hb : ∀ (doc pm ctv : Value) (us : List Value), us.length = ps.length → bindArgs (F.fd doc pm ctv) ⟨us, []⟩ = pure (ps.zip us)) (len : ∀ ws vs H Q E, sp ws vs H Q E → vs.length = ps.length)
    (hbody : ∀ (A : Around) (outer : List Env) (s : Shared) (H : Hp) (vs : List V) (ws : List (Option V)) (Q : VK) (E : XK), Room k (A.deeper (envG F f s.heap.objs.size)) → H f = some (FnO f F) → ws.length = fr.length → sp ws vs H Q E →
      ∃ t, PSs (gcx CX P w K mg base N F f A outer s H E) F.body t ∧ t { nx := fun _ H1 => Q .non H1, rt := Q } (startF N vs ws) H) :
    NOk P w K mg base CX (k + 1) f F ps fr sp := by
  refine ⟨len, fun A outer s H us vs ws Q E hr e0 hf hc C r hsp => ?_⟩
  have hl := len _ _ _ _ _ hsp
  have lim : s.heap.NoLimit := e0.mod.nolimit.keeps fun b o e => (e0.bs b o e).1
  obtain ⟨od, sl, doc, pm, ctv, ho⟩ := fnO_at e0.hok hf
  refine codeAny_call_function hr.depth ho rfl S.co S.gen rfl (codeO_at e0.hok hc) ?_
  rw [hb doc pm ctv us (by rw [← r.length]; exact hl)]
  refine wpAny_pure (env_both S.kind (fun ⟨n, v⟩ hy => ?_) fun s1 x => ?_)
  · rcases S.par n (List.of_mem_zip hy).1 with q | q
    · exact .inl q
    · exact .inr ⟨q, PySem.W.cellsFrom_some _ _ _ (.inl q)⟩
  · refine ⟨lim.keeps x.toInCall.keep, ?_⟩
    show codeAny _ _ (.func F.body (envG F f s.heap.objs.size)) _ _
    refine codeAny_func ?_
    obtain ⟨t, ht, hq⟩ := hbody A outer s H vs ws Q E (hr.deeper _) hf C.len hsp
    have I : Inv (gcx CX P w K mg base N F f A outer s H E) [] (startF N vs ws) H s1 := inv_startG S hr.hd e0 hl r C x
    refine wpAny_mono (ht.run [] s1 (startF N vs ws) H _ I hq) (fun fl s2 hs => ?_) fun e s2 hs => hs
    cases fl with
    | ret u =>
      obtain ⟨v, σ1, H1, J, rv, q⟩ := hs
      exact ⟨v, H1, J.os, J.bare, J.base, J.hok, rv, q⟩
    | next =>
      obtain ⟨σ1, H1, J, q⟩ := hs
      exact ⟨V.non, H1, J.os, J.bare, J.base, J.hok, (rfl : L2.RelV V.non Value.none), q⟩
    | brk =>
      obtain ⟨_, _, _, q⟩ := hs
      exact False.elim q
    | cont =>
      obtain ⟨_, _, _, q⟩ := hs
      exact False.elim q
end
end Gr

namespace Gr
open PySem PySem.Spec PyProof.Rows L2 NdefX
/-! ### cells that are told for the time of a call -/
abbrev cO (co : Addr → Obj) (c : Addr) : HO := .frz (co c) (.own 0)
def addC (co : Addr → Obj) (cs : List Addr) (H : Hp) : Hp := fun b => if b ∈ cs then some (cO co b) else H b
def remC (cs : List Addr) (H : Hp) : Hp := fun b => if b ∈ cs then none else H b
def CsAt (co : Addr → Obj) (cs : List Addr) (H : Hp) : Prop := ∀ c ∈ cs, H c = some (cO co c)
theorem addC_in {co : Addr → Obj} {cs : List Addr} {H : Hp} {b : Addr} (h : b ∈ cs) : addC co cs H b = some (cO co b) := if_pos h
theorem addC_out {co : Addr → Obj} {cs : List Addr} {H : Hp} {b : Addr} (h : b ∉ cs) : addC co cs H b = H b := if_neg h
theorem remC_in {cs : List Addr} {H : Hp} {b : Addr} (h : b ∈ cs) : remC cs H b = none := if_pos h
theorem remC_out {cs : List Addr} {H : Hp} {b : Addr} (h : b ∉ cs) : remC cs H b = H b := if_neg h
/-- what is told of captured cells -/
structure CellsC (cl : List (Str × Addr)) (fr : List Str) (ws : List (Option V)) (cs : List Addr) (co : Addr → Obj) : Prop where
  len : ws.length = fr.length
  sub : ∀ y c, cl.lookup y = some c → c ∈ cs
  inj : ∀ x y c, cl.lookup x = some c → cl.lookup y = some c → x = y
  has : ∀ (i : Nat) (y : Str), fr[i]? = some y → ∃ c, cl.lookup y = some c ∧ ∀ v, ws[i]? = some (some v) → ∃ u, L2.RelV v u ∧ (co c).data = .cell (some u)
  cel : ∀ c ∈ cs, ∃ v, (co c).data = .cell v
section
variable {P : Program} {w : World} {K : PySem.W.Frag} {mg : Str → Option Value} {base : Heap} {H H2 : Hp} {h : Heap} {cs : List Addr} {co : Addr → Obj} {k : Nat} {f : Addr} {F : NF} {ps fr : List Str} {ws : List (Option V)} {sp : List (Option V) → Sp} {cl : List (Str × Addr)}
theorem csat_out {b : Addr} {o : HO} (c : CsAt co cs H) (e : H b = some o) (n : ∀ x y, o ≠ .frz x y) : b ∉ cs := fun hb => by
  have q := c b hb
  rw [e] at q
  exact n _ _ (Option.some.inj q)
theorem strip (x : HOk P w H h) (c : CsAt co cs H) : HOk P w (remC cs H) h := fun a o e => by
  have ha : a ∉ cs := fun z => by
    rw [remC_in z] at e
    cases e
  rw [remC_out ha] at e
  refine (x a o e).stay (fun _ _ _ q => q) (fun b q => ?_) fun b xs q => ?_
  · rw [remC_out (csat_out c q fun _ _ z => by cases z)]
    exact q
  · rw [remC_out (csat_out c q fun _ _ z => by cases z)]
    exact q
theorem merge (x : HOk P w H h) (c : ∀ a ∈ cs, H a = none ∧ h.get? a = some (co a)) : HOk P w (addC co cs H) h := fun a o e => by
  by_cases ha : a ∈ cs
  · rw [addC_in ha] at e
    cases e
    have q := (c a ha).2
    exact ⟨q, _, q⟩
  · rw [addC_out ha] at e
    refine (x a o e).stay (fun _ _ _ q => q) (fun b q => ?_) fun b xs q => ?_
    · rw [addC_out fun z => by rw [(c b z).1] at q; cases q]
      exact q
    · rw [addC_out fun z => by rw [(c b z).1] at q; cases q]
      exact q
theorem CellsC.cellsAt (cc : CellsC cl fr ws cs co) (x : HOk P w H h) (c : CsAt co cs H) : CellsAt cl fr ws h (remC cs H) := by
  have get : ∀ a ∈ cs, h.get? a = some (co a) := fun a ha => by
    obtain ⟨q, _⟩ := x a _ (c a ha)
    exact q
  refine ⟨cc.len, fun y a e => ⟨remC_in (cc.sub y a e), ?_⟩, cc.inj, fun i y e => ?_⟩
  · obtain ⟨v, hv⟩ := cc.cel a (cc.sub y a e)
    exact ⟨v, _, get a (cc.sub y a e), hv⟩
  · obtain ⟨a, e1, e2⟩ := cc.has i y e
    refine ⟨a, e1, fun v ev => ?_⟩
    obtain ⟨u, r, hd⟩ := e2 v ev
    exact ⟨u, r, _, get a (cc.sub y a e1), hd⟩
/-- a function that may be called where φ holds -/
def Callable (P : Program) (w : World) (K : PySem.W.Frag) (mg : Str → Option Value) (base : Heap) (k : Nat) (f : Addr) (φ : Hp → Prop) (sp : Sp) : Prop :=
  ∀ (A : Around) (outer : List Env) (s : Shared) (H : Hp) (us : List Value) (vs : List V) (Q : VK), Room k A → Env0 P w K mg base A outer s H → φ H → Vals vs us → sp vs H Q E0 → codeAny (model P w) A (.call (.ref f) ⟨us, []⟩) (CR CX0 outer P w H s Q E0) s
theorem Callable.mono {φ : Hp → Prop} {sp : Sp} {j : Nat} (c : Callable P w K mg base j f φ sp) (h : j ≤ k) : Callable P w K mg base k f φ sp := fun A outer s H us vs Q hr => c A outer s H us vs Q (hr.mono h)
theorem Callable.imp {φ ψ : Hp → Prop} {sp sp2 : Sp} (c : Callable P w K mg base k f φ sp) (hφ : ∀ H, ψ H → φ H) (hs : ∀ vs H Q, ψ H → sp2 vs H Q E0 → sp vs H Q E0) : Callable P w K mg base k f ψ sp2 := fun A outer s H us vs Q hr e0 p r q => c A outer s H us vs Q hr e0 (hφ H p) r (hs vs H Q p q)
def FnAtC (f : Addr) (F : NF) (cs : List Addr) (co : Addr → Obj) (H : Hp) : Prop := H f = some (FnO f F) ∧ H F.c = some (LamX.CodeO F.c F.qual) ∧ CsAt co cs H
theorem callable_of (o : NOk P w K mg base CX0 k f F ps fr sp) (cc : CellsC F.cl fr ws cs co) : Callable P w K mg base k f (FnAtC f F cs co) (fun vs H Q E => sp ws vs (remC cs H) (fun v H2 => (∀ a ∈ cs, H2 a = none) → Q v (addC co cs H2)) E) := by
  intro A outer s H us vs Q hr e0 hφ r q
  obtain ⟨h1, h2, h3⟩ := hφ
  have out : ∀ {b : Addr} {u : HO}, H b = some u → (∀ x y, u ≠ .frz x y) → b ∉ cs := fun e n => csat_out h3 e n
  have e1 : Env0 P w K mg base A outer s (remC cs H) := by
    refine ⟨e0.frames, e0.mod, fun b u e => ⟨(e0.bs b u e).1, ?_⟩, e0.bsz, e0.funs, fun b hb => ?_, strip e0.hok h3, e0.bare⟩
    · by_cases hb : b ∈ cs
      · exact remC_in hb
      · rw [remC_out hb]
        exact (e0.bs b u e).2
    · by_cases hc : b ∈ cs
      · exact remC_in hc
      · rw [remC_out hc]
        exact e0.frf b hb
  refine codeAny_mono (o.run A outer s (remC cs H) us vs ws _ E0 hr e1 ?_ ?_ (cc.cellsAt e0.hok h3) r q) fun r s1 hq => ?_
  · rw [remC_out (out h1 fun _ _ z => by unfold FnO at z; cases z)]
    exact h1
  · rw [remC_out (out h2 fun _ _ z => by cases z)]
    exact h2
  · cases r with
    | error e => exact hq
    | ok fl =>
      cases fl with
      | next => exact hq
      | brk => exact hq
      | cont => exact hq
      | ret u =>
        obtain ⟨v, H2, os, bare, un, hok, rv, qq⟩ := hq
        have at1 : ∀ a ∈ cs, H2 a = none ∧ s1.heap.get? a = some (co a) := fun a ha => by
          obtain ⟨g, _⟩ := e0.hok a _ (h3 a ha)
          have nf : a ∉ frs outer := fun z => by
            have q := e0.frf a z
            rw [h3 a ha] at q
            cases q
          exact ⟨un.free a _ g (remC_in ha) (by simp), un.keep a _ g (remC_in ha) nf (by simp)⟩
        have rn : ∀ {b : Addr}, H b = none → remC cs H b = none := fun {b} e => by
          by_cases hb : b ∈ cs
          · exact remC_in hb
          · rw [remC_out hb]
            exact e
        have on : ∀ {b : Addr}, H b = none → b ∉ cs := fun {b} e z => by
          rw [h3 b z] at e
          cases e
        refine ⟨v, addC co cs H2, os, bare, ⟨fun b u e n => un.keep b u e (rn n), fun b u e n => un.slot b u e (rn n), fun b u e n x => ?_, un.there, fun b xs e => ?_, fun b u x e => ?_, fun b qs e => ?_⟩, merge hok at1, rv, qq fun a ha => (at1 a ha).1⟩
        · rw [addC_out (on n)]
          exact un.free b u e (rn n) x
        · have hb := out e fun _ _ z => by cases z
          rw [addC_out hb]
          exact un.tups b xs (by rw [remC_out hb]; exact e)
        · by_cases hb : b ∈ cs
          · rw [addC_in hb, ← e, h3 b hb]
          · rw [addC_out hb]
            exact un.frzs b u x (by rw [remC_out hb]; exact e)
        · have hb := out e fun _ _ z => by cases z
          rw [addC_out hb]
          exact un.tbls b qs (by rw [remC_out hb]; exact e)
end
/-! ### calls -/
/-- x(..), x a local that holds such a function -/
def tCallL (P : Program) (w : World) (K : PySem.W.Frag) (mg : Str → Option Value) (base : Heap) (k i : Nat) (t : TA) : TE := fun σ H Q => ∃ f φ sp, σ[i]? = some (some (.ref f)) ∧ Callable P w K mg base k f φ sp ∧ (∃ F, H f = some (FnO f F)) ∧ t σ H fun vs H1 => (∃ F, H1 f = some (FnO f F)) ∧ φ H1 ∧ sp vs H1 Q E0
section
variable {X : Cx} {i j k : Nat} {x m : Str} {t : TA} {ta : TE} {o e : Expr} {es : List Expr} {p pos apos : Pos} {C f : Addr} {fd : FuncData} {ps : List Str} {sp : Sp}
theorem pe_callL (hr : Room j X.A) (hN : X.N[i]? = some x) (hv : Vis X.env.scope x) (ha : PA X (e :: es) t) (hk : k ≤ j := by decide)
    (hd : (x == ("__debug__" : Str)) = false := by decide) (hcd : (x == ("__classdict__" : Str)) = false := by decide)
    (he : starEach (e :: es) X.env = (false, eval e X.env) :: starEach es X.env := by rfl) (hpl : (backTo pos (starEach es X.env)).any (·.1) = false := by rfl) :
    PE X (.Call (.Name x p) (e :: es) [] pos) (tCallL X.prog X.w X.K X.mg X.base k i t) := by
  refine ⟨fun pins s σ H Q I h => ?_⟩
  obtain ⟨f, φ, sp, hs, hc, ⟨F, hf⟩, ht⟩ := h
  refine wpAny_Call_Name_kw (thn ((pe_var (pos := p) hN hv hd hcd).run pins s σ H (fun v H1 => v = .ref f ∧ H1 = H) I ⟨.ref f, hs, rfl, rfl⟩) fun u s1 ⟨v, H1, I1, r1, q1⟩ => ?_)
  obtain ⟨ev, eH⟩ := q1
  subst ev
  rw [eH] at I1
  obtain rfl : u = Value.ref f := r1
  refine PySem.W.callWith_F (first := []) (fnAt_of I1 hf) (thn (ha.run pos pins s1 σ H _ I1 ht) fun us s2 ⟨vs, H2, I2, r, ⟨F2, h1⟩, h2, q⟩ => ⟨fnAt_of I2 h1, ?_⟩) he hpl
  show wpAny _ _ (call (.ref f) us) _ _ _
  refine wpAny_call (codeAny_mono (hc X.A X.stack s2 H2 us vs Q (hr.mono hk) I2.env0 h2 r q) fun r s3 hq => ?_)
  cases r with
  | error er => exact pass0 pins σ H2 s2 er s3 I2 hq
  | ok fl =>
    cases fl with
    | ret u => exact I2.after hq
    | next => exact False.elim hq
    | brk => exact False.elim hq
    | cont => exact False.elim hq
/-- o.m(..), the own cells told to the callee; L: what the functions handed over capture -/
def tMethC (C : Addr) (m : Str) (sp : Sp) (L : List (List (Str × Addr) × List Str × List Nat)) (ta : TE) (t : TA) : TE := fun σ H Q => ta σ H fun x H1 => ∃ a dx fs, x = .ref a ∧ H1 a = some (.ins C dx fs) ∧ fs.lookup m = none ∧
  t σ H1 fun vs H2 => ∀ (cs : List Addr) (co : Addr → Obj), (∀ q ∈ L, CellsC q.1 q.2.1 (q.2.2.map (slotAt σ)) cs co) → (∀ c ∈ cs, H2 c = none) → sp (x :: vs) (addC co cs H2) (fun v H3 => CsAt co cs H3 → Q v (remC cs H3)) E0
theorem pe_methC {pl : Sem Bool} {L : List (List (Str × Addr) × List Str × List Nat)} (hL : ∀ q ∈ L, X.Ok → Caps X q.1 q.2.1 q.2.2) (hfn : ∀ x, X.fn x = true) (he : PE X o ta) (c : Cls X.K C) (hm : Meth X.K C m f) (F : FnOk X.prog X.w X.K X.mg X.base CX0 k f fd ps sp) (hr : Room k X.A) (hb : Binds X.K fd ps []) (ha : PA X (e :: es) t)
    (hst : starEach (e :: es) X.env = (false, eval e X.env) :: starEach es X.env := by rfl) (hpl : (backTo pos (starEach es X.env)).any (·.1) = false := by rfl)
    (ht : eval (.Call (.Attribute o m apos) (e :: es) [] pos) X.env = (do
      let u0 ← eval o X.env
      standAt apos.atName
      let (g, one) ← holding [u0] (getMethod u0 m pl)
      callWith pos g one (backTo pos (starEach (e :: es) X.env)) (backToKw pos (keywordEach [] X.env))) := by rfl) :
    PE X (.Call (.Attribute o m apos) (e :: es) [] pos) (tMethC C m sp L ta t) := by
  refine ⟨fun pins s σ H Q I h => ?_⟩
  refine PySem.W.methodCall_KW (pl := pl) (thn (he.run pins s σ H _ I h) fun u s1 ⟨x, H1, I1, rx, a, dx, fs, ex, ea, l, q⟩ => ?_) ht
  subst ex
  obtain rfl : u = Value.ref a := rx
  refine getmeth_ok I1 ea c hm l ?_
  refine PySem.W.callWith_K (first := [.ref a]) (h₀ := X.base) I.ok.mod.kin hm.kp (thn (ha.run pos pins s1 σ H1 _ I1 q) fun us s2 ⟨vs, H2, I2, r, q2⟩ => ⟨I2.kIn, ?_⟩) hst hpl
  have look : ∀ b ∈ X.env.cells.filterMap (fun p => X.env.cells.lookup p.1), ∃ y, X.env.cells.lookup y = some b := fun b hb => by
    obtain ⟨p, _, e⟩ := List.mem_filterMap.mp hb
    exact ⟨p.1, e⟩
  have mem : ∀ y b, X.env.cells.lookup y = some b → b ∈ X.env.cells.filterMap (fun p => X.env.cells.lookup p.1) := fun y b e => List.mem_filterMap.mpr ⟨(y, b), PySem.mem_of_lookup e, e⟩
  generalize hcs : X.env.cells.filterMap (fun p => X.env.cells.lookup p.1) = cs at look mem
  obtain ⟨co, hco⟩ : ∃ co : Addr → Obj, ∀ b u, s2.heap.get? b = some u → co b = u := ⟨fun b => (s2.heap.get? b).getD ⟨.none, none, .fields #[], #[]⟩, fun b u e => by simp [e]⟩
  have there : ∀ b ∈ cs, ∃ v, s2.heap.get? b = some (co b) ∧ (co b).data = .cell v := fun b hb => by
    obtain ⟨y, e⟩ := look b hb
    obtain ⟨v, u, hu, hd⟩ := I2.cell y b e
    rw [hco b u hu]
    exact ⟨v, hu, hd⟩
  have none2 : ∀ b ∈ cs, H2 b = none := fun b hb => by
    obtain ⟨y, e⟩ := look b hb
    exact I2.freeC y b e
  have big : ∀ b ∈ cs, X.s_0.heap.objs.size ≤ b := fun b hb => by
    obtain ⟨y, e⟩ := look b hb
    exact I2.ok.cab y b (hfn y) e
  have nfr : ∀ b ∈ cs, b ∉ frs X.stack := fun b hb z => by
    rcases List.mem_cons.mp (I2.stkSub b z) with e | hz
    · obtain ⟨y, ey⟩ := look b hb
      exact I2.cne y b ey e
    · obtain ⟨_, u, hu, _⟩ := I2.ok.funs.mem hz
      exact absurd (Nat.lt_of_lt_of_le (Heap.lt_size hu) (big b hb)) (Nat.lt_irrefl _)
  have cc : ∀ q ∈ L, CellsC q.1 q.2.1 (q.2.2.map (slotAt σ)) cs co := fun q hq => by
    have cp := hL q hq I2.ok
    have ca := cells_of I2 cp
    refine ⟨ca.len, fun y b e => mem y b (cp.sub y b e), ca.inj, fun i y e => ?_, fun b hb => ?_⟩
    · obtain ⟨b, e1, e2⟩ := ca.has i y e
      refine ⟨b, e1, fun v ev => ?_⟩
      obtain ⟨u, ru, ob, hob, hd⟩ := e2 v ev
      exact ⟨u, ru, by rw [hco b ob hob]; exact hd⟩
    · obtain ⟨v, _, hd⟩ := there b hb
      exact ⟨v, hd⟩
  have e0 := I2.env0
  have e1 : Env0 X.prog X.w X.K X.mg X.base X.A X.stack s2 (addC co cs H2) := by
    refine ⟨e0.frames, e0.mod, fun b u e => ⟨(e0.bs b u e).1, ?_⟩, e0.bsz, e0.funs, fun b hb => ?_, merge e0.hok fun b hb => ⟨none2 b hb, (there b hb).choose_spec.1⟩, e0.bare⟩
    · rw [addC_out fun z => absurd (Nat.lt_of_lt_of_le (Heap.lt_size e) (Nat.le_trans I2.ok.bsz (big b z))) (Nat.lt_irrefl _)]
      exact (e0.bs b u e).2
    · rw [addC_out fun z => nfr b z hb]
      exact e0.frf b hb
  have q3 := q2 cs co cc none2
  have r2 : Vals (V.ref a :: vs) (Value.ref a :: us) := .cons rfl r
  have hl : ((Value.ref a :: us) ++ []).length = ps.length := by
    rw [List.append_nil, ← r2.length]
    exact F.len _ _ _ _ q3
  have hbb := hb s2 (.ref a :: us) I2.kIn hl
  rw [List.append_nil] at hbb
  refine wpAny_call (codeAny_mono (F.run X.A X.stack s2 _ ⟨.ref a :: us, []⟩ (.ref a :: us) (.ref a :: vs) _ E0 hr e1 hbb r2 q3) fun r s3 hq => ?_)
  cases r with
  | error er => exact hq.elim
  | ok fl =>
    cases fl with
    | next => exact False.elim hq
    | brk => exact False.elim hq
    | cont => exact False.elim hq
    | ret u =>
      obtain ⟨v, H3, os, bare, un, hok, rv, qq⟩ := hq
      have c3 : CsAt co cs H3 := fun b hb => un.frzs b _ _ (addC_in hb)
      have on : ∀ {b : Addr} {z : HO}, H2 b = some z → b ∉ cs := fun {b z} e hb => by
        rw [none2 b hb] at e
        cases e
      have fz : ∀ {b : Addr} {z : HO}, H3 b = some z → (∀ x y, z ≠ .frz x y) → b ∉ cs := fun e n => csat_out c3 e n
      refine I2.after ⟨v, remC cs H3, os, bare, ⟨fun b u e n nf x => ?_, fun b u e n nf x => ?_, fun b u e n x => ?_, un.there, fun b xs e => ?_, fun b u x e => ?_, fun b qs e => ?_⟩, strip hok c3, rv, qq c3⟩
      · by_cases hb : b ∈ cs
        · obtain ⟨g, _⟩ := hok b _ (c3 b hb)
          rw [g, hco b u e]
        · exact un.keep b u e (by rw [addC_out hb]; exact n) nf x
      · exact un.slot b u e (by rw [addC_out fun z => nfr b z nf]; exact n) nf x
      · by_cases hb : b ∈ cs
        · exact remC_in hb
        · rw [remC_out hb]
          exact un.free b u e (by rw [addC_out hb]; exact n) x
      · rw [remC_out (on e)]
        exact un.tups b xs (by rw [addC_out (on e)]; exact e)
      · rw [remC_out (on e)]
        exact un.frzs b u x (by rw [addC_out (on e)]; exact e)
      · rw [remC_out (on e)]
        exact un.tbls b qs (by rw [addC_out (on e)]; exact e)
end
end Gr

namespace Gr
open PySem PySem.Spec PyProof.Rows L2
/-! ### a trace with its owners told -/
structure TrX (K : PySem.W.Frag) (Tb : List NdefX.NTab) (H0 H : Hp) (t : Addr) (T : Tr) (o : Own) (ro : Addr → Option Ro) : Prop where
  at_ : TrAt K H t T o ro
  nw : ∀ b, ro b ≠ none → H0 b = none
  gx : Gx H0 H
  tb : NdefX.TabsN Tb H
def setR (ro : Addr → Option Ro) (a : Addr) (r : Ro) : Addr → Option Ro := fun b => if b = a then some r else ro b
theorem setR_same {ro : Addr → Option Ro} {a : Addr} {r : Ro} : setR ro a r a = some r := if_pos rfl
theorem setR_old {ro : Addr → Option Ro} {a b : Addr} {r q : Ro} (n : ro a = none) (h : ro b = some q) : setR ro a r b = some q := by
  unfold setR
  rw [if_neg fun e => by rw [e, n] at h; cases h]
  exact h
/-- things that none may write: functions, cells told -/
def KpX (H H' : Hp) : Prop := ∀ b o, H b = some o → ((∃ φ, o = .ext φ) ∨ ∃ a u, o = .frz a u) → H' b = some o
theorem KpX.refl (H : Hp) : KpX H H := fun _ _ h _ => h
theorem KpX.trans {H H1 H2 : Hp} (a : KpX H H1) (b : KpX H1 H2) : KpX H H2 := fun c o h n => b c o (a c o h n) n
theorem KpX.of {H H' : Hp} (e : Same H H') : KpX H H' := fun b o h _ => e b o h
theorem KpX.upd {H : Hp} {a : Addr} {o u : HO} (h : H a = some u) (n1 : ∀ φ, u ≠ .ext φ) (n2 : ∀ x y, u ≠ .frz x y) : KpX H (upd H a o) := fun b q e n => by
  rw [upd_ne fun z => by
    rw [z, h] at e
    cases e
    rcases n with ⟨φ, z⟩ | ⟨x, y, z⟩
    · exact n1 _ z
    · exact n2 _ _ z]
  exact e
section
variable {K : PySem.W.Frag} {Tb : List NdefX.NTab} {H0 H H' : Hp} {t : Addr} {T T' : Tr} {o o' : Own} {ro ro' : Addr → Option Ro}
theorem TrIn.x (h : TrIn K Tb H0 H t T) : ∃ o ro, TrX K Tb H0 H t T o ro := by
  obtain ⟨o, ro, h1, h2⟩ := h.ex
  exact ⟨o, ro, h1, h2, h.gx, h.tb⟩
theorem TrX.in_ (h : TrX K Tb H0 H t T o ro) : TrIn K Tb H0 H t T := ⟨⟨o, ro, h.at_, h.nw⟩, h.gx, h.tb⟩
theorem TrX.grow (h : TrX K Tb H0 H t T o ro) (e : Same H H') : TrX K Tb H0 H' t T o ro := ⟨h.at_.grow (Gx.of e), h.nw, h.gx.trans (Gx.of e), h.tb.ext e⟩
theorem TrX.wr (h : TrX K Tb H0 H t T o ro) {a : Addr} {u v : HO} {r : Ro} (ha : ro a = some r) (hu : H a = some u) (n1 : ∀ ps, u ≠ .tbl ps) (n2 : ∀ φ, u ≠ .ext φ) (q : TrAt K (upd H a v) t T' o' ro') (nw : ∀ b, ro' b ≠ none → H0 b = none) : TrX K Tb H0 (upd H a v) t T' o' ro' :=
  ⟨q, nw, h.gx.upd (h.nw a (by rw [ha]; intro z; cases z)) _, tabs_upd h.tb (fun ps z => by rw [hu] at z; exact n1 ps (Option.some.inj z)) fun φ z => by rw [hu] at z; exact n2 φ (Option.some.inj z)⟩
theorem TrX.ob (h : TrX K Tb H0 H t T o ro) : ∃ dx, H t = some (.ins (He.ga K "Trace") dx (fsT o.dW o.dL o.dF o.dS)) := h.at_.ob
theorem TrX.put_ln (h : TrX K Tb H0 H t T o ro) (k : Kd) {vs : List V} {xs : List (Option (Tl Nat))} (hv : Paired (TlAt srcR H) vs xs) : TrX K Tb H0 (upd H (o.ln k) (.lst vs)) t { T with lanes := setK T.lanes k xs } o ro := by
  obtain ⟨us, hu, _⟩ := h.at_.ln k
  exact h.wr (h.at_.r_ln k) hu (fun _ z => by cases z) (fun _ z => by cases z) (h.at_.put_ln k hv) h.nw
theorem TrX.put_fl (h : TrX K Tb H0 H t T o ro) (k : Kd) {vs : List V} {xs : List (Option (Tl Nat))} (hv : Paired (TlAt srcF H) vs xs) : TrX K Tb H0 (upd H (o.fl k) (.lst vs)) t { T with files := setK T.files k xs } o ro := by
  obtain ⟨us, hu, _⟩ := h.at_.fl k
  exact h.wr (h.at_.r_fl k) hu (fun _ z => by cases z) (fun _ z => by cases z) (h.at_.put_fl k hv) h.nw
theorem TrX.put_rw (h : TrX K Tb H0 H t T o ro) (k : Kd) {i : Nat} {a : Addr} (ha : (o.rw k)[i]? = some a) {vs : List V} {xs : List (Option (Tl (Nat × Nat)))} (hv : Paired (TlAt srcC H) vs xs) :
    TrX K Tb H0 (upd H a (.lst vs)) t { T with spots := setK T.spots k ((T.spots k).set i xs) } o ro := by
  obtain ⟨ys, _, us, hu, _⟩ := paired_get (h.at_.rw k) ha
  exact h.wr (h.at_.r_rw k a (List.mem_of_getElem? ha)) hu (fun _ z => by cases z) (fun _ z => by cases z) (h.at_.put_rw k ha hv) h.nw
theorem ref_set (f : Kd → Addr) (k : Kd) (a : Addr) : (setK (fun j => V.ref (f j)) k (V.ref a)) = fun j => V.ref (setK f k a j) := by
  funext j
  unfold setK
  split <;> rfl
/-- another list is the lane of k -/
theorem TrAt.new_ln (h : TrAt K H t T o ro) (k : Kd) {l : Addr} {xs : List (Option (Tl Nat))} (hl : LineAt srcR H l xs) (n : ro l = none) :
    TrAt K (upd H o.dL (.dK (kd (setK (fun j => V.ref (o.ln j)) k (V.ref l))))) t { T with lanes := setK T.lanes k xs } { o with ln := setK o.ln k l } (setR ro l (.ln k)) := by
  have ts : TupS H (upd H o.dL (.dK (kd (setK (fun j => V.ref (o.ln j)) k (V.ref l))))) := TupS.upd fun xs z => by rw [h.l] at z; cases z
  have ld : l ≠ o.dL := fun z => by rw [z, h.r_L] at n; cases n
  obtain ⟨dx, hob⟩ := h.ob
  obtain ⟨f, hf, hw⟩ := h.w
  refine ⟨⟨dx, ?_⟩, ⟨f, ?_, fun j => (hw j).stay ts⟩, ?_, ?_, ?_, fun j => ?_, fun j => (h.fl j).stay ts ?_, fun j => ?_, fun j => paired_line (h.rw j) ts fun a ha => ?_, h.nd, setR_old n h.r_t, setR_old n h.r_W, setR_old n h.r_L, setR_old n h.r_F, setR_old n h.r_S, fun j => ?_, fun j => setR_old n (h.r_fl j), fun j => setR_old n (h.r_sp j), fun j a ha => setR_old n (h.r_rw j a ha), fun b hb => upd_al ?_⟩
  · rw [h.old h.r_L h.r_t (by simp)]; exact hob
  · rw [h.old h.r_L h.r_W (by simp)]; exact hf
  · rw [upd_same, ref_set]
  · rw [h.old h.r_L h.r_F (by simp)]; exact h.f
  · rw [h.old h.r_L h.r_S (by simp)]; exact h.s
  · show LineAt srcR _ (setK o.ln k l j) (setK T.lanes k xs j)
    by_cases e : j = k
    · subst e
      rw [setK_same, setK_same]
      exact hl.stay ts (upd_ne ld)
    · rw [setK_ne _ _ e, setK_ne _ _ e]
      exact (h.ln j).stay ts (h.old h.r_L (h.r_ln j) (by simp))
  · exact h.old h.r_L (h.r_fl j) (by simp)
  · rw [h.old h.r_L (h.r_sp j) (by simp)]; exact h.sp j
  · exact h.old h.r_L (h.r_rw j a ha) (by simp)
  · show setR ro l (.ln k) (setK o.ln k l j) = _
    by_cases e : j = k
    · subst e
      rw [setK_same]
      exact setR_same
    · rw [setK_ne _ _ e]
      exact setR_old n (h.r_ln j)
  · unfold setR at hb
    split at hb
    · rename_i e
      obtain ⟨vs, q, _⟩ := hl
      rw [e, q]
      intro z
      cases z
    · exact h.al b hb
/-- another list is the file of k -/
theorem TrAt.new_fl (h : TrAt K H t T o ro) (k : Kd) {l : Addr} {xs : List (Option (Tl Nat))} (hl : LineAt srcF H l xs) (n : ro l = none) :
    TrAt K (upd H o.dF (.dK (kd (setK (fun j => V.ref (o.fl j)) k (V.ref l))))) t { T with files := setK T.files k xs } { o with fl := setK o.fl k l } (setR ro l (.fl k)) := by
  have ts : TupS H (upd H o.dF (.dK (kd (setK (fun j => V.ref (o.fl j)) k (V.ref l))))) := TupS.upd fun xs z => by rw [h.f] at z; cases z
  have ld : l ≠ o.dF := fun z => by rw [z, h.r_F] at n; cases n
  obtain ⟨dx, hob⟩ := h.ob
  obtain ⟨f, hf, hw⟩ := h.w
  refine ⟨⟨dx, ?_⟩, ⟨f, ?_, fun j => (hw j).stay ts⟩, ?_, ?_, ?_, fun j => (h.ln j).stay ts ?_, fun j => ?_, fun j => ?_, fun j => paired_line (h.rw j) ts fun a ha => ?_, h.nd, setR_old n h.r_t, setR_old n h.r_W, setR_old n h.r_L, setR_old n h.r_F, setR_old n h.r_S, fun j => setR_old n (h.r_ln j), fun j => ?_, fun j => setR_old n (h.r_sp j), fun j a ha => setR_old n (h.r_rw j a ha), fun b hb => upd_al ?_⟩
  · rw [h.old h.r_F h.r_t (by simp)]; exact hob
  · rw [h.old h.r_F h.r_W (by simp)]; exact hf
  · rw [h.old h.r_F h.r_L (by simp)]; exact h.l
  · rw [upd_same, ref_set]
  · rw [h.old h.r_F h.r_S (by simp)]; exact h.s
  · exact h.old h.r_F (h.r_ln j) (by simp)
  · show LineAt srcF _ (setK o.fl k l j) (setK T.files k xs j)
    by_cases e : j = k
    · subst e
      rw [setK_same, setK_same]
      exact hl.stay ts (upd_ne ld)
    · rw [setK_ne _ _ e, setK_ne _ _ e]
      exact (h.fl j).stay ts (h.old h.r_F (h.r_fl j) (by simp))
  · rw [h.old h.r_F (h.r_sp j) (by simp)]; exact h.sp j
  · exact h.old h.r_F (h.r_rw j a ha) (by simp)
  · show setR ro l (.fl k) (setK o.fl k l j) = _
    by_cases e : j = k
    · subst e
      rw [setK_same]
      exact setR_same
    · rw [setK_ne _ _ e]
      exact setR_old n (h.r_fl j)
  · unfold setR at hb
    split at hb
    · rename_i e
      obtain ⟨vs, q, _⟩ := hl
      rw [e, q]
      intro z
      cases z
    · exact h.al b hb
def setRs (ro : Addr → Option Ro) (s : Addr) (as : List Addr) (k : Kd) : Addr → Option Ro := fun b => if b = s then some (.sp k) else if b ∈ as then some (.rw k) else ro b
/-- another list of rows is the spots of k -/
theorem TrAt.new_sp (h : TrAt K H t T o ro) (k : Kd) {s : Addr} {as : List Addr} {xss : List (List (Option (Tl (Nat × Nat))))} (hs : H s = some (.lst (as.map V.ref))) (hl : Paired (LineAt srcC H) as xss) (nd : as.Nodup) (n : ro s = none) (na : ∀ a ∈ as, ro a = none ∨ ro a = some (.rw k)) (sa : s ∉ as) :
    TrAt K (upd H o.dS (.dK (kd (setK (fun j => V.ref (o.sp j)) k (V.ref s))))) t { T with spots := setK T.spots k xss } { o with sp := setK o.sp k s, rw := setK o.rw k as } (setRs ro s as k) := by
  have ts : TupS H (upd H o.dS (.dK (kd (setK (fun j => V.ref (o.sp j)) k (V.ref s))))) := TupS.upd fun xs z => by rw [h.s] at z; cases z
  have ld : s ≠ o.dS := fun z => by rw [z, h.r_S] at n; cases n
  have la : ∀ a ∈ as, a ≠ o.dS := fun a ha z => by
    rcases na a ha with q | q <;> rw [z, h.r_S] at q <;> cases q
  have old : ∀ {b : Addr} {q : Ro}, ro b = some q → q ≠ .rw k → setRs ro s as k b = some q := fun {b q} hb hq => by
    unfold setRs
    have q1 : b ≠ s := fun z => by rw [z, n] at hb; cases hb
    have q2 : b ∉ as := fun z => by
      rcases na b z with y | y <;> rw [hb] at y
      · cases y
      · exact hq (Option.some.inj y)
    rw [if_neg q1, if_neg q2]
    exact hb
  have oldr : ∀ {b : Addr} {j : Kd}, ro b = some (.rw j) → setRs ro s as k b = some (.rw j) := fun {b j} hb => by
    unfold setRs
    have q1 : b ≠ s := fun z => by rw [z, n] at hb; cases hb
    rw [if_neg q1]
    split
    · rename_i z
      rcases na b z with y | y <;> rw [hb] at y
      · cases y
      · exact y.symm
    · exact hb
  obtain ⟨dx, hob⟩ := h.ob
  obtain ⟨f, hf, hw⟩ := h.w
  refine ⟨⟨dx, ?_⟩, ⟨f, ?_, fun j => (hw j).stay ts⟩, ?_, ?_, ?_, fun j => (h.ln j).stay ts ?_, fun j => (h.fl j).stay ts ?_, fun j => ?_, fun j => ?_, fun j => ?_, old h.r_t (by simp), old h.r_W (by simp), old h.r_L (by simp), old h.r_F (by simp), old h.r_S (by simp), fun j => old (h.r_ln j) (by simp), fun j => old (h.r_fl j) (by simp), fun j => ?_, fun j a ha => ?_, fun b hb => upd_al ?_⟩
  · rw [h.old h.r_S h.r_t (by simp)]; exact hob
  · rw [h.old h.r_S h.r_W (by simp)]; exact hf
  · rw [h.old h.r_S h.r_L (by simp)]; exact h.l
  · rw [h.old h.r_S h.r_F (by simp)]; exact h.f
  · rw [upd_same, ref_set]
  · exact h.old h.r_S (h.r_ln j) (by simp)
  · exact h.old h.r_S (h.r_fl j) (by simp)
  · show upd H o.dS _ (setK o.sp k s j) = some (.lst ((setK o.rw k as j).map V.ref))
    by_cases e : j = k
    · subst e
      rw [setK_same, setK_same, upd_ne ld]
      exact hs
    · rw [setK_ne _ _ e, setK_ne _ _ e, h.old h.r_S (h.r_sp j) (by simp)]
      exact h.sp j
  · show Paired _ (setK o.rw k as j) (setK T.spots k xss j)
    by_cases e : j = k
    · subst e
      rw [setK_same, setK_same]
      exact paired_line hl ts fun a ha => upd_ne (la a ha)
    · rw [setK_ne _ _ e, setK_ne _ _ e]
      exact paired_line (h.rw j) ts fun a ha => h.old h.r_S (h.r_rw j a ha) (by simp)
  · show (setK o.rw k as j).Nodup
    by_cases e : j = k
    · subst e
      rw [setK_same]
      exact nd
    · rw [setK_ne _ _ e]
      exact h.nd j
  · show setRs ro s as k (setK o.sp k s j) = _
    by_cases e : j = k
    · subst e
      rw [setK_same]
      exact if_pos rfl
    · rw [setK_ne _ _ e]
      exact old (h.r_sp j) (by simp)
  · have ha : a ∈ setK o.rw k as j := ha
    by_cases e : j = k
    · subst e
      rw [setK_same] at ha
      unfold setRs
      rw [if_neg fun z => sa (by rw [← z]; exact ha), if_pos ha]
    · rw [setK_ne _ _ e] at ha
      exact oldr (h.r_rw j a ha)
  · unfold setRs at hb
    split at hb
    · rename_i e
      rw [e, hs]
      intro z
      cases z
    · split at hb
      · rename_i e
        obtain ⟨i, hi⟩ := List.mem_iff_getElem?.mp e
        obtain ⟨_, _, vs, q, _⟩ := paired_get hl hi
        rw [q]
        intro z
        cases z
      · exact h.al b hb
theorem TrX.fresh (h : TrX K Tb H0 H t T o ro) {b : Addr} (n : H b = none) : ro b = none := by
  cases e : ro b with
  | none => rfl
  | some r => exact absurd n (h.at_.al b (by rw [e]; intro z; cases z))
/-- self.lanes[k] = l, l made since H -/
theorem TrX.new_ln (h : TrX K Tb H0 H t T o ro) (e : Same H H') (k : Kd) {l : Addr} {xs : List (Option (Tl Nat))} (hl : LineAt srcR H' l xs) (n : H l = none) :
    TrX K Tb H0 (upd H' o.dL (.dK (kd (setK (fun j => V.ref (o.ln j)) k (V.ref l))))) t { T with lanes := setK T.lanes k xs } { o with ln := setK o.ln k l } (setR ro l (.ln k)) := by
  have h2 := h.grow e
  have nr := h.fresh n
  refine h2.wr h.at_.r_L h2.at_.l (fun _ z => by cases z) (fun _ z => by cases z) (h2.at_.new_ln k hl nr) fun b hb => ?_
  unfold setR at hb
  split at hb
  · rename_i z
    rw [z]
    exact h.gx.mono l n
  · exact h.nw b hb
theorem TrX.new_fl (h : TrX K Tb H0 H t T o ro) (e : Same H H') (k : Kd) {l : Addr} {xs : List (Option (Tl Nat))} (hl : LineAt srcF H' l xs) (n : H l = none) :
    TrX K Tb H0 (upd H' o.dF (.dK (kd (setK (fun j => V.ref (o.fl j)) k (V.ref l))))) t { T with files := setK T.files k xs } { o with fl := setK o.fl k l } (setR ro l (.fl k)) := by
  have h2 := h.grow e
  have nr := h.fresh n
  refine h2.wr h.at_.r_F h2.at_.f (fun _ z => by cases z) (fun _ z => by cases z) (h2.at_.new_fl k hl nr) fun b hb => ?_
  unfold setR at hb
  split at hb
  · rename_i z
    rw [z]
    exact h.gx.mono l n
  · exact h.nw b hb
theorem TrX.new_sp (h : TrX K Tb H0 H t T o ro) (e : Same H H') (k : Kd) {s : Addr} {as : List Addr} {xss : List (List (Option (Tl (Nat × Nat))))} (hs : H' s = some (.lst (as.map V.ref))) (hl : Paired (LineAt srcC H') as xss) (nd : as.Nodup) (n : H s = none) (na : ∀ a ∈ as, a ∈ o.rw k ∨ H a = none) (sa : s ∉ as) :
    TrX K Tb H0 (upd H' o.dS (.dK (kd (setK (fun j => V.ref (o.sp j)) k (V.ref s))))) t { T with spots := setK T.spots k xss } { o with sp := setK o.sp k s, rw := setK o.rw k as } (setRs ro s as k) := by
  have h2 := h.grow e
  have nr := h.fresh n
  refine h2.wr h.at_.r_S h2.at_.s (fun _ z => by cases z) (fun _ z => by cases z) (h2.at_.new_sp k hs hl nd nr (fun a ha => (na a ha).elim (fun z => .inr (h.at_.r_rw k a z)) fun z => .inl (h.fresh z)) sa) fun b hb => ?_
  unfold setRs at hb
  split at hb
  · rename_i z
    rw [z]
    exact h.gx.mono s n
  · split at hb
    · rename_i z
      rcases na b z with q | q
      · exact h.nw b (by rw [h.at_.r_rw k b q]; intro z; cases z)
      · exact h.gx.mono b q
    · exact h.nw b hb
end
end Gr

namespace Gr
open PySem PySem.Spec PyProof.Rows L2
/-! ### places in the text -/
def cscope : Expr → Scope
  | .ListComp _ _ s _ => s
  | .DictComp _ _ _ s _ => s
  | _ => defScope (.Pass ⟨0, 0, 0, 0⟩)
/-- a comprehension's scope as it runs in a def of the scope o -/
def rsc (e : Expr) (o : Scope) : Scope := relabel (cscope e) (envOf "" o 0 0 .none)
def valOf : Stmt → Expr
  | .Assign _ e _ => e
  | .Return (some e) _ => e
  | _ => .Name "" ⟨0, 0, 0, 0⟩
def celt : Expr → Expr
  | .ListComp e _ _ _ => e
  | .DictComp _ e _ _ _ => e
  | e => e
def forBody : Stmt → List Stmt
  | .For _ _ b _ _ => b
  | _ => []
def ifElse : Stmt → List Stmt
  | .If _ _ b _ => b
  | _ => []
abbrev stAt (l : List Stmt) (i : Nat) : Stmt := l.getD i (.Pass ⟨0, 0, 0, 0⟩)
theorem ru {k : Nat} {A : Around} (r : Room k A) : A.units + 1 < cLine := by have := r.un; omega
theorem ru64 {k : Nat} {A : Around} (r : Room k A) : A.units + 64 < cLine := by have := r.un; omega
theorem ru65 {k : Nat} {A : Around} (r : Room k A) : A.units + 65 < cLine := by have := r.un; omega
/-! ### methods -/
def MthT (C : Addr) (m : Str) (x : V) (H : Hp) (R : Prop) : Prop := ∃ a dx fs, x = .ref a ∧ H a = some (.ins C dx fs) ∧ fs.lookup m = none ∧ R
theorem u_tMeth {C : Addr} {m : Str} {sp : Sp} {E : XK} {ta : TE} {t : TA} {σ : L2.St} {H : Hp} {Q : VK} : tMeth C m sp [] E ta t σ H Q = ta σ H fun x H1 => MthT C m x H1 (t σ H1 fun vs H2 => sp (x :: (vs ++ [])) H2 Q E) := rfl
theorem mthI {C a dx : Addr} {m : Str} {fs : List (Str × V)} {H : Hp} {R : Prop} (h : H a = some (.ins C dx fs)) (e : fs.lookup m = none) (r : R) : MthT C m (.ref a) H R := ⟨a, dx, fs, rfl, h, e, r⟩
theorem pe_mt {X : Cx} {m q : Str} {i i2 k j : Nat} {cn : Str} {ps : List Str} {fd : FuncData} {sp : Sp} {pl : Sem Bool} {o e : Expr} {es : List Expr} {ta : TE} {t : TA} {pos apos : Pos} (c : Cls X.K (He.ga X.K cn)) (hm : Meth X.K (He.ga X.K cn) m (He.ma X.K (He.ga X.K cn) m)) (M : Me X.K cn m q i i2 ps fd) (F : FnOk X.prog X.w X.K X.mg X.base CX0 k (He.ma X.K (He.ga X.K cn) m) fd ps sp) (hr : Room j X.A) (he : PE X o ta) (ha : PA X (e :: es) t) (hk : k ≤ j := by decide)
    (hst : starEach (e :: es) X.env = (false, eval e X.env) :: starEach es X.env := by rfl) (hpl : (backTo pos (starEach es X.env)).any (·.1) = false := by rfl)
    (ht : eval (.Call (.Attribute o m apos) (e :: es) [] pos) X.env = (do
      let u0 ← eval o X.env
      standAt apos.atName
      let (g, one) ← holding [u0] (getMethod u0 m pl)
      callWith pos g one (backTo pos (starEach (e :: es) X.env)) (backToKw pos (keywordEach [] X.env))) := by rfl) :
    PE X (.Call (.Attribute o m apos) (e :: es) [] pos) (tMeth (He.ga X.K cn) m sp [] E0 ta t) := pe_meth he c hm F (hr.mono hk) M.bd .nil pass0 ha hst hpl ht
theorem u_tCallL {P : Program} {w : World} {K : PySem.W.Frag} {mg : Str → Option Value} {base : Heap} {k i : Nat} {t : TA} {σ : L2.St} {H : Hp} {Q : VK} : tCallL P w K mg base k i t σ H Q = (∃ f φ sp, σ[i]? = some (some (.ref f)) ∧ Callable P w K mg base k f φ sp ∧ (∃ F, H f = some (NdefX.FnO f F)) ∧ t σ H fun vs H1 => (∃ F, H1 f = some (NdefX.FnO f F)) ∧ φ H1 ∧ sp vs H1 Q E0) := rfl
theorem u_tMethC {C : Addr} {m : Str} {sp : Sp} {L : List (List (Str × Addr) × List Str × List Nat)} {ta : TE} {t : TA} {σ : L2.St} {H : Hp} {Q : VK} : tMethC C m sp L ta t σ H Q = ta σ H fun x H1 => MthT C m x H1 (t σ H1 fun vs H2 => ∀ (cs : List Addr) (co : Addr → Obj), (∀ q ∈ L, CellsC q.1 q.2.1 (q.2.2.map (NdefX.slotAt σ)) cs co) → (∀ c ∈ cs, H2 c = none) → sp (x :: vs) (addC co cs H2) (fun v H3 => CsAt co cs H3 → Q v (remC cs H3)) E0) := rfl
theorem u_tNdefM {T : List NdefX.NTab} {i : Nat} {mk : Addr → NdefX.NF} {D : Ends} {σ : L2.St} {H : Hp} : NdefX.tNdefM T i mk D σ H = (NdefX.TabsN T H ∧ ∀ (f c' : Addr) (H1 : Hp), LamX.ExtN H H1 → (∀ b, H1 b = Option.none → H b = Option.none) → NdefX.TabsN T H1 → H f = none → H1 f = some (NdefX.FnO f (mk c')) → H1 c' = some (LamX.CodeO c' (mk c').qual) → D.nx (σ.set i (some (.ref f))) H1) := rfl
theorem all1 {α : Type} {φ : α → Prop} {a : α} (h : φ a) : ∀ q ∈ [a], φ q := fun q hq => by
  rw [List.mem_singleton.mp hq]
  exact h
theorem all2 {α : Type} {φ : α → Prop} {a b : α} (h : φ a) (h2 : φ b) : ∀ q ∈ [a, b], φ q := fun q hq => by
  rcases List.mem_cons.mp hq with e | e
  · rw [e]
    exact h
  · exact all1 h2 q e
def MakeT (C : Addr) (H1 : Hp) (R : V → Hp → VK → Prop) (Q : VK) : Prop := ∀ x dx, H1 x = none → H1 dx = none → dx ≠ x → R (.ref x) (upd (upd H1 dx (.own x)) x (.ins C dx [])) (fun v H2 => v = .non ∧ Q (.ref x) H2)
theorem u_tMake {C : Addr} {sp : Sp} {E : XK} {t : TA} {σ : L2.St} {H : Hp} {Q : VK} : tMake C sp [] E t σ H Q = t σ H fun vs H1 => MakeT C H1 (fun x H2 Q2 => sp (x :: (vs ++ [])) H2 Q2 E) Q := rfl
theorem pe_mk {X : Cx} {m q : Str} {i i2 k j : Nat} {cn : Str} {ps : List Str} {fd : FuncData} {sp : Sp} {e : Expr} {es : List Expr} {t : TA} {p pos : Pos} (M : Mk X.K (He.ga X.K cn) (He.ma X.K (He.ga X.K cn) m)) (hm : X.mg cn = some (.ref (He.ga X.K cn))) (Me0 : Me X.K cn m q i i2 ps fd) (F : FnOk X.prog X.w X.K X.mg X.base CX0 k (He.ma X.K (He.ga X.K cn) m) fd ps sp) (hr : Room j X.A) (hg : Gl X cn) (ha : PA X (e :: es) t) (hk : k + 1 ≤ j := by decide)
    (hdb : (cn == ("__debug__" : Str)) = false := by decide) (he : starEach (e :: es) X.env = (false, eval e X.env) :: starEach es X.env := by rfl) (hpl : (backTo pos (starEach es X.env)).any (·.1) = false := by rfl) :
    PE X (.Call (.Name cn p) (e :: es) [] pos) (tMake (He.ga X.K cn) sp [] E0 t) := pe_make M F (hr.mono hk) hg hm Me0.bd .nil pass0 ha hdb he hpl
/-! ### list(range(..)) -/
def LsRg (x : V) (H : Hp) (Q : VK) : Prop := ∃ n, x = .int n ∧ RgOk 0 n ∧ ∀ q, H q = none → Q (.ref q) (upd H q (.lst (rgV 0 n)))
theorem u_tLstRg {te : TE} {σ : L2.St} {H : Hp} {Q : VK} : tLstRg (tRg1 te) σ H Q = te σ H fun x H1 => LsRg x H1 Q := rfl
theorem lsRg {n : Nat} {H : Hp} {Q : VK} (hn : n ≤ 1000) (q : ∀ q, H q = none → Q (.ref q) (upd H q (.lst ((List.range n).map fun i => V.int ((i : Nat) : Int))))) : LsRg (.int (n : Int)) H Q := by
  refine ⟨n, rfl, .of_le (by omega) (by omega) (by omega) (by omega), fun p hp => ?_⟩
  have e : rgV 0 (n : Int) = (List.range n).map fun i => V.int ((i : Nat) : Int) := by
    unfold rgV
    simp
  rw [e]
  exact q p hp
/-! ### the kinds in their order -/
def kof : Nat → Kd
  | 0 => .ink
  | 1 => .ground
  | _ => .face
def kx : Kd → Nat
  | .ink => 0
  | .ground => 1
  | .face => 2
theorem kx_lt (k : Kd) : kx k < 3 := by cases k <;> decide
theorem kof_kx (k : Kd) : kof (kx k) = k := by cases k <;> rfl
theorem kx_kof {i : Nat} (h : i < 3) : kx (kof i) = i := by
  match i, h with
  | 0, _ => rfl
  | 1, _ => rfl
  | 2, _ => rfl
abbrev kvs3 : List V := [.str "ink", .str "ground", .str "face"]
theorem kvs3_get {i : Nat} {x : V} (h : kvs3[i]? = some x) : i < 3 ∧ x = .str (kof i).s := by
  match i, h with
  | 0, h => exact ⟨by decide, (Option.some.inj h).symm⟩
  | 1, h => exact ⟨by decide, (Option.some.inj h).symm⟩
  | 2, h => exact ⟨by decide, (Option.some.inj h).symm⟩
  | i + 3, h => cases h
/-- the first i kinds of a dict -/
def kdTo (i : Nat) (f : Kd → V) : List (Key × V) := (kd f).take i
theorem kdTo_all (f : Kd → V) : kdTo 3 f = kd f := rfl
theorem kdTo_len (i : Nat) (f : Kd → V) : (kdTo i f).length ≤ i := by
  unfold kdTo
  rw [List.length_take]
  omega
theorem kdTo_put {i : Nat} (h : i < 3) (f : Kd → V) (v : V) : putK (kdTo i f) (Sum.inr (kof i).s) v = kdTo (i + 1) (setK f (kof i) v) := by
  have h1 : ¬ ((Sum.inr (Str.ofString "ink") : Key) = Sum.inr (Str.ofString "ground")) := by decide +kernel
  have h2 : ¬ ((Sum.inr (Str.ofString "ink") : Key) = Sum.inr (Str.ofString "face")) := by decide +kernel
  have h3 : ¬ ((Sum.inr (Str.ofString "ground") : Key) = Sum.inr (Str.ofString "face")) := by decide +kernel
  match i, h with
  | 0, _ => simp [kdTo, kd, putK, kof, Kd.s, setK]
  | 1, _ => simp [kdTo, kd, putK, kof, Kd.s, setK, h1]
  | 2, _ => simp [kdTo, kd, putK, kof, Kd.s, setK, h1, h2, h3]
theorem lt_succ_kx {i : Nat} (h : i < 3) {k : Kd} (hk : kx k < i + 1) : k = kof i ∨ (k ≠ kof i ∧ kx k < i) := by
  by_cases e : k = kof i
  · exact .inl e
  · refine .inr ⟨e, ?_⟩
    have : kx k ≠ i := fun z => e (by rw [← z, kof_kx])
    omega
/-! ### roles -/
structure Rl (H0 : Hp) (ro : Addr → Option Ro) (H : Hp) : Prop where
  al : ∀ b, ro b ≠ none → H b ≠ none
  nw : ∀ b, ro b ≠ none → H0 b = none
def ExR (ro ro' : Addr → Option Ro) : Prop := ∀ b r, ro b = some r → ro' b = some r
theorem ExR.refl (ro : Addr → Option Ro) : ExR ro ro := fun _ _ h => h
theorem ExR.trans {a b c : Addr → Option Ro} (h : ExR a b) (g : ExR b c) : ExR a c := fun x r e => g x r (h x r e)
theorem Rl.grow {H0 H H' : Hp} {ro : Addr → Option Ro} (h : Rl H0 ro H) (g : ∀ b, H b ≠ none → H' b ≠ none) : Rl H0 ro H' := ⟨fun b q => g b (h.al b q), h.nw⟩
theorem grow_some {D : Addr} {H H' : Hp} (g : Grow D H H') (hD : H' D ≠ none) : ∀ b, H b ≠ none → H' b ≠ none := fun b h => by
  by_cases e : b = D
  · rw [e]
    exact hD
  · cases q : H b with
    | none => exact absurd q h
    | some u =>
      rw [g b u e q]
      intro z
      cases z
theorem same_some {H H' : Hp} (g : Same H H') : ∀ b, H b ≠ none → H' b ≠ none := fun b h => by
  cases q : H b with
  | none => exact absurd q h
  | some u =>
    rw [g b u q]
    intro z
    cases z
theorem upd_some {H : Hp} (a : Addr) (o : HO) : ∀ b, H b ≠ none → upd H a o b ≠ none := fun b h => upd_al h
theorem Rl.free {H0 H : Hp} {ro : Addr → Option Ro} (h : Rl H0 ro H) {a : Addr} (n : H a = none) : ro a = none := by
  cases e : ro a with
  | none => rfl
  | some r => exact absurd n (h.al a (by rw [e]; intro z; cases z))
theorem Rl.set {H0 H H' : Hp} {ro : Addr → Option Ro} (h : Rl H0 ro H) {a : Addr} (n : H a = none) (n0 : H0 a = none) (r : Ro) (g : ∀ b, H b ≠ none → H' b ≠ none) (ha : H' a ≠ none) : Rl H0 (setR ro a r) H' ∧ ExR ro (setR ro a r) := by
  refine ⟨⟨fun b q => ?_, fun b q => ?_⟩, fun b q e => setR_old (h.free n) e⟩
  · unfold setR at q
    split at q
    · rename_i e
      rw [e]
      exact ha
    · exact g b (h.al b q)
  · unfold setR at q
    split at q
    · rename_i e
      rw [e]
      exact n0
    · exact h.nw b q
/-! ### rules inside a comprehension: K told -/
section
variable {X : Cx} {K : PySem.W.Frag}
theorem ix_listK (h : X.K = K) : IxR X (rIxL K) := by
  subst h
  exact ix_list
theorem ix_tupK (h : X.K = K) : IxR X (rIxT K) := by
  subst h
  exact ix_tup
theorem sl_listK (h : X.K = K) : SlR X (rSlL K) := by
  subst h
  exact sl_list
theorem sl_tupAK (h : X.K = K) : SlR X (rSlA K) := by
  subst h
  exact sl_tupA
theorem op_catAK (h : X.K = K) : OpR X (binaryOp .Add) (rCatA K) := by
  subst h
  exact op_catA
theorem pi_listK {tg l : Expr} {tl : TE} (h : X.K = K) (hl : PE X l tl) : PI X tg l (iList K tl) := by
  subst h
  exact pi_list hl
theorem pi_tupK {tg l : Expr} {tl : TE} (h : X.K = K) (hl : PE X l tl) : PI X tg l (iTup K tl) := by
  subst h
  exact pi_tup hl
theorem pe_fldK {e : Expr} {f : Str} {ta : TE} {pos : Pos} (h : X.K = K) (he : PE X e ta) (hb : attributeBase e f X.env (eval e X.env) = eval e X.env) : PE X (.Attribute e f pos) (tFld K ta f) := by
  subst h
  exact pe_fld he hb
theorem call_listQK (h : X.K = K) : CallR X (.type "list") (rListQ K) := by
  subst h
  exact call_listQ
theorem call_lenQK (h : X.K = K) : CallR X (.builtin "len") (rLenQ K) := by
  subst h
  exact call_lenQ
theorem op_notInDK (h : X.K = K) (hu : X.A.units + 65 < cLine) : OpR X (compareOp .NotIn) (rNotInD K) := by
  subst h
  exact op_notInD hu
theorem op_notInK (h : X.K = K) : OpR X (compareOp .NotIn) (rIn K true) := by
  subst h
  exact op_notIn_seq
theorem pe_callLK {P : Program} {w : World} {mg : Str → Option Value} {base : Heap} {i j k : Nat} {x : Str} {t : TA} {e : Expr} {es : List Expr} {p pos : Pos} (h : X.K = K) (hP : X.prog = P) (hw : X.w = w) (hm : X.mg = mg) (hB : X.base = base) (hr : Room j X.A) (hN : X.N[i]? = some x) (hv : Vis X.env.scope x) (ha : PA X (e :: es) t) (hk : k ≤ j := by decide)
    (hd : (x == ("__debug__" : Str)) = false := by decide) (hcd : (x == ("__classdict__" : Str)) = false := by decide)
    (he : starEach (e :: es) X.env = (false, eval e X.env) :: starEach es X.env := by rfl) (hpl : (backTo pos (starEach es X.env)).any (·.1) = false := by rfl) :
    PE X (.Call (.Name x p) (e :: es) [] pos) (tCallL P w K mg base k i t) := by
  subst h hP hw hm hB
  exact pe_callL hr hN hv ha hk hd hcd he hpl
theorem pe_mtK {m q : Str} {i i2 k j : Nat} {cn : Str} {ps : List Str} {fd : FuncData} {sp : Sp} {pl : Sem Bool} {o e : Expr} {es : List Expr} {ta : TE} {t : TA} {pos apos : Pos} (h : X.K = K) (c : Cls K (He.ga K cn)) (hm : Meth K (He.ga K cn) m (He.ma K (He.ga K cn) m)) (M : Me K cn m q i i2 ps fd) (F : FnOk X.prog X.w K X.mg X.base CX0 k (He.ma K (He.ga K cn) m) fd ps sp) (hr : Room j X.A) (he : PE X o ta) (ha : PA X (e :: es) t) (hk : k ≤ j := by decide)
    (hst : starEach (e :: es) X.env = (false, eval e X.env) :: starEach es X.env := by rfl) (hpl : (backTo pos (starEach es X.env)).any (·.1) = false := by rfl)
    (ht : eval (.Call (.Attribute o m apos) (e :: es) [] pos) X.env = (do
      let u0 ← eval o X.env
      standAt apos.atName
      let (g, one) ← holding [u0] (getMethod u0 m pl)
      callWith pos g one (backTo pos (starEach (e :: es) X.env)) (backToKw pos (keywordEach [] X.env))) := by rfl) :
    PE X (.Call (.Attribute o m apos) (e :: es) [] pos) (tMeth (He.ga K cn) m sp [] E0 ta t) := by
  subst h
  exact pe_mt c hm M F hr he ha hk hst hpl ht
end
end Gr

namespace Gr
open PySem PySem.Spec PyProof.Rows L2
theorem upd_dK_line {α : Type} {src : α → List V} {H : Hp} {D : Addr} {kv kv' : List (Key × V)} (hD : H D = some (.dK kv)) {l : Addr} {xs : List (Option (Tl α))} (h : LineAt src H l xs) : LineAt src (upd H D (.dK kv')) l xs :=
  h.stay (TupS.upd fun ys z => by rw [hD] at z; cases z) (upd_ne fun z => by
    obtain ⟨vs, q, _⟩ := h
    rw [z, hD] at q
    cases q)
theorem same_line {α : Type} {src : α → List V} {H H' : Hp} (e : Same H H') {l : Addr} {xs : List (Option (Tl α))} (h : LineAt src H l xs) : LineAt src H' l xs := by
  obtain ⟨vs, q, p⟩ := h
  exact ⟨vs, e _ _ q, Paired.mapP p fun _ _ z => z.stay (TupS.of e)⟩
theorem grow_line {α : Type} {src : α → List V} {D : Addr} {H H' : Hp} (g : Grow D H H') {l : Addr} (n : l ≠ D) (hD : ∀ ys, H D ≠ some (.tup ys)) {xs : List (Option (Tl α))} (h : LineAt src H l xs) : LineAt src H' l xs := by
  obtain ⟨vs, q, p⟩ := h
  exact ⟨vs, g _ _ n q, Paired.mapP p fun _ _ z => z.stay (TupS.grow g hD)⟩
section
variable {K : PySem.W.Frag} {H0 H1 : Hp} {ro0 : Addr → Option Ro} {g : TG} {tk tv te : TE} {σ : L2.St} {Q : VK} {vs : List Nat} {TK : Addr}
/-- {kind: v for kind in KINDS}, the values alike -/
theorem kinds_vals {α : Type} {src : α → List V} (x0 : Option (Tl α)) (sq : ∀ H, SqT K H TK kvs3)
    (step : ∀ i H' (kk : V → V → Hp → Prop), i < 3 → Same H1 H' → (∀ z H3, Same H' H3 → TlAt src H3 z x0 → kk (.str (kof i).s) z H3) → g (.str (kof i).s) (wipe σ vs) H' fun σ2 H2 => wipe σ2 vs = wipe σ vs ∧ tk σ2 H2 fun y H4 => tv σ2 H4 fun z H5 => kk y z H5)
    (fin : ∀ D f H, H1 D = none → Same H1 H → H D = some (.dK (kd f)) → (∀ k, TlAt src H (f k) x0) → Q (.ref D) H) : DcT (Itt K TK) g tYes tk tv vs σ H1 Q := by
  refine dc_inv (n := 3) (G := fun H => SqT K H TK kvs3) (walk_tup (xs := kvs3)) (fun D i acc H => ∃ f, acc = kdTo i f ∧ ∀ k, kx k < i → TlAt src H (f k) x0) (by decide) ?_ (fun D _ => ⟨fun _ => .non, rfl, fun k hk => by omega⟩) (fun D H _ _ => sq H) ?_ ?_
  · rintro D i acc H ⟨f, rfl, _⟩
    exact kdTo_len i f
  · rintro D i x H H' acc k hD hi gr hacc ⟨f, rfl, hf⟩ y kk
    obtain ⟨rfl, hx⟩ := y
    obtain ⟨_, rfl⟩ := kvs3_get hx
    refine step i _ k hi (gr.same hD) fun z H3 s3 hz => ?_
    have hD3 := s3 _ _ hacc
    refine kk _ z (Sum.inr (kof i).s) H3 rfl s3 ⟨setK f (kof i) z, kdTo_put hi f z, fun j hj => ?_⟩
    have ts : ∀ o : List (Key × V), TupS H3 (upd H3 D (.dK o)) := fun o => TupS.upd fun ys q => by rw [hD3] at q; cases q
    rcases lt_succ_kx hi hj with e | ⟨e, hj2⟩
    · subst e
      rw [setK_same]
      exact hz.stay (ts _)
    · rw [setK_ne _ _ e]
      exact ((hf j hj2).stay (TupS.of s3)).stay (ts _)
  · rintro D ys H hD gr hy ⟨f, rfl, hf⟩
    exact fin D f H hD (gr.same hD) hy fun k => hf k (kx_lt k)
/-- {kind: [..] for kind in KINDS}: a new line for each -/
theorem kinds_lines {α : Type} {src : α → List V} (mk : Kd → Ro) (rd : Ro) (xs : List (Option (Tl α))) (sq : ∀ H, SqT K H TK kvs3) (rl : Rl H0 ro0 H1) (n0 : ∀ b, H1 b = none → H0 b = none)
    (step : ∀ i H' (kk : V → V → Hp → Prop), i < 3 → Same H1 H' → (∀ D' H3, H' D' = none → Same H' H3 → LineAt src H3 D' xs → kk (.str (kof i).s) (.ref D') H3) → g (.str (kof i).s) (wipe σ vs) H' fun σ2 H2 => wipe σ2 vs = wipe σ vs ∧ tk σ2 H2 fun y H4 => tv σ2 H4 fun z H5 => kk y z H5)
    (fin : ∀ D (ln : Kd → Addr) ro H, H1 D = none → Same H1 H → H D = some (.dK (kd fun k => .ref (ln k))) → (∀ k, LineAt src H (ln k) xs ∧ ro (ln k) = some (mk k)) → ro D = some rd → Rl H0 ro H → ExR ro0 ro → Q (.ref D) H) : DcT (Itt K TK) g tYes tk tv vs σ H1 Q := by
  refine dc_inv (n := 3) (G := fun H => SqT K H TK kvs3) (walk_tup (xs := kvs3)) (fun D i acc H => ∃ (ln : Kd → Addr) (ro : Addr → Option Ro), acc = kdTo i (fun k => .ref (ln k)) ∧ Rl H0 ro H ∧ ExR ro0 ro ∧ ro D = some rd ∧ ∀ k, kx k < i → LineAt src H (ln k) xs ∧ ro (ln k) = some (mk k)) (by decide) ?_ (fun D hD => ?_) (fun D H _ _ => sq H) ?_ ?_
  · rintro D i acc H ⟨ln, ro, rfl, _⟩
    exact kdTo_len i _
  · obtain ⟨r1, r2⟩ := rl.set (H' := upd H1 D (.dK [])) hD (n0 D hD) rd (upd_some D _) (by rw [upd_same]; intro z; cases z)
    exact ⟨fun _ => D, _, rfl, r1, r2, setR_same, fun k hk => by omega⟩
  · rintro D i x H H' acc k hD hi gr hacc ⟨ln, ro, rfl, r1, r2, r3, hf⟩ y kk
    obtain ⟨rfl, hx⟩ := y
    obtain ⟨_, rfl⟩ := kvs3_get hx
    have s1 := gr.same hD
    refine step i _ k hi s1 fun l H3 hl s3 hz => ?_
    have hD3 := s3 _ _ hacc
    have lD : l ≠ D := fun z => by rw [z, hacc] at hl; cases hl
    obtain ⟨q1, q2⟩ := r1.set (H' := upd H3 D (.dK (putK (kdTo i fun k => .ref (ln k)) (Sum.inr (kof i).s) (.ref l)))) hl (n0 l (s1.free hl)) (mk (kof i)) (fun b hb => upd_some D _ b (same_some s3 b hb)) (by
      rw [upd_ne lD]
      obtain ⟨us, q, _⟩ := hz
      rw [q]
      intro z
      cases z)
    refine kk _ (.ref l) (Sum.inr (kof i).s) H3 rfl s3 ⟨setK ln (kof i) l, _, ?_, q1, r2.trans q2, q2 _ _ r3, fun j hj => ?_⟩
    · rw [kdTo_put hi, ref_set]
    · rcases lt_succ_kx hi hj with e | ⟨e, hj2⟩
      · subst e
        rw [setK_same]
        exact ⟨upd_dK_line hD3 hz, setR_same⟩
      · rw [setK_ne _ _ e]
        obtain ⟨p1, p2⟩ := hf j hj2
        exact ⟨upd_dK_line hD3 (same_line s3 p1), q2 _ _ p2⟩
  · rintro D ys H hD gr hy ⟨ln, ro, rfl, r1, r2, r3, hf⟩
    exact fin D ln ro H hD (gr.same hD) hy (fun k => hf k (kx_lt k)) r3 r1 r2
/-- [telling for .. in ..]: a new line -/
theorem line_lc {α : Type} {src : α → List V} {J : It} {n : Nat} {G : Hp → Prop} {Y : Nat → Hp → V → Hp → Prop} (w : Walk J n G Y) (F : Nat → Option (Tl α)) (hn : n ≤ 1000) (hG : ∀ H, Same H1 H → G H)
    (step : ∀ i x H H' (kk : VK), i < n → Same H1 H → Y i H x H' → (∀ y H3, Same H H3 → TlAt src H3 y (F i) → kk y H3) → g x (wipe σ vs) H' fun σ2 H2 => wipe σ2 vs = wipe σ vs ∧ te σ2 H2 kk)
    (fin : ∀ D H, H1 D = none → Same H1 H → LineAt src H D ((List.range n).map F) → Q (.ref D) H) : LcT J g tYes te vs σ H1 Q := by
  refine lc_map w (fun _ i y H => TlAt src H y (F i)) hn (fun D i y H H' acc h1 gr h => h.stay (TupS.grow gr fun xs z => by rw [h1] at z; cases z)) (fun D H hD gr => hG H (gr.same hD)) (fun D i x H H' acc kk hD hi gr hacc y hk => step i x H H' kk hi (gr.same hD) y hk) fun D ys H hD gr hy hl ha => ?_
  refine fin D H hD (gr.same hD) ⟨ys, hy, paired_of (by simp [hl]) fun i v x hv hx => ?_⟩
  have e : x = F i := by
    have hi : i < n := by
      have := (List.getElem?_eq_some_iff.mp hv).1
      omega
    rw [List.getElem?_map, List.getElem?_range hi] at hx
    exact (Option.some.inj hx).symm
  rw [e]
  exact ha i v hv
/-- [[..] for .. in ..]: new lines -/
theorem rows_lc {α : Type} {src : α → List V} {J : It} {n : Nat} {G : Hp → Prop} {Y : Nat → Hp → V → Hp → Prop} (w : Walk J n G Y) (F : Nat → List (Option (Tl α))) (hn : n ≤ 1000) (hG : ∀ H, Same H1 H → G H)
    (step : ∀ i x H H' (kk : VK), i < n → Same H1 H → Y i H x H' → (∀ D' H3, H D' = none → Same H H3 → LineAt src H3 D' (F i) → kk (.ref D') H3) → g x (wipe σ vs) H' fun σ2 H2 => wipe σ2 vs = wipe σ vs ∧ te σ2 H2 kk)
    (fin : ∀ D (as : List Addr) H, H1 D = none → Same H1 H → H D = some (.lst (as.map V.ref)) → Paired (LineAt src H) as ((List.range n).map F) → as.Nodup → (∀ a ∈ as, H1 a = none) → D ∉ as → Q (.ref D) H) : LcT J g tYes te vs σ H1 Q := by
  refine lc_inv w (fun D i acc H => ∃ as : List Addr, acc = as.map V.ref ∧ as.length = i ∧ Paired (LineAt src H) as ((List.range i).map F) ∧ as.Nodup ∧ (∀ a ∈ as, H1 a = none) ∧ D ∉ as) hn ?_ (fun D _ => ⟨[], rfl, rfl, .nil, List.nodup_nil, (fun _ z => by cases z), by simp⟩) (fun D H hD gr => hG H (gr.same hD)) ?_ ?_
  · rintro D i acc H ⟨as, rfl, h1, _⟩
    rw [List.length_map]
    omega
  · rintro D i x H H' acc k kn hD hi gr hacc ⟨as, rfl, h1, h2, h3, h4, h5⟩ y kk _
    have s1 := gr.same hD
    refine step i x H H' k hi s1 y fun l H3 hl s3 hz => ?_
    have hD3 := s3 _ _ hacc
    have lD : l ≠ D := fun z => by rw [z, hacc] at hl; cases hl
    have lin : ∀ {a : Addr} {xs : List (Option (Tl α))}, a ≠ D → LineAt src H3 a xs → LineAt src (upd H3 D (.lst (as.map V.ref ++ [.ref l]))) a xs := fun {a xs} na h => h.stay (TupS.upd fun ys z => by rw [hD3] at z; cases z) (upd_ne na)
    have lnew : l ∉ as := fun z => by
      obtain ⟨j, hj⟩ := List.mem_iff_getElem?.mp z
      obtain ⟨_, _, us, q, _⟩ := paired_get h2 hj
      rw [hl] at q
      cases q
    have h2' : Paired (LineAt src (upd H3 D (.lst (as.map V.ref ++ [.ref l])))) as ((List.range i).map F) := by
      refine paired_of h2.length fun j a xs ha hx => ?_
      obtain ⟨xs', q1, q2⟩ := paired_get h2 ha
      rw [hx] at q1
      cases q1
      exact lin (fun z => h5 (by rw [← z]; exact List.mem_of_getElem? ha)) (same_line s3 q2)
    refine kk (.ref l) H3 s3 ⟨as ++ [l], by simp, by simp [h1], ?_, ?_, fun a ha => ?_, fun z => ?_⟩
    · rw [List.range_succ, List.map_append]
      exact paired_app h2' (.cons (lin lD hz) .nil)
    · exact List.nodup_append.mpr ⟨h3, List.nodup_cons.mpr ⟨by simp, List.nodup_nil⟩, fun a ha b hb => by
        have : b = l := by simpa using hb
        rw [this]
        intro z
        exact lnew (by rw [← z]; exact ha)⟩
    · rcases List.mem_append.mp ha with q | q
      · exact h4 a q
      · have : a = l := by simpa using q
        rw [this]
        exact s1.free hl
    · rcases List.mem_append.mp z with q | q
      · exact h5 q
      · exact lD (by simpa using q : D = l).symm
  · rintro D ys H hD gr hy ⟨as, rfl, h1, h2, h3, h4, h5⟩
    exact fin D as H hD (gr.same hD) hy h2 h3 h4 h5
end
/-! ### an object's own write keeps the rest -/
section
variable {H : Hp} {t C dx : Addr} {fs fs' : List (Str × V)}
theorem up_ts (h : H t = some (.ins C dx fs)) : TupS H (upd H t (.ins C dx fs')) := TupS.upd fun xs z => by rw [h] at z; cases z
theorem up_dK (h : H t = some (.ins C dx fs)) {b : Addr} {kv : List (Key × V)} (hb : H b = some (.dK kv)) : upd H t (.ins C dx fs') b = some (.dK kv) := by
  rw [upd_ne (ne_of hb h (by intro z; cases z))]
  exact hb
theorem up_lst (h : H t = some (.ins C dx fs)) {b : Addr} {xs : List V} (hb : H b = some (.lst xs)) : upd H t (.ins C dx fs') b = some (.lst xs) := by
  rw [upd_ne (ne_of hb h (by intro z; cases z))]
  exact hb
theorem up_line {α : Type} {src : α → List V} (h : H t = some (.ins C dx fs)) {l : Addr} {xs : List (Option (Tl α))} (hl : LineAt src H l xs) : LineAt src (upd H t (.ins C dx fs')) l xs := by
  obtain ⟨vs, q, p⟩ := hl
  exact ⟨vs, up_lst h q, Paired.mapP p fun _ _ z => z.stay (up_ts h)⟩
end
def natV (n : Nat) : List V := (List.range n).map fun i => V.int ((i : Nat) : Int)
theorem natV_get {n i : Nat} {x : V} (h : (natV n)[i]? = some x) : x = .int (i : Int) ∧ i < n := by
  unfold natV at h
  rw [List.getElem?_map] at h
  by_cases hi : i < n
  · rw [List.getElem?_range hi] at h
    exact ⟨(Option.some.inj h).symm, hi⟩
  · rw [List.getElem?_eq_none (by simpa using hi)] at h
    cases h
theorem natV_len (n : Nat) : (natV n).length = n := by simp [natV]
theorem walk_natV {K : PySem.W.Frag} {a : Addr} {n : Nat} : Walk (Itl K a) n (fun H => SqL K H a (natV n)) (YAt (natV n)) := by
  have w := walk_list (K := K) (a := a) (xs := natV n)
  rw [natV_len] at w
  exact w
theorem putF_1 (a : V) : putF (Str.ofString "whole") a [] = [((Str.ofString "whole"), a)] := rfl
theorem putF_2 (a b : V) : putF (Str.ofString "lanes") b [((Str.ofString "whole"), a)] = [((Str.ofString "whole"), a), ((Str.ofString "lanes"), b)] := by
  have h1 : ¬ Str.ofString "whole" = Str.ofString "lanes" := by decide +kernel
  simp [putF, h1]
theorem putF_3 (a b c : V) : putF (Str.ofString "files") c [((Str.ofString "whole"), a), ((Str.ofString "lanes"), b)] = [((Str.ofString "whole"), a), ((Str.ofString "lanes"), b), ((Str.ofString "files"), c)] := by
  have h1 : ¬ Str.ofString "whole" = Str.ofString "files" := by decide +kernel
  have h2 : ¬ Str.ofString "lanes" = Str.ofString "files" := by decide +kernel
  simp [putF, h1, h2]
theorem putF_4 (a b c d : V) : putF (Str.ofString "spots") d [((Str.ofString "whole"), a), ((Str.ofString "lanes"), b), ((Str.ofString "files"), c)] = [((Str.ofString "whole"), a), ((Str.ofString "lanes"), b), ((Str.ofString "files"), c), ((Str.ofString "spots"), d)] := by
  have h1 : ¬ Str.ofString "whole" = Str.ofString "spots" := by decide +kernel
  have h2 : ¬ Str.ofString "lanes" = Str.ofString "spots" := by decide +kernel
  have h3 : ¬ Str.ofString "files" = Str.ofString "spots" := by decide +kernel
  simp [putF, h1, h2, h3]
theorem Rl.rows {H0 H H' : Hp} {ro : Addr → Option Ro} (h : Rl H0 ro H) {D : Addr} {as : List Addr} (k : Kd) (nD : H D = none) (na : ∀ a ∈ as, H a = none) (m0 : ∀ b, H b = none → H0 b = none) (eD : H' D ≠ none) (ea : ∀ a ∈ as, H' a ≠ none) (g : ∀ b, H b ≠ none → H' b ≠ none) : Rl H0 (setRs ro D as k) H' ∧ ExR ro (setRs ro D as k) := by
  refine ⟨⟨fun b q => ?_, fun b q => ?_⟩, fun b q e => ?_⟩
  · unfold setRs at q
    split at q
    · rename_i z
      rw [z]
      exact eD
    · split at q
      · rename_i z
        exact ea b z
      · exact g b (h.al b q)
  · unfold setRs at q
    split at q
    · rename_i z
      rw [z]
      exact m0 D nD
    · split at q
      · rename_i z
        exact m0 b (na b z)
      · exact h.nw b q
  · unfold setRs
    have q1 : b ≠ D := fun z => by rw [z, h.free nD] at e; cases e
    have q2 : b ∉ as := fun z => by rw [h.free (na b z)] at e; cases e
    rw [if_neg q1, if_neg q2]
    exact e
theorem setRs_D {ro : Addr → Option Ro} {D : Addr} {as : List Addr} {k : Kd} : setRs ro D as k D = some (.sp k) := if_pos rfl
theorem setRs_a {ro : Addr → Option Ro} {D : Addr} {as : List Addr} {k : Kd} {a : Addr} (h : a ∈ as) (n : D ∉ as) : setRs ro D as k a = some (.rw k) := by
  unfold setRs
  rw [if_neg fun z => n (by rw [← z]; exact h), if_pos h]
/-- a heap over H0 with its tables -/
structure Gt (Tb : List NdefX.NTab) (H0 H : Hp) : Prop where
  gx : Gx H0 H
  tb : NdefX.TabsN Tb H
theorem Gt.same {Tb : List NdefX.NTab} {H0 H H' : Hp} (h : Gt Tb H0 H) (s : Same H H') : Gt Tb H0 H' := ⟨h.gx.trans (Gx.of s), h.tb.ext s⟩
theorem Gt.put {Tb : List NdefX.NTab} {H0 H : Hp} (h : Gt Tb H0 H) {t : Addr} {u v : HO} (n : H0 t = none) (e : H t = some u) (n1 : ∀ ps, u ≠ .tbl ps) (n2 : ∀ φ, u ≠ .ext φ) : Gt Tb H0 (upd H t v) := ⟨h.gx.upd n _, tabs_upd h.tb (fun ps z => by rw [e] at z; exact n1 ps (Option.some.inj z)) fun φ z => by rw [e] at z; exact n2 φ (Option.some.inj z)⟩
end Gr

namespace Gr
open PySem PySem.Spec PyProof.Rows L2
local macro_rules | `(tactic| walk_at "n") => `(tactic| try simp only [u_tVar, u_tC, u_tB, u_tTest, u_tAnd, u_tOr, u_tNot, u_tAndV, u_tOrV, u_tNotV, u_tIf, u_tNext, u_tSeq, u_tBreak, u_tCont, u_tDrop, u_tRet, u_tRetN, u_tIfS, u_tNever, u_gName, u_tAsg, u_tPar, u_gSub, u_tOp, u_tUn, u_tChain, u_tNil, u_tCons, u_tTup, u_tLst, u_tCB, u_tCall, u_tNoPart, u_tPart, u_tSl, u_tYes, u_iList', u_iTup', u_tLc, u_tDc, u_tFor, u_iRng1, u_iRng2, u_iEnum, u_iEnumT, u_iZip, u_iZip3, L2.wipe, u_sDPut', u_tDGet', u_tDNewK, u_tFld', u_sFld, u_gTup, u_gCons, u_gNil, u_tMeth, u_tMake, u_tMethC, u_tNdefM, u_tCallL, u_tLstRg, v_rI0, v_rI, v_eqI, v_neI, v_eqS, v_neS, v_bl, v_int, v_ref, v_some, v_two, w_insert_tell, w_remove_tell, w_remove_insert, w_move_tell, w_move_insert, w_move_remove, w_copy_tell, w_copy_insert, w_copy_remove, w_copy_move, w_rows_table, w_columns_table, w_cells_table, w_rows_cells, w_columns_cells, w_columns_rows, w_cells_rows, w_cells_columns, w_rows_columns, w_table_cells, w_table_rows, w_table_columns, w_column_row, w_plain_like, w_like_plain, w_old_new, w_new_old, w_newest_nearest, w_nearest_newest, w_ink_ground, w_ink_face, w_ground_ink, w_ground_face, w_face_ink, w_face_ground, w_whole_lanes, w_whole_files, w_whole_spots, w_lanes_files, w_lanes_spots, w_files_spots, List.getElem?_cons_zero, List.getElem?_cons_succ, List.set_cons_zero, List.set_cons_succ, List.append_nil, Bool.not_true, Bool.not_false, eq_self, if_true, Bool.false_eq_true, if_false, decide_true, decide_false, v_max, v_min, v_intQ, v_isN, v_notN, reduceCtorEq, Nat.reduceAdd, Nat.zero_add, Int.cast_ofNat_Int, Int.reduceEq, Int.reduceLE, Int.reduceLT, Int.reduceAdd, List.cons_append, List.nil_append, List.map_cons, List.map_nil, Sc.vs, ov, De.vs, how, List.length_cons, List.length_nil])
local macro_rules | `(tactic| walk_at "x") => `(tactic| first | refine ixT (by assumption) rfl ?_ | refine ixL (by assumption) rfl ?_ | refine lenT (by assumption) rfl ?_ | refine lenL (by assumption) rfl ?_ | refine isi (.base (.int _)) kit_int_int ?_ | refine isi (.base (.int _)) kit_int_str ?_ | refine isi (.base (.int _)) kit_int_bool ?_ | refine isi (.base (.int _)) kit_int_tuple ?_ | refine isi (.base (.int _)) kit_int_list ?_ | refine isi (.base (.str _)) kit_str_int ?_ | refine isi (.base (.str _)) kit_str_str ?_ | refine isi (.base (.str _)) kit_str_bool ?_ | refine isi (.base (.str _)) kit_str_tuple ?_ | refine isi (.base (.str _)) kit_str_list ?_ | refine isi (.base (.bl _)) kit_bool_int ?_ | refine isi (.base (.bl _)) kit_bool_str ?_ | refine isi (.base (.bl _)) kit_bool_bool ?_ | refine isi (.base (.bl _)) kit_bool_tuple ?_ | refine isi (.base (.bl _)) kit_bool_list ?_ | refine isi (.base (.tup (by assumption))) kit_tuple_int ?_ | refine isi (.base (.tup (by assumption))) kit_tuple_str ?_ | refine isi (.base (.tup (by assumption))) kit_tuple_bool ?_ | refine isi (.base (.tup (by assumption))) kit_tuple_tuple ?_ | refine isi (.base (.tup (by assumption))) kit_tuple_list ?_ | refine isi (.base (.lst (by assumption))) kit_list_int ?_ | refine isi (.base (.lst (by assumption))) kit_list_str ?_ | refine isi (.base (.lst (by assumption))) kit_list_bool ?_ | refine isi (.base (.lst (by assumption))) kit_list_tuple ?_ | refine isi (.base (.lst (by assumption))) kit_list_list ?_ | refine isi (.base (.non)) kit_NoneType_int ?_ | refine isi (.base (.non)) kit_NoneType_str ?_ | refine isi (.base (.non)) kit_NoneType_bool ?_ | refine isi (.base (.non)) kit_NoneType_tuple ?_ | refine isi (.base (.non)) kit_NoneType_list ?_)
local macro_rules | `(tactic| walk_at "g") => `(tactic| (repeat (walk_at "n"; walk_at "x")); walk_at "n")

-- Gr5
section
variable {P : Program} {w : World} {K : PySem.W.Frag} {mg : Str → Option Value} {fds : Str → FuncData} {base : Heap}
/-- a trace of n lanes, files as it begins -/
def Tr.zero (n : Nat) : Tr := ⟨fun _ => some (.old ()), fun _ => (List.range n).map fun i => some (.old i), fun _ => (List.range n).map fun i => some (.old i), fun _ => (List.range n).map fun r => (List.range n).map fun c => some (.old (r, c))⟩
theorem Tr.zero_wf (n : Nat) : (Tr.zero n).Wf n n := ⟨fun _ => by simp [Tr.zero], fun _ => by simp [Tr.zero], fun _ => by simp [Tr.zero], fun _ r hr => by
  obtain ⟨i, _, rfl⟩ := List.mem_map.mp (show r ∈ (List.range n).map _ from hr)
  simp⟩
abbrev sc_i1 : Scope := rsc (valOf (stAt (defBody (inClass (top 20) 0)) 2)) (defScope (inClass (top 20) 0))
abbrev sc_i2 : Scope := rsc (valOf (stAt (defBody (inClass (top 20) 0)) 3)) (defScope (inClass (top 20) 0))
abbrev sc_i3 : Scope := rsc (valOf (stAt (forBody (stAt (defBody (inClass (top 20) 0)) 5)) 0)) (defScope (inClass (top 20) 0))
abbrev s_Trace_init : Stmt := inClass (top 20) 0
abbrev N_Trace_init : List Str := ["self", "size", "kind", "lines", "at", "row"]
theorem sc_Trace_init : FnScope N_Trace_init ["self", "size"] (defScope s_Trace_init) := ⟨rfl, rfl, rfl, by decide +kernel, rfl, by decide +kernel, by decide +kernel⟩
def spTraceInit (K : PySem.W.Frag) (Tb : List NdefX.NTab) : Sp := fun vs H Q _ => ∃ (t dx : Addr) (n : Nat) (H0 : Hp), vs = [.ref t, .int (n : Int)] ∧ H t = some (.ins (He.ga K "Trace") dx []) ∧ H0 t = none ∧ (∀ b, H b = none → H0 b = none) ∧ Gx H0 H ∧ NdefX.TabsN Tb H ∧ n ≤ 200 ∧
  ∀ H', TrIn K Tb H0 H' t (Tr.zero n) → Q .non H'
theorem ok_Trace_init (T : Txt K mg fds) (Tb : List NdefX.NTab) : FnOk P w K mg base CX0 2 (He.ma K (He.ga K "Trace") "__init__") (fds "Trace.__init__") ["self", "size"] (spTraceInit K Tb) := by
  refine T.e_init.fn.ok sc_Trace_init (fun vs H Q E h => ?_) (fun cdv A outer s H vs Q E hr h => ?_)
  · obtain ⟨t, dx, n, H0, rfl, _⟩ := h; rfl
  · obtain ⟨t, dx, n, H0, rfl, ht, ht0, hm0, gx, tb, hn, k⟩ := h
    have nd := sc_Trace_init.nd
    refine ⟨_, PSs.nox (pss_cons (ps_fld (pv 0) (pe_dc (own := [("kind", 2)]) rfl nd (pi_tup (pe_glob (v := .ref (He.ga K "KINDS")) rfl T.m_KINDS rfl)) (blkOk_by (N := N_Trace_init) (sc := (defScope s_Trace_init)) (by decide +kernel)) (fun _ _ _ _ _ => (pg_name (i := 2) nd rfl (by first | exact Or.inl rfl | exact Or.inr rfl))) (fun _ _ _ _ _ => pts_nil) (fun _ _ _ _ _ => (pv 2)) (fun _ _ _ _ _ => (pe_tup (pa_cons pe_str (pa_cons (pe_tup (pa_cons pe_str pa_nil)) pa_nil))))) rfl)
      (pss_cons (ps_set (i := 3) nd rfl (by first | exact Or.inl rfl | exact Or.inr rfl) (pe_listRg rfl (by rfl) T.g_list (prg_1 (by rfl) T.g_range (pv 1))))
      (pss_cons (ps_fld (pv 0) (pe_dc (own := [("kind", 2)]) rfl nd (pi_tup (pe_glob (v := .ref (He.ga K "KINDS")) rfl T.m_KINDS rfl)) (blkOk_by (N := N_Trace_init) (sc := (defScope s_Trace_init)) (by decide +kernel)) (fun _ _ _ _ _ => (pg_name (i := 2) nd rfl (by first | exact Or.inl rfl | exact Or.inr rfl))) (fun _ _ _ _ _ => pts_nil) (fun _ _ _ _ _ => (pv 2)) (fun _ _ _ _ _ => (pe_lc (own := [("at", 4)]) rfl nd (pi_listK (K := K) rfl (pv 3)) (blkOk_by (N := N_Trace_init) (sc := sc_i1) (by decide +kernel)) (fun _ _ _ _ _ => (pg_name (i := 4) nd rfl (by first | exact Or.inl rfl | exact Or.inr rfl))) (fun _ _ _ _ _ => pts_nil) (fun _ _ _ _ _ => (pe_tup (pa_cons pe_str (pa_cons (pe_tup (pa_cons pe_str (pa_cons (pv 4) (pa_cons (pv 4) pa_nil)))) pa_nil))))))) rfl)
      (pss_cons (ps_fld (pv 0) (pe_dc (own := [("kind", 2)]) rfl nd (pi_tup (pe_glob (v := .ref (He.ga K "KINDS")) rfl T.m_KINDS rfl)) (blkOk_by (N := N_Trace_init) (sc := (defScope s_Trace_init)) (by decide +kernel)) (fun _ _ _ _ _ => (pg_name (i := 2) nd rfl (by first | exact Or.inl rfl | exact Or.inr rfl))) (fun _ _ _ _ _ => pts_nil) (fun _ _ _ _ _ => (pv 2)) (fun _ _ _ _ _ => (pe_lc (own := [("at", 4)]) rfl nd (pi_listK (K := K) rfl (pv 3)) (blkOk_by (N := N_Trace_init) (sc := sc_i2) (by decide +kernel)) (fun _ _ _ _ _ => (pg_name (i := 4) nd rfl (by first | exact Or.inl rfl | exact Or.inr rfl))) (fun _ _ _ _ _ => pts_nil) (fun _ _ _ _ _ => (pe_tup (pa_cons pe_str (pa_cons (pe_tup (pa_cons pe_str (pa_cons (pv 4) (pa_cons (pv 4) pa_nil)))) pa_nil))))))) rfl)
      (pss_cons (ps_fld (pv 0) pe_dnewK rfl)
      (pss_one (ps_for PassesOwn.never rfl (pi_tup (pe_glob (v := .ref (He.ga K "KINDS")) rfl T.m_KINDS rfl)) (pg_name (i := 2) nd rfl (by first | exact Or.inl rfl | exact Or.inr rfl))
        (pss_one (ps_dput (ru hr) (pe_fld (pv 0) rfl) (pv 2) (pe_lc (own := [("row", 5)]) rfl nd (pi_list (pv 3)) (blkOk_by (N := N_Trace_init) (sc := (defScope s_Trace_init)) (by decide +kernel)) (fun _ _ _ _ _ => (pg_name (i := 5) nd rfl (by first | exact Or.inl rfl | exact Or.inr rfl))) (fun _ _ _ _ _ => pts_nil) (fun _ _ _ _ _ => (pe_lc (own := [("at", 4)]) rfl nd (pi_listK (K := K) rfl (pv 3)) (blkOk_by (N := N_Trace_init) (sc := sc_i3) (by decide +kernel)) (fun _ _ _ _ _ => (pg_name (i := 4) nd rfl (by first | exact Or.inl rfl | exact Or.inr rfl))) (fun _ _ _ _ _ => pts_nil) (fun _ _ _ _ _ => (pe_tup (pa_cons pe_str (pa_cons (pe_tup (pa_cons pe_str (pa_cons (pv 5) (pa_cons (pv 5) (pa_cons (pv 4) (pa_cons (pv 4) pa_nil)))))) pa_nil))))))) rfl))))))))), ?_⟩
    rw [show L2.start N_Trace_init [.ref t, .int (n : Int)] = [some (.ref t), some (.int (n : Int)), none, none, none, none] from rfl]
    walk_at "g"
    refine tpT (T.t_KINDS _) ?_
    refine kinds_vals (K := K) (src := srcW) (some (.old ())) T.t_KINDS (fun i H1 kk hi s1 hk => ?_) fun dW f H1 hW s1 hdW hf => ?_
    · walk_at "n"
      refine ⟨trivial, by decide, fun p hp => ⟨by decide, fun q hq => ?_⟩⟩
      exact hk _ _ ((Same.upd _ hp).trans (Same.upd _ hq)) ⟨q, p, rfl, upd_same, by rw [upd_ne (ne_of_none upd_same hq)]; exact upd_same⟩
    have ht1 := s1 _ _ ht
    have g1 := (Gt.mk gx tb).same s1
    have r0 : Rl H0 (setR (fun _ => none) t .self) H := by
      refine ⟨fun b hb => ?_, fun b hb => ?_⟩ <;> unfold setR at hb <;> split at hb
      · rename_i e
        rw [e, ht]
        intro z
        cases z
      · exact absurd rfl hb
      · rename_i e
        rw [e]
        exact ht0
      · exact absurd rfl hb
    obtain ⟨r1, x1⟩ := r0.set (H' := H1) hW (hm0 _ hW) .dW (same_some s1) (by rw [hdW]; intro z; cases z)
    have tW : t ≠ dW := ne_of_none ht hW
    refine fldS ht1 T.k_Trace T.n_whole (by decide) ?_
    rw [putF_1]
    generalize hfW : [((Str.ofString "whole"), V.ref dW)] = fW
    have r2 : Rl H0 (setR (setR (fun _ => none) t .self) dW .dW) (upd H1 t (.ins (He.ga K "Trace") dx fW)) := r1.grow (upd_some t _)
    have gr0 : ∀ b, upd H1 t (.ins (He.ga K "Trace") dx fW) b = none → H b = none := fun b hb => s1.free (NdefX.upd_none hb)
    have ht2 : upd H1 t (.ins (He.ga K "Trace") dx fW) t = some (.ins (He.ga K "Trace") dx fW) := upd_same
    have hdW2 := up_dK (fs' := fW) ht1 hdW
    have hf2 : ∀ k, TlAt srcW _ (f k) _ := fun k => (hf k).stay (up_ts (fs' := fW) ht1)
    have g2 := g1.put (v := .ins (He.ga K "Trace") dx fW) ht0 ht1 (fun _ z => by cases z) (fun _ z => by cases z)
    generalize upd H1 t (.ins (He.ga K "Trace") dx fW) = Ha at g2 r2 gr0 ht2 hdW2 hf2 ⊢
    refine lsRg (by omega) fun la hla => ?_
    have s3 := Same.upd (.lst (natV n)) hla
    have ht3 := s3 _ _ ht2
    have hdW3 := s3 _ _ hdW2
    have hf3 : ∀ k, TlAt srcW _ (f k) _ := fun k => (hf2 k).stay (TupS.of s3)
    have hla3 : upd Ha la (.lst (natV n)) la = some (.lst (natV n)) := upd_same
    have r3 := r2.grow (same_some s3)
    have fr3 : ∀ b, upd Ha la (.lst (natV n)) b = none → H b = none := fun b hb => gr0 b (s3.free hb)
    show TpT _ _ (upd Ha la (.lst (natV n))) _
    have g3 := g2.same s3
    generalize upd Ha la (.lst (natV n)) = Hb at g3 s3 ht3 hdW3 hf3 hla3 r3 fr3 ⊢
    refine tpT (T.t_KINDS _) ?_
    refine kinds_lines (K := K) (src := srcR) Ro.ln .dL ((List.range n).map fun i => some (.old i)) T.t_KINDS r3 (fun b hb => hm0 b (fr3 b hb)) (fun i HA kk hi sA hk => ?_) fun dL lL ro4 H4 nL s4 hdL hlL hrL r4 x4 => ?_
    · walk_at "n"
      have hlA := sA _ _ hla3
      refine ⟨trivial, lsL hlA ?_⟩
      refine line_lc (src := srcR) (n := n) walk_natV (fun i => some (.old i)) (by omega) (fun H s => SqL.of (s _ _ hlA)) (fun i x HB HB' kk hi sB y hk => ?_) fun D HB hD sB hB => ?_
      · obtain ⟨rfl, hx⟩ := y
        obtain ⟨rfl, _⟩ := natV_get hx
        walk_at "n"
        refine ⟨trivial, by decide, fun p hp => ⟨by decide, fun q hq => ?_⟩⟩
        exact hk _ _ ((Same.upd _ hp).trans (Same.upd _ hq)) ⟨q, p, rfl, upd_same, by rw [upd_ne (ne_of_none upd_same hq)]; exact upd_same⟩
      · exact hk D HB hD sB hB
    refine fldS (s4 _ _ ht3) T.k_Trace T.n_lanes (by rw [← hfW]; show 1 < 1000; decide) ?_
    rw [← hfW, putF_2]
    generalize hfL : [((Str.ofString "whole"), V.ref dW), ((Str.ofString "lanes"), V.ref dL)] = fL
    have ht4 := s4 _ _ ht3
    have ht5 : upd H4 t (.ins (He.ga K "Trace") dx fL) t = some (.ins (He.ga K "Trace") dx fL) := upd_same
    have hdW5 := up_dK (fs' := fL) ht4 (s4 _ _ hdW3)
    have hf5 : ∀ k, TlAt srcW _ (f k) _ := fun k => ((hf3 k).stay (TupS.of s4)).stay (up_ts (fs' := fL) ht4)
    have hla5 := up_lst (fs' := fL) ht4 (s4 _ _ hla3)
    have hdL5 := up_dK (fs' := fL) ht4 hdL
    have hlL5 : ∀ k, LineAt srcR _ (lL k) _ := fun k => up_line (fs' := fL) ht4 (hlL k).1
    have r5 := r4.grow (upd_some t (.ins (He.ga K "Trace") dx fL))
    have fr5 : ∀ b, upd H4 t (.ins (He.ga K "Trace") dx fL) b = none → H b = none := fun b hb => fr3 b (s4.free (NdefX.upd_none hb))
    have g5 := (g3.same s4).put (v := .ins (He.ga K "Trace") dx fL) ht0 ht4 (fun _ z => by cases z) (fun _ z => by cases z)
    generalize upd H4 t (.ins (He.ga K "Trace") dx fL) = H5 at g5 ht5 hdW5 hf5 hla5 hdL5 hlL5 r5 fr5 ⊢
    refine tpT (T.t_KINDS _) ?_
    refine kinds_lines (K := K) (src := srcF) Ro.fl .dF ((List.range n).map fun i => some (.old i)) T.t_KINDS r5 (fun b hb => hm0 b (fr5 b hb)) (fun i HA kk hi sA hk => ?_) fun dF lF ro6 H6 nF s6 hdF hlF hrF r6 x6 => ?_
    · walk_at "n"
      have hlA := sA _ _ hla5
      refine ⟨trivial, lsL hlA ?_⟩
      refine line_lc (src := srcF) (n := n) walk_natV (fun i => some (.old i)) (by omega) (fun H s => SqL.of (s _ _ hlA)) (fun i x HB HB' kk hi sB y hk => ?_) fun D HB hD sB hB => ?_
      · obtain ⟨rfl, hx⟩ := y
        obtain ⟨rfl, _⟩ := natV_get hx
        walk_at "n"
        refine ⟨trivial, by decide, fun p hp => ⟨by decide, fun q hq => ?_⟩⟩
        exact hk _ _ ((Same.upd _ hp).trans (Same.upd _ hq)) ⟨q, p, rfl, upd_same, by rw [upd_ne (ne_of_none upd_same hq)]; exact upd_same⟩
      · exact hk D HB hD sB hB
    refine fldS (s6 _ _ ht5) T.k_Trace T.n_files (by rw [← hfL]; show 2 < 1000; decide) ?_
    rw [← hfL, putF_3]
    generalize hfF : [((Str.ofString "whole"), V.ref dW), ((Str.ofString "lanes"), V.ref dL), ((Str.ofString "files"), V.ref dF)] = fF
    have ht6 := s6 _ _ ht5
    have ht7 : upd H6 t (.ins (He.ga K "Trace") dx fF) t = some (.ins (He.ga K "Trace") dx fF) := upd_same
    have hdW7 := up_dK (fs' := fF) ht6 (s6 _ _ hdW5)
    have hf7 : ∀ k, TlAt srcW _ (f k) _ := fun k => ((hf5 k).stay (TupS.of s6)).stay (up_ts (fs' := fF) ht6)
    have hla7 := up_lst (fs' := fF) ht6 (s6 _ _ hla5)
    have hdL7 := up_dK (fs' := fF) ht6 (s6 _ _ hdL5)
    have hlL7 : ∀ k, LineAt srcR _ (lL k) _ := fun k => up_line (fs' := fF) ht6 (same_line s6 (hlL5 k))
    have hdF7 := up_dK (fs' := fF) ht6 hdF
    have hlF7 : ∀ k, LineAt srcF _ (lF k) _ := fun k => up_line (fs' := fF) ht6 (hlF k).1
    have r7 := r6.grow (upd_some t (.ins (He.ga K "Trace") dx fF))
    have fr7 : ∀ b, upd H6 t (.ins (He.ga K "Trace") dx fF) b = none → H b = none := fun b hb => fr5 b (s6.free (NdefX.upd_none hb))
    have g7 := (g5.same s6).put (v := .ins (He.ga K "Trace") dx fF) ht0 ht6 (fun _ z => by cases z) (fun _ z => by cases z)
    generalize upd H6 t (.ins (He.ga K "Trace") dx fF) = H7 at g7 ht7 hdW7 hf7 hla7 hdL7 hlL7 hdF7 hlF7 r7 fr7 ⊢
    walk_at "n"
    intro dS hS
    have s8 := Same.upd (.dK []) hS
    have ht8 := s8 _ _ ht7
    refine fldS ht8 T.k_Trace T.n_spots (by rw [← hfF]; show 3 < 1000; decide) ?_
    rw [← hfF, putF_4, show [((Str.ofString "whole"), V.ref dW), ((Str.ofString "lanes"), V.ref dL), ((Str.ofString "files"), V.ref dF), ((Str.ofString "spots"), V.ref dS)] = fsT dW dL dF dS from rfl]
    have ht9 : upd (upd H7 dS (.dK [])) t (.ins (He.ga K "Trace") dx (fsT dW dL dF dS)) t = some (.ins (He.ga K "Trace") dx (fsT dW dL dF dS)) := upd_same
    have hdW9 := up_dK (fs' := fsT dW dL dF dS) ht8 (s8 _ _ hdW7)
    have hf9 : ∀ k, TlAt srcW _ (f k) _ := fun k => ((hf7 k).stay (TupS.of s8)).stay (up_ts (fs' := fsT dW dL dF dS) ht8)
    have hla9 := up_lst (fs' := fsT dW dL dF dS) ht8 (s8 _ _ hla7)
    have hdL9 := up_dK (fs' := fsT dW dL dF dS) ht8 (s8 _ _ hdL7)
    have hlL9 : ∀ k, LineAt srcR _ (lL k) _ := fun k => up_line (fs' := fsT dW dL dF dS) ht8 (same_line s8 (hlL7 k))
    have hdF9 := up_dK (fs' := fsT dW dL dF dS) ht8 (s8 _ _ hdF7)
    have hlF9 : ∀ k, LineAt srcF _ (lF k) _ := fun k => up_line (fs' := fsT dW dL dF dS) ht8 (same_line s8 (hlF7 k))
    obtain ⟨r8, x8⟩ := r7.set (H' := upd H7 dS (.dK [])) hS (hm0 _ (fr7 _ hS)) .dS (same_some s8) (by rw [upd_same]; intro z; cases z)
    have hdS9 := up_dK (fs' := fsT dW dL dF dS) ht8 (upd_same (H := H7) (a := dS) (o := .dK []))
    have r9 := r8.grow (upd_some t (.ins (He.ga K "Trace") dx (fsT dW dL dF dS)))
    have fr9 : ∀ b, upd (upd H7 dS (.dK [])) t (.ins (He.ga K "Trace") dx (fsT dW dL dF dS)) b = none → H b = none := fun b hb => fr7 b (s8.free (NdefX.upd_none hb))
    have R_t : setR ro6 dS .dS t = some .self := x8 _ _ (x6 _ _ (x4 _ _ (x1 _ _ setR_same)))
    have R_W : setR ro6 dS .dS dW = some .dW := x8 _ _ (x6 _ _ (x4 _ _ setR_same))
    have R_L : setR ro6 dS .dS dL = some .dL := x8 _ _ (x6 _ _ hrL)
    have R_F : setR ro6 dS .dS dF = some .dF := x8 _ _ hrF
    have R_S : setR ro6 dS .dS dS = some .dS := setR_same
    have R_ln : ∀ k, setR ro6 dS .dS (lL k) = some (.ln k) := fun k => x8 _ _ (x6 _ _ (hlL k).2)
    have R_fl : ∀ k, setR ro6 dS .dS (lF k) = some (.fl k) := fun k => x8 _ _ (hlF k).2
    have nS0 : H0 dS = none := hm0 _ (fr7 _ hS)
    show TpT _ _ (upd (upd H7 dS (.dK [])) t _) _
    have g9 := (g7.same s8).put (v := .ins (He.ga K "Trace") dx (fsT dW dL dF dS)) ht0 ht8 (fun _ z => by cases z) (fun _ z => by cases z)
    generalize upd (upd H7 dS (.dK [])) t (.ins (He.ga K "Trace") dx (fsT dW dL dF dS)) = H9 at g9 ht9 hdW9 hf9 hla9 hdL9 hlL9 hdF9 hlF9 hdS9 r9 fr9 ⊢
    generalize setR ro6 dS .dS = ro9 at *
    refine tpT (T.t_KINDS _) ?_
    refine forW (n := 3) (G := fun H => SqT K H (He.ga K "KINDS") kvs3) (walk_tup (xs := kvs3)) (fun i σ HH => ∃ (a2 : Option V) (sp : Kd → Addr) (rw : Kd → List Addr) (ro : Addr → Option Ro), σ = [some (.ref t), some (.int (n : Int)), a2, some (.ref la), none, none] ∧ Grow dS H9 HH ∧ HH dS = some (.dK (kdTo i fun k => .ref (sp k))) ∧ Rl H0 ro HH ∧ ExR ro9 ro ∧ Gt Tb H0 HH ∧
      ∀ k, kx k < i → HH (sp k) = some (.lst ((rw k).map V.ref)) ∧ Paired (LineAt srcC HH) (rw k) ((List.range n).map fun r => (List.range n).map fun c => some (Tl.old (r, c))) ∧ (rw k).Nodup ∧ ro (sp k) = some (.sp k) ∧ ∀ a ∈ rw k, ro a = some (.rw k)) ?_ (fun i σ HH _ _ => T.t_KINDS HH) ?_ ?_
    · exact ⟨none, fun _ => dS, fun _ => [], ro9, rfl, Grow.refl _ _, hdS9, r9, ExR.refl _, g9, fun k hk => by omega⟩
    · rintro i x σ H10 HH hi ⟨a2, sp, rw, ro, rfl, gw, hdS, rl, xr, gt, hk⟩ y
      obtain ⟨rfl, hx⟩ := y
      obtain ⟨_, rfl⟩ := kvs3_get hx
      have nS : ∀ {b : Addr} {u : HO}, H9 b = some u → (∀ kv, u ≠ .dK kv) → HH b = some u := fun {b u} e n => gw b u (ne_of e hdS9 (n _)) e
      have m0 : ∀ b, HH b = none → H0 b = none := fun b hb => hm0 b (fr9 b (by
        cases q : H9 b with
        | none => rfl
        | some u =>
          by_cases e : b = dS
          · rw [e, hdS] at hb
            cases hb
          · rw [gw b u e q] at hb
            cases hb))
      walk_at "n"
      have hla := nS hla9 (fun _ z => by cases z)
      refine lsL hla ?_
      refine rows_lc (src := srcC) (n := n) walk_natV (fun r => (List.range n).map fun c => some (Tl.old (r, c))) (by omega) (fun H s => SqL.of (s _ _ hla)) (fun r x HB HB' kk hr' sB y hkk => ?_) fun D as HB hD sB hDl hp hnd hfr hDn => ?_
      · obtain ⟨rfl, hx⟩ := y
        obtain ⟨rfl, _⟩ := natV_get hx
        walk_at "n"
        have hlaB := sB _ _ hla
        refine ⟨trivial, lsL hlaB ?_⟩
        refine line_lc (src := srcC) (n := n) walk_natV (fun c => some (.old (r, c))) (by omega) (fun H s => SqL.of (s _ _ hlaB)) (fun c x HC HC' kk hc sC y hk => ?_) fun D HC hD sC hC => ?_
        · obtain ⟨rfl, hx⟩ := y
          obtain ⟨rfl, _⟩ := natV_get hx
          walk_at "n"
          refine ⟨trivial, by decide, fun p hp => ⟨by decide, fun q hq => ?_⟩⟩
          exact hk _ _ ((Same.upd _ hp).trans (Same.upd _ hq)) ⟨q, p, rfl, upd_same, by rw [upd_ne (ne_of_none upd_same hq)]; exact upd_same⟩
        · exact hkk D HC hD sC hC
      · walk_at "n"
        have htB := sB _ _ (nS ht9 (fun _ z => by cases z))
        have hdB := sB _ _ hdS
        refine fldG htB T.k_Trace T.n_spots (fsT_spots _ _ _ _) ?_
        walk_at "n"
        have DS : D ≠ dS := fun z => by rw [z, hdS] at hD; cases hD
        have aS : ∀ a ∈ as, a ≠ dS := fun a ha z => by
          have q := hfr a ha
          rw [z, hdS] at q
          cases q
        refine ⟨dS, _, rfl, DPut.k (k := Sum.inr (kof i).s) hdB (by have := kdTo_len i (fun k => V.ref (sp k)); have := (by decide : 3 < sizeLine); omega), ?_⟩
        rw [kdTo_put hi, ref_set]
        have lin : ∀ {b : Addr} {xs : List (Option (Tl (Nat × Nat)))}, LineAt srcC HB b xs → LineAt srcC (upd HB dS (.dK (kdTo (i + 1) fun k => .ref (setK sp (kof i) D k)))) b xs := fun {b xs} h => upd_dK_line hdB h
        obtain ⟨q1, q2⟩ := rl.rows (H' := upd HB dS (.dK (kdTo (i + 1) fun k => .ref (setK sp (kof i) D k)))) (kof i) hD hfr m0 (by
          rw [upd_ne DS, hDl]
          intro z
          cases z) (fun a ha => by
          obtain ⟨j, hj⟩ := List.mem_iff_getElem?.mp ha
          obtain ⟨_, _, us, q, _⟩ := paired_get hp hj
          rw [upd_ne (aS a ha), q]
          intro z
          cases z) (fun b hb => upd_some dS _ b (same_some sB b hb))
        refine ⟨some (.str (kof i).s), setK sp (kof i) D, setK rw (kof i) as, setRs ro D as (kof i), rfl, gw.trans ((Grow.of sB).trans (Grow.upd _)), upd_same, q1, xr.trans q2, (gt.same sB).put nS0 hdB (fun _ z => by cases z) (fun _ z => by cases z), fun j hj => ?_⟩
        rcases lt_succ_kx hi hj with e | ⟨e, hj2⟩
        · subst e
          rw [setK_same, setK_same]
          exact ⟨by rw [upd_ne DS]; exact hDl, Paired.mapP hp fun _ _ h => lin h, hnd, setRs_D, fun a ha => setRs_a ha hDn⟩
        · rw [setK_ne _ _ e, setK_ne _ _ e]
          obtain ⟨e1, e2, e3, e4, e5⟩ := hk j hj2
          refine ⟨?_, Paired.mapP e2 fun _ _ h => lin (same_line sB h), e3, q2 _ _ e4, fun a ha => q2 _ _ (e5 a ha)⟩
          rw [upd_ne (ne_of (sB _ _ e1) hdB (by intro z; cases z))]
          exact sB _ _ e1
    · rintro σ HH ⟨a2, sp, rw, ro, rfl, gw, hdS, rl, xr, gt, hk⟩
      have nS : ∀ {b : Addr} {u : HO}, H9 b = some u → (∀ kv, u ≠ .dK kv) → HH b = some u := fun {b u} e n => gw b u (ne_of e hdS9 (n _)) e
      have ts : TupS H9 HH := TupS.grow gw fun xs z => by rw [hdS9] at z; cases z
      have nd : ∀ {b : Addr} {r : Ro} {u : HO}, ro9 b = some r → r ≠ .dS → H9 b = some u → HH b = some u := fun hb n e => gw _ _ (ne_ro hb R_S n) e
      have lin : ∀ {src : Nat → List V} {b : Addr} {xs : List (Option (Tl Nat))}, LineAt src H9 b xs → LineAt src HH b xs := fun {src b xs} h => by
        obtain ⟨vs, q, p⟩ := h
        exact ⟨vs, nS q (fun _ z => by cases z), Paired.mapP p fun _ _ z => z.stay ts⟩
      refine k HH ⟨⟨⟨dW, dL, dF, dS, lL, lF, sp, rw⟩, ro, ?_, rl.nw⟩, gt.gx, gt.tb⟩
      exact ⟨⟨dx, nS ht9 (fun _ z => by cases z)⟩, ⟨f, nd R_W (by simp) hdW9, fun j => (hf9 j).stay ts⟩, nd R_L (by simp) hdL9, nd R_F (by simp) hdF9, hdS, fun j => lin (hlL9 j), fun j => lin (hlF9 j), fun j => (hk j (kx_lt j)).1, fun j => (hk j (kx_lt j)).2.1, fun j => (hk j (kx_lt j)).2.2.1,
        xr _ _ R_t, xr _ _ R_W, xr _ _ R_L, xr _ _ R_F, xr _ _ R_S, fun j => xr _ _ (R_ln j), fun j => xr _ _ (R_fl j), fun j => (hk j (kx_lt j)).2.2.2.1, fun j => (hk j (kx_lt j)).2.2.2.2, rl.al⟩
end

end Gr

namespace Gr
open PySem PySem.Spec PyProof.Rows L2
local macro_rules | `(tactic| walk_at "n") => `(tactic| try simp only [u_tVar, u_tC, u_tB, u_tTest, u_tAnd, u_tOr, u_tNot, u_tAndV, u_tOrV, u_tNotV, u_tIf, u_tNext, u_tSeq, u_tBreak, u_tCont, u_tDrop, u_tRet, u_tRetN, u_tIfS, u_tNever, u_gName, u_tAsg, u_tPar, u_gSub, u_tOp, u_tUn, u_tChain, u_tNil, u_tCons, u_tTup, u_tLst, u_tCB, u_tCall, u_tNoPart, u_tPart, u_tSl, u_tYes, u_iList', u_iTup', u_tLc, u_tDc, u_tFor, u_iRng1, u_iRng2, u_iEnum, u_iEnumT, u_iZip, u_iZip3, L2.wipe, u_sDPut', u_tDGet', u_tDNewK, u_tFld', u_sFld, u_gTup, u_gCons, u_gNil, u_tMeth, u_tMake, u_tMethC, u_tNdefM, u_tCallL, u_tLstRg, v_rI0, v_rI, v_eqI, v_neI, v_eqS, v_neS, v_bl, v_int, v_ref, v_some, v_two, w_insert_tell, w_remove_tell, w_remove_insert, w_move_tell, w_move_insert, w_move_remove, w_copy_tell, w_copy_insert, w_copy_remove, w_copy_move, w_rows_table, w_columns_table, w_cells_table, w_rows_cells, w_columns_cells, w_columns_rows, w_cells_rows, w_cells_columns, w_rows_columns, w_table_cells, w_table_rows, w_table_columns, w_column_row, w_plain_like, w_like_plain, w_old_new, w_new_old, w_newest_nearest, w_nearest_newest, w_ink_ground, w_ink_face, w_ground_ink, w_ground_face, w_face_ink, w_face_ground, w_whole_lanes, w_whole_files, w_whole_spots, w_lanes_files, w_lanes_spots, w_files_spots, List.getElem?_cons_zero, List.getElem?_cons_succ, List.set_cons_zero, List.set_cons_succ, List.append_nil, Bool.not_true, Bool.not_false, eq_self, if_true, Bool.false_eq_true, if_false, decide_true, decide_false, v_max, v_min, v_intQ, v_isN, v_notN, reduceCtorEq, Nat.reduceAdd, Nat.zero_add, Int.cast_ofNat_Int, Int.reduceEq, Int.reduceLE, Int.reduceLT, Int.reduceAdd, List.cons_append, List.nil_append, List.map_cons, List.map_nil, Sc.vs, ov, De.vs, how, List.length_cons, List.length_nil])
local macro_rules | `(tactic| walk_at "x") => `(tactic| first | refine ixT (by assumption) rfl ?_ | refine ixL (by assumption) rfl ?_ | refine lenT (by assumption) rfl ?_ | refine lenL (by assumption) rfl ?_ | refine isi (.base (.int _)) kit_int_int ?_ | refine isi (.base (.int _)) kit_int_str ?_ | refine isi (.base (.int _)) kit_int_bool ?_ | refine isi (.base (.int _)) kit_int_tuple ?_ | refine isi (.base (.int _)) kit_int_list ?_ | refine isi (.base (.str _)) kit_str_int ?_ | refine isi (.base (.str _)) kit_str_str ?_ | refine isi (.base (.str _)) kit_str_bool ?_ | refine isi (.base (.str _)) kit_str_tuple ?_ | refine isi (.base (.str _)) kit_str_list ?_ | refine isi (.base (.bl _)) kit_bool_int ?_ | refine isi (.base (.bl _)) kit_bool_str ?_ | refine isi (.base (.bl _)) kit_bool_bool ?_ | refine isi (.base (.bl _)) kit_bool_tuple ?_ | refine isi (.base (.bl _)) kit_bool_list ?_ | refine isi (.base (.tup (by assumption))) kit_tuple_int ?_ | refine isi (.base (.tup (by assumption))) kit_tuple_str ?_ | refine isi (.base (.tup (by assumption))) kit_tuple_bool ?_ | refine isi (.base (.tup (by assumption))) kit_tuple_tuple ?_ | refine isi (.base (.tup (by assumption))) kit_tuple_list ?_ | refine isi (.base (.lst (by assumption))) kit_list_int ?_ | refine isi (.base (.lst (by assumption))) kit_list_str ?_ | refine isi (.base (.lst (by assumption))) kit_list_bool ?_ | refine isi (.base (.lst (by assumption))) kit_list_tuple ?_ | refine isi (.base (.lst (by assumption))) kit_list_list ?_ | refine isi (.base (.non)) kit_NoneType_int ?_ | refine isi (.base (.non)) kit_NoneType_str ?_ | refine isi (.base (.non)) kit_NoneType_bool ?_ | refine isi (.base (.non)) kit_NoneType_tuple ?_ | refine isi (.base (.non)) kit_NoneType_list ?_)
local macro_rules | `(tactic| walk_at "g") => `(tactic| (repeat (walk_at "n"; walk_at "x")); walk_at "n")

-- Gr5
theorem setK_setK {β : Type} (f : Kd → β) (k : Kd) (x y : β) : setK (setK f k x) k y = setK f k y := by
  funext j
  unfold setK
  split <;> rfl
theorem setK_self {β : Type} (f : Kd → β) (k : Kd) : setK f k (f k) = f := by
  funext j
  unfold setK
  split
  · rename_i e
    rw [e]
  · rfl
theorem modN_get {α : Type} (a : Nat) (g : α → α) : ∀ (n : Nat) (xs : List α) (i : Nat), a + n ≤ i → (modN a g n xs)[i]? = xs[i]?
  | 0, _, _, _ => rfl
  | n + 1, xs, i, h => by
    have e : ¬ a + n = i := by omega
    rw [modN, List.getElem?_modify, modN_get a g n xs i (by omega)]
    simp [e]
theorem modN_succ {α : Type} (a : Nat) (g : α → α) (n : Nat) (xs : List α) {x : α} (h : xs[a + n]? = some x) : modN a g (n + 1) xs = (modN a g n xs).set (a + n) (g x) := by
  have q := modN_get a g n xs (a + n) (Nat.le_refl _)
  rw [h] at q
  rw [modN]
  apply List.ext_getElem?
  intro j
  rw [List.getElem?_modify, List.getElem?_set]
  have hl := (List.getElem?_eq_some_iff.mp q).1
  by_cases e : a + n = j
  · subst e
    have e2 := (List.getElem?_eq_some_iff.mp q).2
    simp [hl, e2]
  · simp [e]
theorem set_self {α : Type} {xs : List α} {i : Nat} {x : α} (h : xs[i]? = some x) : xs.set i x = xs := by
  apply List.ext_getElem?
  intro j
  rw [List.getElem?_set]
  by_cases e : i = j
  · subst e
    have hl := (List.getElem?_eq_some_iff.mp h).1
    rw [if_pos rfl, if_pos hl, h]
  · rw [if_neg e]
section
variable {P : Program} {w : World} {K : PySem.W.Frag} {mg : Str → Option Value} {fds : Str → FuncData} {base : Heap}
abbrev s_tell : Stmt := inClass (top 20) 1
abbrev N_tell : List Str := ["self", "scope", "kind", "telling", "row", "at", "lane"]
theorem sc_tell : FnScope N_tell ["self", "scope", "kind", "telling"] (defScope s_tell) := ⟨rfl, rfl, rfl, by decide +kernel, rfl, by decide +kernel, by decide +kernel⟩
def spTell (K : PySem.W.Frag) (Tb : List NdefX.NTab) : Sp := fun vs H Q _ => ∃ (t q : Addr) (s : Sc) (k : Kd) (v : V) (x : Option (Nat × Nat)) (T : Tr) (n m : Nat) (H0 : Hp), vs = [.ref t, .ref q, .str k.s, v] ∧ H q = some (.tup s.vs) ∧ s.ok ∧ NewAt H v x ∧ TrIn K Tb H0 H t T ∧ T.Wf n m ∧ 10 ≤ n ∧ n ≤ 200 ∧ 10 ≤ m ∧ m ≤ 200 ∧
  ∀ H', TrIn K Tb H0 H' t (T.tell s k x) → Q .non H'
theorem ok_tell (T : Txt K mg fds) (Tb : List NdefX.NTab) : FnOk P w K mg base CX0 2 (He.ma K (He.ga K "Trace") "tell") (fds "Trace.tell") ["self", "scope", "kind", "telling"] (spTell K Tb) := by
  refine T.e_tell.fn.ok sc_tell (fun vs H Q E h => ?_) (fun cdv A outer s H vs Q E hr h => ?_)
  · obtain ⟨t, q, s, k, v, x, T, n, m, H0, rfl, _⟩ := h; rfl
  · obtain ⟨t, q, sc, k, v, x, Z, n, n2, H0, rfl, hq, hok, hv, hin, wf, hn, hn2, hn3, hn4, kk⟩ := h
    have nd := sc_tell.nd
    obtain ⟨o, ro, hx⟩ := hin.x
    obtain ⟨dx, hob⟩ := hx.ob
    refine ⟨_, PSs.nox (pss_one (ps_if (pt_cmpR op_eq (pe_ix ix_tup (pv 1) pe_int (fun _ _ => rfl)) pe_str (nomark _))
        (pss_one (ps_dput (ru hr) (pe_fld (pv 0) rfl) (pv 2) (pv 3) rfl))
        (pss_one (ps_if (pt_cmpR op_eq (pe_ix ix_tup (pv 1) pe_int (fun _ _ => rfl)) pe_str (nomark _))
          (pss_one (ps_for PassesOwn.never rfl (pi_range2 (by rfl) T.g_range (pa_cons (pe_ix ix_tup (pv 1) pe_int (fun _ _ => rfl)) (pa_cons (pe_op op_add (pe_ix ix_tup (pv 1) pe_int (fun _ _ => rfl)) pe_int) pa_nil))) (pg_name (i := 4) nd rfl (by first | exact Or.inl rfl | exact Or.inr rfl))
            (pss_one (ps_for PassesOwn.never rfl (pi_range2 (by rfl) T.g_range (pa_cons (pe_ix ix_tup (pv 1) pe_int (fun _ _ => rfl)) (pa_cons (pe_op op_add (pe_ix ix_tup (pv 1) pe_int (fun _ _ => rfl)) pe_int) pa_nil))) (pg_name (i := 5) nd rfl (by first | exact Or.inl rfl | exact Or.inr rfl))
              (pss_one (ps_asg (pv 3) (pg_sub (pe_ix ix_list (pe_dget (ru hr) (pe_fld (pv 0) rfl) (pv 2) (fun _ _ => rfl)) (pv 4) (fun _ _ => rfl)) (pv 5) set_list)))))))
          (pss_cons (ps_set (i := 6) nd rfl (by first | exact Or.inl rfl | exact Or.inr rfl) (pe_ifExp (pt_cmpR op_eq (pe_ix ix_tup (pv 1) pe_int (fun _ _ => rfl)) pe_str (nomark _)) (pe_dget (ru hr) (pe_fld (pv 0) rfl) (pv 2) (fun _ _ => rfl)) (pe_dget (ru hr) (pe_fld (pv 0) rfl) (pv 2) (fun _ _ => rfl))))
          (pss_one (ps_for PassesOwn.never rfl (pi_range2 (by rfl) T.g_range (pa_cons (pe_ix ix_tup (pv 1) pe_int (fun _ _ => rfl)) (pa_cons (pe_ifExp (pt_cmpR op_isQ (pe_ix ix_tup (pv 1) pe_int (fun _ _ => rfl)) pe_non (nomark _)) (pe_callB call_lenQ (by rfl) T.g_len (by decide +kernel) (pa_cons (pv 6) pa_nil)) (pe_op op_add (pe_ix ix_tup (pv 1) pe_int (fun _ _ => rfl)) pe_int)) pa_nil))) (pg_name (i := 5) nd rfl (by first | exact Or.inl rfl | exact Or.inr rfl))
            (pss_one (ps_asg (pv 3) (pg_sub (pv 6) (pv 5) set_list)))))))))), ?_⟩
    rw [show L2.start N_tell [.ref t, .ref q, .str k.s, v] = [some (.ref t), some (.ref q), some (.str k.s), some v, none, none, none] from rfl]
    cases sc with
    | table =>
      walk_at "g"
      refine fldG hob T.k_Trace T.n_whole (fsT_whole _ _ _ _) ?_
      walk_at "g"
      obtain ⟨f, hf, hw⟩ := hx.at_.w
      refine kdPut hf (kk _ (TrX.in_ (o := o) (ro := ro) ?_))
      exact hx.wr hx.at_.r_W hf (fun _ z => by cases z) (fun _ z => by cases z) (hx.at_.put_W k hv.tl hf hw) hx.nw
    | cells tp bt l r =>
      obtain ⟨h1, h2, h3, h4⟩ := hok
      walk_at "g"
      refine rg2 (by omega) (by omega) (by omega) (by omega) ?_
      rw [show ((bt : Int) + 1 - (tp : Int)).toNat = bt + 1 - tp by omega]
      refine forW (n := bt + 1 - tp) (G := fun _ => True) walk_range (fun i σ HH => ∃ (a4 a5 : Option V), σ = [some (.ref t), some (.ref q), some (.str k.s), some v, a4, a5, none] ∧ HH q = some (.tup (Sc.cells tp bt l r).vs) ∧ NewAt HH v x ∧ TrX K Tb H0 HH t { Z with spots := setK Z.spots k (modN tp (setN l (mkT x) (r + 1 - l)) i (Z.spots k)) } o ro) ?_ (fun _ _ _ _ _ => trivial) ?_ ?_
      · refine ⟨none, none, rfl, hq, hv, ?_⟩
        rw [modN, setK_self]
        exact hx
      · rintro i y σ H2 HH hi ⟨a4, a5, rfl, hq, hv, hx⟩ ⟨rfl, rfl⟩
        have hrow : ∃ rw0, (Z.spots k)[tp + i]? = some rw0 := ⟨_, List.getElem?_eq_getElem (by rw [wf.sp k]; omega)⟩
        obtain ⟨rw0, hrw⟩ := hrow
        have hrl := wf.rw k rw0 (List.mem_of_getElem? hrw)
        have hY := modN_get tp (setN l (mkT x) (r + 1 - l)) i (Z.spots k) (tp + i) (Nat.le_refl _)
        rw [hrw] at hY
        have hpr := (hx.at_.rw k).length
        have hlY : tp + i < (setK Z.spots k (modN tp (setN l (mkT x) (r + 1 - l)) i (Z.spots k)) k).length := by
          rw [setK_same, modN_length, wf.sp k]
          omega
        obtain ⟨a, ha⟩ : ∃ a, (o.rw k)[tp + i]? = some a := ⟨_, List.getElem?_eq_getElem (by rw [hpr]; exact hlY)⟩
        walk_at "g"
        refine rg2 (by omega) (by omega) (by omega) (by omega) ?_
        rw [show ((r : Int) + 1 - (l : Int)).toNat = r + 1 - l by omega]
        refine forW (n := r + 1 - l) (G := fun _ => True) walk_range (fun j σ HH => ∃ (a5 : Option V), σ = [some (.ref t), some (.ref q), some (.str k.s), some v, some (.int ((tp : Int) + (i : Int))), a5, none] ∧ HH q = some (.tup (Sc.cells tp bt l r).vs) ∧ NewAt HH v x ∧ TrX K Tb H0 HH t { Z with spots := setK Z.spots k ((modN tp (setN l (mkT x) (r + 1 - l)) i (Z.spots k)).set (tp + i) (setN l (mkT x) j rw0)) } o ro) ?_ (fun _ _ _ _ _ => trivial) ?_ ?_
        · refine ⟨a5, rfl, hq, hv, ?_⟩
          rw [setN, set_self hY]
          exact hx
        · rintro j y σ H2 HH hj ⟨a5, rfl, hq, hv, hx⟩ ⟨rfl, rfl⟩
          obtain ⟨dx, hob⟩ := hx.ob
          obtain ⟨ys, hys, us, hu, pu⟩ := paired_get (hx.at_.rw k) ha
          have hys : (setK Z.spots k ((modN tp (setN l (mkT x) (r + 1 - l)) i (Z.spots k)).set (tp + i) (setN l (mkT x) j rw0)) k)[tp + i]? = some ys := hys
          rw [setK_same, List.getElem?_set_self (by rw [setK_same] at hlY; exact hlY)] at hys
          cases hys
          have ul := pu.length
          rw [setN_length, hrl] at ul
          walk_at "g"
          refine fldG hob T.k_Trace T.n_spots (fsT_spots _ _ _ _) ?_
          walk_at "n"
          refine kdGet hx.at_.s ?_
          walk_at "n"
          have hra : ((o.rw k).map V.ref)[tp + i]? = some (.ref a) := by rw [List.getElem?_map, ha]; rfl
          rw [show ((tp : Int) + (i : Int)) = ((tp + i : Nat) : Int) by omega]
          refine ixLn (hx.at_.sp k) hra ?_
          walk_at "n"
          rw [show ((l : Int) + (j : Int)) = ((l + j : Nat) : Int) by omega]
          refine setL hu (by omega) ?_
          have hx2 := hx.put_rw k ha (paired_set pu hv.tl (l + j))
          have e : (setK Z.spots k ((modN tp (setN l (mkT x) (r + 1 - l)) i (Z.spots k)).set (tp + i) (setN l (mkT x) j rw0))) k = (modN tp (setN l (mkT x) (r + 1 - l)) i (Z.spots k)).set (tp + i) (setN l (mkT x) j rw0) := setK_same _ _ _
          dsimp only at hx2
          rw [e, setK_setK, List.set_set] at hx2
          have ts : TupS HH (upd HH a (.lst (us.set (l + j) v))) := TupS.upd fun xs z => by rw [hu] at z; cases z
          refine ⟨_, rfl, ts _ _ hq, hv.stay ts, ?_⟩
          exact hx2
        · rintro σ HH ⟨a5, rfl, hq, hv, hx⟩
          refine ⟨_, _, rfl, hq, hv, ?_⟩
          rw [modN_succ _ _ _ _ hrw]
          exact hx
      · rintro σ HH ⟨a4, a5, rfl, hq, hv, hx⟩
        exact kk _ hx.in_
    | rows a b =>
      obtain ⟨h1, h2⟩ := hok
      have hlen := wf.ln k
      have loop : ∀ m : Nat, a + m ≤ n → (∀ H1, TrIn K Tb H0 H1 t { Z with lanes := setK Z.lanes k (setN a (mkT x) m (Z.lanes k)) } → Q .non H1) → ForT (Itr (a : Int) m) (gName 5) (tAsg (tVar 3) (gSub (tVar 6) (tVar 5) rSetL)) { nx := fun _ H1 => Q V.non H1, rt := Q } [some (.ref t), some (.ref q), some (.str k.s), some v, none, none, some (.ref (o.ln k))] H := by
        intro m hm fin
        refine forW (n := m) (G := fun _ => True) walk_range (fun i σ HH => ∃ (a5 : Option V), σ = [some (.ref t), some (.ref q), some (.str k.s), some v, none, a5, some (.ref (o.ln k))] ∧ NewAt HH v x ∧ TrX K Tb H0 HH t { Z with lanes := setK Z.lanes k (setN a (mkT x) i (Z.lanes k)) } o ro) ?_ (fun _ _ _ _ _ => trivial) ?_ ?_
        · refine ⟨none, rfl, hv, ?_⟩
          rw [setN, setK_self]
          exact hx
        · rintro i y σ H2 HH hi ⟨a5, rfl, hv, hx⟩ ⟨rfl, rfl⟩
          obtain ⟨us, hu, pu⟩ := hx.at_.ln k
          have pu : Paired (TlAt srcR HH) us (setK Z.lanes k (setN a (mkT x) i (Z.lanes k)) k) := pu
          rw [setK_same] at pu
          have ul := pu.length
          rw [setN_length, hlen] at ul
          walk_at "g"
          rw [show ((a : Int) + (i : Int)) = ((a + i : Nat) : Int) by omega]
          refine setL hu (by omega) ?_
          have hx2 := hx.put_ln k (paired_set pu hv.tl (a + i))
          dsimp only at hx2
          rw [setK_setK] at hx2
          exact ⟨_, rfl, hv.stay (TupS.upd fun xs z => by rw [hu] at z; cases z), hx2⟩
        · rintro σ HH ⟨a5, rfl, hv, hx⟩
          exact fin _ hx.in_
      walk_at "g"
      refine fldG hob T.k_Trace T.n_lanes (fsT_lanes _ _ _ _) ?_
      walk_at "n"
      refine kdGet hx.at_.l ?_
      obtain ⟨us, hu, pu⟩ := hx.at_.ln k
      have ul := pu.length
      cases b with
      | none =>
        walk_at "g"
        refine rg2 (by omega) (by omega) (by omega) (by omega) ?_
        rw [show ((us.length : Int) - (a : Int)).toNat = (Z.lanes k).length - a by omega]
        exact loop _ (by omega) kk
      | some b =>
        have := h2 b rfl
        walk_at "g"
        refine rg2 (by omega) (by omega) (by omega) (by omega) ?_
        rw [show ((b : Int) + 1 - (a : Int)).toNat = b + 1 - a by omega]
        exact loop _ (by omega) kk
    | cols a b =>
      obtain ⟨h1, h2⟩ := hok
      have hlen := wf.fl k
      have loop : ∀ m : Nat, a + m ≤ n2 → (∀ H1, TrIn K Tb H0 H1 t { Z with files := setK Z.files k (setN a (mkT x) m (Z.files k)) } → Q .non H1) → ForT (Itr (a : Int) m) (gName 5) (tAsg (tVar 3) (gSub (tVar 6) (tVar 5) rSetL)) { nx := fun _ H1 => Q V.non H1, rt := Q } [some (.ref t), some (.ref q), some (.str k.s), some v, none, none, some (.ref (o.fl k))] H := by
        intro m hm fin
        refine forW (n := m) (G := fun _ => True) walk_range (fun i σ HH => ∃ (a5 : Option V), σ = [some (.ref t), some (.ref q), some (.str k.s), some v, none, a5, some (.ref (o.fl k))] ∧ NewAt HH v x ∧ TrX K Tb H0 HH t { Z with files := setK Z.files k (setN a (mkT x) i (Z.files k)) } o ro) ?_ (fun _ _ _ _ _ => trivial) ?_ ?_
        · refine ⟨none, rfl, hv, ?_⟩
          rw [setN, setK_self]
          exact hx
        · rintro i y σ H2 HH hi ⟨a5, rfl, hv, hx⟩ ⟨rfl, rfl⟩
          obtain ⟨us, hu, pu⟩ := hx.at_.fl k
          have pu : Paired (TlAt srcF HH) us (setK Z.files k (setN a (mkT x) i (Z.files k)) k) := pu
          rw [setK_same] at pu
          have ul := pu.length
          rw [setN_length, hlen] at ul
          walk_at "g"
          rw [show ((a : Int) + (i : Int)) = ((a + i : Nat) : Int) by omega]
          refine setL hu (by omega) ?_
          have hx2 := hx.put_fl k (paired_set pu hv.tl (a + i))
          dsimp only at hx2
          rw [setK_setK] at hx2
          exact ⟨_, rfl, hv.stay (TupS.upd fun xs z => by rw [hu] at z; cases z), hx2⟩
        · rintro σ HH ⟨a5, rfl, hv, hx⟩
          exact fin _ hx.in_
      walk_at "g"
      refine fldG hob T.k_Trace T.n_files (fsT_files _ _ _ _) ?_
      walk_at "n"
      refine kdGet hx.at_.f ?_
      obtain ⟨us, hu, pu⟩ := hx.at_.fl k
      have ul := pu.length
      cases b with
      | none =>
        walk_at "g"
        refine rg2 (by omega) (by omega) (by omega) (by omega) ?_
        rw [show ((us.length : Int) - (a : Int)).toNat = (Z.files k).length - a by omega]
        exact loop _ (by omega) kk
      | some b =>
        have := h2 b rfl
        walk_at "g"
        refine rg2 (by omega) (by omega) (by omega) (by omega) ?_
        rw [show ((b : Int) + 1 - (a : Int)).toNat = b + 1 - a by omega]
        exact loop _ (by omega) kk
end

end Gr

namespace Gr
open PySem PySem.Spec PyProof.Rows L2
local macro_rules | `(tactic| walk_at "n") => `(tactic| try simp only [u_tVar, u_tC, u_tB, u_tTest, u_tAnd, u_tOr, u_tNot, u_tAndV, u_tOrV, u_tNotV, u_tIf, u_tNext, u_tSeq, u_tBreak, u_tCont, u_tDrop, u_tRet, u_tRetN, u_tIfS, u_tNever, u_gName, u_tAsg, u_tPar, u_gSub, u_tOp, u_tUn, u_tChain, u_tNil, u_tCons, u_tTup, u_tLst, u_tCB, u_tCall, u_tNoPart, u_tPart, u_tSl, u_tYes, u_iList', u_iTup', u_tLc, u_tDc, u_tFor, u_iRng1, u_iRng2, u_iEnum, u_iEnumT, u_iZip, u_iZip3, L2.wipe, u_sDPut', u_tDGet', u_tDNewK, u_tFld', u_sFld, u_gTup, u_gCons, u_gNil, u_tMeth, u_tMake, u_tMethC, u_tNdefM, u_tCallL, u_tLstRg, v_rI0, v_rI, v_eqI, v_neI, v_eqS, v_neS, v_bl, v_int, v_ref, v_some, v_two, w_insert_tell, w_remove_tell, w_remove_insert, w_move_tell, w_move_insert, w_move_remove, w_copy_tell, w_copy_insert, w_copy_remove, w_copy_move, w_rows_table, w_columns_table, w_cells_table, w_rows_cells, w_columns_cells, w_columns_rows, w_cells_rows, w_cells_columns, w_rows_columns, w_table_cells, w_table_rows, w_table_columns, w_column_row, w_plain_like, w_like_plain, w_old_new, w_new_old, w_newest_nearest, w_nearest_newest, w_ink_ground, w_ink_face, w_ground_ink, w_ground_face, w_face_ink, w_face_ground, w_whole_lanes, w_whole_files, w_whole_spots, w_lanes_files, w_lanes_spots, w_files_spots, List.getElem?_cons_zero, List.getElem?_cons_succ, List.set_cons_zero, List.set_cons_succ, List.append_nil, Bool.not_true, Bool.not_false, eq_self, if_true, Bool.false_eq_true, if_false, decide_true, decide_false, v_max, v_min, v_intQ, v_isN, v_notN, reduceCtorEq, Nat.reduceAdd, Nat.zero_add, Int.cast_ofNat_Int, Int.reduceEq, Int.reduceLE, Int.reduceLT, Int.reduceAdd, List.cons_append, List.nil_append, List.map_cons, List.map_nil, Sc.vs, ov, De.vs, how, List.length_cons, List.length_nil])
local macro_rules | `(tactic| walk_at "x") => `(tactic| first | refine ixT (by assumption) rfl ?_ | refine ixL (by assumption) rfl ?_ | refine lenT (by assumption) rfl ?_ | refine lenL (by assumption) rfl ?_ | refine isi (.base (.int _)) kit_int_int ?_ | refine isi (.base (.int _)) kit_int_str ?_ | refine isi (.base (.int _)) kit_int_bool ?_ | refine isi (.base (.int _)) kit_int_tuple ?_ | refine isi (.base (.int _)) kit_int_list ?_ | refine isi (.base (.str _)) kit_str_int ?_ | refine isi (.base (.str _)) kit_str_str ?_ | refine isi (.base (.str _)) kit_str_bool ?_ | refine isi (.base (.str _)) kit_str_tuple ?_ | refine isi (.base (.str _)) kit_str_list ?_ | refine isi (.base (.bl _)) kit_bool_int ?_ | refine isi (.base (.bl _)) kit_bool_str ?_ | refine isi (.base (.bl _)) kit_bool_bool ?_ | refine isi (.base (.bl _)) kit_bool_tuple ?_ | refine isi (.base (.bl _)) kit_bool_list ?_ | refine isi (.base (.tup (by assumption))) kit_tuple_int ?_ | refine isi (.base (.tup (by assumption))) kit_tuple_str ?_ | refine isi (.base (.tup (by assumption))) kit_tuple_bool ?_ | refine isi (.base (.tup (by assumption))) kit_tuple_tuple ?_ | refine isi (.base (.tup (by assumption))) kit_tuple_list ?_ | refine isi (.base (.lst (by assumption))) kit_list_int ?_ | refine isi (.base (.lst (by assumption))) kit_list_str ?_ | refine isi (.base (.lst (by assumption))) kit_list_bool ?_ | refine isi (.base (.lst (by assumption))) kit_list_tuple ?_ | refine isi (.base (.lst (by assumption))) kit_list_list ?_ | refine isi (.base (.non)) kit_NoneType_int ?_ | refine isi (.base (.non)) kit_NoneType_str ?_ | refine isi (.base (.non)) kit_NoneType_bool ?_ | refine isi (.base (.non)) kit_NoneType_tuple ?_ | refine isi (.base (.non)) kit_NoneType_list ?_)
local macro_rules | `(tactic| walk_at "g") => `(tactic| (repeat (walk_at "n"; walk_at "x")); walk_at "n")

-- Gr5
/-! ### shift -/
def spLine (gV : List V → List V) (R : Nat → Prop) : Sp := fun vs H Q _ => ∃ (l : Addr) (xs : List V), vs = [.ref l] ∧ H l = some (.lst xs) ∧ R xs.length ∧ xs.length ≤ 200 ∧ ∀ H' l', Same H H' → H l' = none → H' l' = some (.lst (gV xs)) → Q (.ref l') H'
abbrev Spot : Type := Option (Tl (Nat × Nat))
def spRows (gS : List (List Spot) → List (List Spot)) (R : Nat → Prop) : Sp := fun vs H Q _ => ∃ (s : Addr) (as : List Addr) (xss : List (List Spot)) (n m : Nat), vs = [.ref s] ∧ H s = some (.lst (as.map V.ref)) ∧ Paired (LineAt srcC H) as xss ∧ as.Nodup ∧ xss.length = n ∧ (∀ r ∈ xss, r.length = m) ∧ R n ∧ n ≤ 200 ∧ m ≤ 200 ∧
  ∀ H' s' as', Same H H' → H s' = none → H' s' = some (.lst (as'.map V.ref)) → as'.Nodup → (∀ a ∈ as', a ∈ as ∨ H a = none) → s' ∉ as' → Paired (LineAt srcC H') as' (gS xss) → Q (.ref s') H'
/-- what a shift is handed: the change of a line, of the rows -/
structure Chg (P : Program) (w : World) (K : PySem.W.Frag) (mg : Str → Option Value) (base : Heap) (φ : Hp → Prop) (fL fS : Addr) (gV : List V → List V) (gl : ∀ {α : Type}, List (Option (Tl α)) → List (Option (Tl α))) (gS : List (List Spot) → List (List Spot)) (R : Nat → Prop) : Prop where
  fnL : ∀ H, φ H → ∃ F, H fL = some (NdefX.FnO fL F)
  fnS : ∀ H, φ H → ∃ F, H fS = some (NdefX.FnO fS F)
  callL : Callable P w K mg base 1 fL φ (spLine gV R)
  callS : Callable P w K mg base 1 fS φ (spRows gS R)
  rel : ∀ {α : Type} {F : V → Option (Tl α) → Prop} {vs : List V} {xs : List (Option (Tl α))}, F .non none → Paired F vs xs → R xs.length → Paired F (gV vs) (gl xs)
  keep : ∀ H H', KpX H H' → φ H → φ H'
def Tr.chg (T : Tr) (x : Ax) (gl : ∀ {α : Type}, List (Option (Tl α)) → List (Option (Tl α))) (gS : List (List Spot) → List (List Spot)) : Tr := match x with
  | .row => { T with lanes := fun k => gl (T.lanes k), spots := fun k => gS (T.spots k) }
  | .col => { T with files := fun k => gl (T.files k), spots := fun k => (T.spots k).map gl }
def upTo {β : Type} (i : Nat) (f g : Kd → β) : Kd → β := fun k => if kx k < i then g k else f k
theorem upTo_0 {β : Type} (f g : Kd → β) : upTo 0 f g = f := by
  funext k
  unfold upTo
  rw [if_neg (by omega)]
theorem upTo_3 {β : Type} (f g : Kd → β) : upTo 3 f g = g := by
  funext k
  unfold upTo
  rw [if_pos (kx_lt k)]
theorem upTo_set {β : Type} {i : Nat} (h : i < 3) (f g : Kd → β) : setK (upTo i f g) (kof i) (g (kof i)) = upTo (i + 1) f g := by
  funext k
  unfold setK upTo
  by_cases e : k = kof i
  · subst e
    rw [if_pos rfl, if_pos (by rw [kx_kof h]; omega)]
  · rw [if_neg e]
    by_cases h2 : kx k < i
    · rw [if_pos h2, if_pos (by omega)]
    · rw [if_neg h2, if_neg fun z => by
        rcases lt_succ_kx h z with q | q
        · exact e q
        · exact h2 q.2]
theorem upTo_at {β : Type} {i : Nat} (h : i < 3) (f g : Kd → β) : upTo i f g (kof i) = f (kof i) := by
  unfold upTo
  rw [if_neg (by rw [kx_kof h]; omega)]
section
variable {P : Program} {w : World} {K : PySem.W.Frag} {mg : Str → Option Value} {fds : Str → FuncData} {base : Heap}
abbrev s_shift0 : Stmt := inClass (top 20) 2
abbrev sc_sh : Scope := rsc (valOf (stAt (ifElse (stAt (forBody (stAt (defBody s_shift0) 0)) 0)) 1)) (defScope s_shift0)
abbrev s_shift : Stmt := inClass (top 20) 2
abbrev N_shift : List Str := ["self", "axis", "change_lane", "change_spots", "kind", "row"]
theorem sc_shift : FnScope N_shift ["self", "axis", "change_lane", "change_spots"] (defScope s_shift) := ⟨rfl, rfl, rfl, by decide +kernel, rfl, by decide +kernel, by decide +kernel⟩
def spShift (P : Program) (w : World) (K : PySem.W.Frag) (mg : Str → Option Value) (base : Heap) (Tb : List NdefX.NTab) : Sp := fun vs H Q _ => ∃ (t fL fS : Addr) (x : Ax) (φ : Hp → Prop) (gV : List V → List V) (gl : ∀ {α : Type}, List (Option (Tl α)) → List (Option (Tl α))) (gS : List (List Spot) → List (List Spot)) (R : Nat → Prop) (T : Tr) (n m : Nat) (H0 : Hp), vs = [.ref t, .str x.s, .ref fL, .ref fS] ∧
  Chg P w K mg base φ fL fS gV gl gS R ∧ φ H ∧ TrIn K Tb H0 H t T ∧ T.Wf n m ∧ R n ∧ n ≤ 200 ∧ R m ∧ m ≤ 200 ∧ ∀ H', TrIn K Tb H0 H' t (T.chg x gl gS) → Q .non H'
theorem ok_shift (T : Txt K mg fds) (Tb : List NdefX.NTab) : FnOk P w K mg base CX0 3 (He.ma K (He.ga K "Trace") "shift") (fds "Trace.shift") ["self", "axis", "change_lane", "change_spots"] (spShift P w K mg base Tb) := by
  refine T.e_shift.fn.ok sc_shift (fun vs H Q E h => ?_) (fun cdv A outer s H vs Q E hr h => ?_)
  · obtain ⟨t, fL, fS, x, φ, gV, gl, gS, R, T, n, m, H0, rfl, _⟩ := h; rfl
  · obtain ⟨t, fL, fS, x, φ, gV, gl, gS, R, Z, n, m, H0, rfl, C, hφ, hin, wf, hRn, hn, hRm, hm, kk⟩ := h
    have nd := sc_shift.nd
    refine ⟨_, PSs.nox (pss_one (ps_for PassesOwn.never rfl (pi_tup (pe_glob (v := .ref (He.ga K "KINDS")) rfl T.m_KINDS rfl)) (pg_name (i := 4) nd rfl (by first | exact Or.inl rfl | exact Or.inr rfl))
        (pss_one (ps_if (pt_cmpR op_eq (pv 1) pe_str (nomark _))
          (pss_cons (ps_dput (ru hr) (pe_fld (pv 0) rfl) (pv 4) (pe_callL (k := 1) (i := 2) hr rfl (by first | exact Or.inl rfl | exact Or.inr (Or.inl rfl) | exact Or.inr (Or.inr rfl)) (pa_cons (pe_dget (ru hr) (pe_fld (pv 0) rfl) (pv 4) (fun _ _ => rfl)) pa_nil)) rfl)
          (pss_one (ps_dput (ru hr) (pe_fld (pv 0) rfl) (pv 4) (pe_callL (k := 1) (i := 3) hr rfl (by first | exact Or.inl rfl | exact Or.inr (Or.inl rfl) | exact Or.inr (Or.inr rfl)) (pa_cons (pe_dget (ru hr) (pe_fld (pv 0) rfl) (pv 4) (fun _ _ => rfl)) pa_nil)) rfl)))
          (pss_cons (ps_dput (ru hr) (pe_fld (pv 0) rfl) (pv 4) (pe_callL (k := 1) (i := 2) hr rfl (by first | exact Or.inl rfl | exact Or.inr (Or.inl rfl) | exact Or.inr (Or.inr rfl)) (pa_cons (pe_dget (ru hr) (pe_fld (pv 0) rfl) (pv 4) (fun _ _ => rfl)) pa_nil)) rfl)
          (pss_one (ps_dput (ru hr) (pe_fld (pv 0) rfl) (pv 4) (pe_lc (own := [("row", 5)]) rfl nd (pi_list (pe_dget (ru hr) (pe_fld (pv 0) rfl) (pv 4) (fun _ _ => rfl))) (blkOk_by (N := N_shift) (sc := (defScope s_shift)) (by decide +kernel)) (fun _ _ _ _ _ => (pg_name (i := 5) nd rfl (by first | exact Or.inl rfl | exact Or.inr rfl))) (fun _ _ _ _ _ => pts_nil) (fun _ _ _ _ _ => (pe_callLK (k := 1) (K := K) (P := P) (w := w) (mg := mg) (base := base) (h := rfl) (hP := rfl) (hw := rfl) (hm := rfl) (hB := rfl) (i := 2) hr rfl (by first | exact Or.inl rfl | exact Or.inr (Or.inl rfl) | exact Or.inr (Or.inr rfl)) (pa_cons (pv 5) pa_nil)))) rfl))))))), ?_⟩
    rw [show L2.start N_shift [.ref t, .str x.s, .ref fL, .ref fS] = [some (.ref t), some (.str x.s), some (.ref fL), some (.ref fS), none, none] from rfl]
    walk_at "g"
    refine tpT (T.t_KINDS _) ?_
    have getL : ∀ {α : Type} {src : α → List V} {H1 H2 : Hp} {us : List V} {xs : List (Option (Tl α))} {l : Addr}, Paired (TlAt src H1) us xs → R xs.length → Same H1 H2 → H2 l = some (.lst (gV us)) → LineAt src H2 l (gl xs) := fun p hR s e => ⟨_, e, C.rel rfl (Paired.mapP p fun _ _ z => z.stay (TupS.of s)) hR⟩
    have kpD : ∀ {H1 H2 : Hp} {a : Addr} {kv kv' : List (Key × V)}, Same H1 H2 → H2 a = some (.dK kv) → φ H1 → φ (upd H2 a (.dK kv')) := fun s e p => C.keep _ _ ((KpX.of s).trans (KpX.upd e (fun _ z => by cases z) fun _ _ z => by cases z)) p
    cases x with
    | row =>
      refine forW (n := 3) (G := fun H => SqT K H (He.ga K "KINDS") kvs3) (walk_tup (xs := kvs3)) (fun i σ HH => ∃ (a4 : Option V) (o : Own) (ro : Addr → Option Ro), σ = [some (.ref t), some (.str Ax.row.s), some (.ref fL), some (.ref fS), a4, none] ∧ φ HH ∧ TrX K Tb H0 HH t { Z with lanes := upTo i Z.lanes (fun k => gl (Z.lanes k)), spots := upTo i Z.spots (fun k => gS (Z.spots k)) } o ro) ?_ (fun i σ HH _ _ => T.t_KINDS HH) ?_ ?_
      · obtain ⟨o, ro, hx⟩ := hin.x
        refine ⟨none, o, ro, rfl, hφ, ?_⟩
        rw [upTo_0, upTo_0]
        exact hx
      · rintro i x σ H10 HH hi ⟨a4, o, ro, rfl, hφ, hx⟩ ⟨rfl, hix⟩
        obtain ⟨_, rfl⟩ := kvs3_get hix
        obtain ⟨dx, hob⟩ := hx.ob
        walk_at "g"
        refine ⟨fL, φ, _, rfl, C.callL, C.fnL _ hφ, ?_⟩
        walk_at "n"
        refine fldG hob T.k_Trace T.n_lanes (fsT_lanes _ _ _ _) ?_
        walk_at "n"
        refine kdGet hx.at_.l ?_
        walk_at "n"
        obtain ⟨us, hu, pu⟩ := hx.at_.ln (kof i)
        have pu : Paired (TlAt srcR HH) us (upTo i Z.lanes (fun k => gl (Z.lanes k)) (kof i)) := pu
        rw [upTo_at hi] at pu
        have ul := pu.length
        have hln := wf.ln (kof i)
        refine ⟨C.fnL _ hφ, hφ, o.ln (kof i), us, rfl, hu, by rw [ul, hln]; exact hRn, by omega, fun H1 l1 s1 n1 e1 => ?_⟩
        walk_at "n"
        have hob1 := s1 _ _ hob
        refine fldG hob1 T.k_Trace T.n_lanes (fsT_lanes _ _ _ _) ?_
        walk_at "n"
        refine kdPut (s1 _ _ hx.at_.l) ?_
        have hx2 := hx.new_ln s1 (kof i) (getL pu (by rw [hln]; exact hRn) s1 e1) n1
        have φ2 := kpD (kv' := kd (setK (fun j => V.ref (o.ln j)) (kof i) (V.ref l1))) s1 (s1 _ _ hx.at_.l) hφ
        dsimp only at hx2
        rw [upTo_set hi] at hx2
        generalize upd H1 o.dL (.dK (kd (setK (fun j => V.ref (o.ln j)) (kof i) (V.ref l1)))) = H2 at hx2 φ2 ⊢
        generalize setR ro l1 (.ln (kof i)) = ro2 at hx2
        generalize ({ o with ln := setK o.ln (kof i) l1 } : Own) = o2 at hx2
        clear hx hob hob1 hu pu ul
        obtain ⟨dx, hob⟩ := hx2.ob
        walk_at "g"
        refine ⟨fS, φ, _, rfl, C.callS, C.fnS _ φ2, ?_⟩
        walk_at "n"
        refine fldG hob T.k_Trace T.n_spots (fsT_spots _ _ _ _) ?_
        walk_at "n"
        refine kdGet hx2.at_.s ?_
        walk_at "n"
        have pr : Paired (LineAt srcC H2) (o2.rw (kof i)) (upTo i Z.spots (fun k => gS (Z.spots k)) (kof i)) := hx2.at_.rw (kof i)
        rw [upTo_at hi] at pr
        refine ⟨C.fnS _ φ2, φ2, o2.sp (kof i), o2.rw (kof i), Z.spots (kof i), n, m, rfl, hx2.at_.sp (kof i), pr, hx2.at_.nd (kof i), wf.sp _, wf.rw _, hRn, hn, hm, fun H3 s3 as3 sm n3 e3 nd3 fr3 ni3 p3 => ?_⟩
        walk_at "n"
        refine fldG (sm _ _ hob) T.k_Trace T.n_spots (fsT_spots _ _ _ _) ?_
        walk_at "n"
        refine kdPut (sm _ _ hx2.at_.s) ?_
        have hx3 := hx2.new_sp sm (kof i) e3 p3 nd3 n3 fr3 ni3
        have φ3 := kpD (kv' := kd (setK (fun j => V.ref (o2.sp j)) (kof i) (V.ref s3))) sm (sm _ _ hx2.at_.s) φ2
        dsimp only at hx3
        rw [upTo_set hi] at hx3
        exact ⟨_, _, _, rfl, φ3, hx3⟩
      · rintro σ HH ⟨a4, o, ro, rfl, hφ, hx⟩
        rw [upTo_3, upTo_3] at hx
        exact kk _ hx.in_
    | col =>
      refine forW (n := 3) (G := fun H => SqT K H (He.ga K "KINDS") kvs3) (walk_tup (xs := kvs3)) (fun i σ HH => ∃ (a4 : Option V) (o : Own) (ro : Addr → Option Ro), σ = [some (.ref t), some (.str Ax.col.s), some (.ref fL), some (.ref fS), a4, none] ∧ φ HH ∧ TrX K Tb H0 HH t { Z with files := upTo i Z.files (fun k => gl (Z.files k)), spots := upTo i Z.spots (fun k => (Z.spots k).map gl) } o ro) ?_ (fun i σ HH _ _ => T.t_KINDS HH) ?_ ?_
      · obtain ⟨o, ro, hx⟩ := hin.x
        refine ⟨none, o, ro, rfl, hφ, ?_⟩
        rw [upTo_0, upTo_0]
        exact hx
      · rintro i x σ H10 HH hi ⟨a4, o, ro, rfl, hφ, hx⟩ ⟨rfl, hix⟩
        obtain ⟨_, rfl⟩ := kvs3_get hix
        obtain ⟨dx, hob⟩ := hx.ob
        walk_at "g"
        refine ⟨fL, φ, _, rfl, C.callL, C.fnL _ hφ, ?_⟩
        walk_at "n"
        refine fldG hob T.k_Trace T.n_files (fsT_files _ _ _ _) ?_
        walk_at "n"
        refine kdGet hx.at_.f ?_
        walk_at "n"
        obtain ⟨us, hu, pu⟩ := hx.at_.fl (kof i)
        have pu : Paired (TlAt srcF HH) us (upTo i Z.files (fun k => gl (Z.files k)) (kof i)) := pu
        rw [upTo_at hi] at pu
        have ul := pu.length
        have hln := wf.fl (kof i)
        refine ⟨C.fnL _ hφ, hφ, o.fl (kof i), us, rfl, hu, by rw [ul, hln]; exact hRm, by omega, fun H1 l1 s1 n1 e1 => ?_⟩
        walk_at "n"
        have hob1 := s1 _ _ hob
        refine fldG hob1 T.k_Trace T.n_files (fsT_files _ _ _ _) ?_
        walk_at "n"
        refine kdPut (s1 _ _ hx.at_.f) ?_
        have hx2 := hx.new_fl s1 (kof i) (getL pu (by rw [hln]; exact hRm) s1 e1) n1
        have φ2 := kpD (kv' := kd (setK (fun j => V.ref (o.fl j)) (kof i) (V.ref l1))) s1 (s1 _ _ hx.at_.f) hφ
        dsimp only at hx2
        rw [upTo_set hi] at hx2
        generalize upd H1 o.dF (.dK (kd (setK (fun j => V.ref (o.fl j)) (kof i) (V.ref l1)))) = H2 at hx2 φ2 ⊢
        generalize setR ro l1 (.fl (kof i)) = ro2 at hx2
        generalize ({ o with fl := setK o.fl (kof i) l1 } : Own) = o2 at hx2
        clear hx hob hob1 hu pu ul
        obtain ⟨dx, hob⟩ := hx2.ob
        walk_at "n"
        refine fldG hob T.k_Trace T.n_spots (fsT_spots _ _ _ _) ?_
        walk_at "n"
        refine kdGet hx2.at_.s ?_
        walk_at "n"
        have hsp := hx2.at_.sp (kof i)
        have pr : Paired (LineAt srcC H2) (o2.rw (kof i)) (upTo i Z.spots (fun k => (Z.spots k).map gl) (kof i)) := hx2.at_.rw (kof i)
        rw [upTo_at hi] at pr
        have prl := pr.length
        have hzl := wf.sp (kof i)
        refine lsL hsp ?_
        have hm1 : ((o2.rw (kof i)).map V.ref).length = n := by rw [List.length_map, prl, hzl]
        have wk := walk_list (K := K) (a := o2.sp (kof i)) (xs := (o2.rw (kof i)).map V.ref)
        rw [hm1] at wk
        refine rows_lc (src := srcC) wk (fun r => gl ((Z.spots (kof i)).getD r [])) (by omega) (fun H s => SqL.of (s _ _ hsp)) (fun r x HB HB' kk hr' sB y hkk => ?_) fun D as HB hD sB hDl hp hnd hfr hDn => ?_
        · obtain ⟨rfl, hxr⟩ := y
          rw [List.getElem?_map] at hxr
          obtain ⟨a, ha, rfl⟩ : ∃ a, (o2.rw (kof i))[r]? = some a ∧ x = V.ref a := by
            cases q : (o2.rw (kof i))[r]? with
            | none =>
              rw [q] at hxr
              cases hxr
            | some a =>
              rw [q] at hxr
              exact ⟨a, rfl, (Option.some.inj hxr).symm⟩
          obtain ⟨ys, hys, us, hu, pu⟩ := paired_get pr ha
          have hyl := wf.rw (kof i) ys (List.mem_of_getElem? hys)
          have φB := C.keep _ _ (KpX.of sB) φ2
          walk_at "n"
          refine ⟨trivial, fL, φ, _, rfl, C.callL, C.fnL _ φB, ?_⟩
          walk_at "n"
          have puB : Paired (TlAt srcC HB') us ys := Paired.mapP pu fun _ _ z => z.stay (TupS.of sB)
          have ul := puB.length
          refine ⟨C.fnL _ φB, φB, a, us, rfl, sB _ _ hu, by rw [ul, hyl]; exact hRm, by omega, fun H3 l3 s3 n3 e3 => ?_⟩
          refine hkk l3 H3 n3 s3 ?_
          have e4 : (Z.spots (kof i)).getD r [] = ys := by rw [List.getD_eq_getElem?_getD, hys]; rfl
          rw [e4]
          exact getL puB (by rw [hyl]; exact hRm) s3 e3
        · walk_at "n"
          refine fldG (sB _ _ hob) T.k_Trace T.n_spots (fsT_spots _ _ _ _) ?_
          walk_at "n"
          refine kdPut (sB _ _ hx2.at_.s) ?_
          have e5 : (List.range n).map (fun r => gl ((Z.spots (kof i)).getD r [])) = (Z.spots (kof i)).map gl := by
            apply List.ext_getElem?
            intro j
            rw [List.getElem?_map, List.getElem?_map]
            by_cases hj : j < n
            · rw [List.getElem?_range hj, List.getElem?_eq_getElem (by rw [hzl]; exact hj)]
              simp [List.getD_eq_getElem?_getD, List.getElem?_eq_getElem (show j < (Z.spots (kof i)).length by rw [hzl]; exact hj)]
            · rw [List.getElem?_eq_none (by simpa using hj), List.getElem?_eq_none (by rw [hzl]; omega)]
              rfl
          rw [e5] at hp
          have hx3 := hx2.new_sp sB (kof i) hDl hp hnd hD (fun a ha => .inr (hfr a ha)) hDn
          have φ3 := kpD (kv' := kd (setK (fun j => V.ref (o2.sp j)) (kof i) (V.ref D))) sB (sB _ _ hx2.at_.s) φ2
          dsimp only at hx3
          rw [upTo_set hi (g := fun k => (Z.spots k).map gl)] at hx3
          exact ⟨_, _, _, rfl, φ3, hx3⟩
      · rintro σ HH ⟨a4, o, ro, rfl, hφ, hx⟩
        rw [upTo_3, upTo_3] at hx
        exact kk _ hx.in_
end

end Gr

namespace Gr
open PySem PySem.Spec PyProof.Rows L2 NdefX
/-! ### closures handed to shift -/
section
variable {P : Program} {w : World} {K : PySem.W.Frag} {mg : Str → Option Value} {base : Heap} {k : Nat} {f : Addr} {F : NF} {ps fr : List Str} {spf : List (Option V) → Sp} {ws : List (Option V)} {cs : List Addr} {co : Addr → Obj} {gV : List V → List V} {R : Nat → Prop} {gS : List (List Spot) → List (List Spot)}
theorem rem_some {H : Hp} {b : Addr} {o : HO} (c : CsAt co cs H) (e : H b = some o) (n : ∀ x y, o ≠ .frz x y) : remC cs H b = some o := by
  rw [remC_out (csat_out c e n)]
  exact e
theorem same_back {H H' : Hp} (c : CsAt co cs H) (s : Same (remC cs H) H') : Same H (addC co cs H') := fun b o e => by
  by_cases hb : b ∈ cs
  · rw [addC_in hb, ← e, c b hb]
  · rw [addC_out hb]
    exact s b o (by rw [remC_out hb]; exact e)
theorem addC_same {H : Hp} (n : ∀ c ∈ cs, H c = none) : Same H (addC co cs H) := fun b o e => by
  rw [addC_out fun z => by rw [n b z] at e; cases e]
  exact e
theorem chg_line (o : NOk P w K mg base CX0 k f F ps fr spf) (cc : CellsC F.cl fr ws cs co) (hsp : ∀ vs H Q, spLine gV R vs H Q E0 → spf ws vs H Q E0) : Callable P w K mg base k f (FnAtC f F cs co) (spLine gV R) := by
  refine (callable_of o cc).imp (fun _ h => h) fun vs H Q hφ h => hsp _ _ _ ?_
  obtain ⟨l, xs, rfl, hl, hR, hz, q⟩ := h
  obtain ⟨_, _, c⟩ := hφ
  refine ⟨l, xs, rfl, rem_some c hl (fun _ _ z => by cases z), hR, hz, fun H' l' s n e none' => ?_⟩
  have nl : l' ∉ cs := fun z => by
    rw [none' l' z] at e
    cases e
  refine q (addC co cs H') l' (same_back c s) ((remC_out nl).symm.trans n) (by rw [addC_out nl]; exact e)
theorem chg_rows (o : NOk P w K mg base CX0 k f F ps fr spf) (cc : CellsC F.cl fr ws cs co) (hsp : ∀ vs H Q, spRows gS R vs H Q E0 → spf ws vs H Q E0) : Callable P w K mg base k f (FnAtC f F cs co) (spRows gS R) := by
  refine (callable_of o cc).imp (fun _ h => h) fun vs H Q hφ h => hsp _ _ _ ?_
  obtain ⟨s, as, xss, n, m, rfl, hs, hp, nd, hn, hm, hR, hn2, hm2, q⟩ := h
  obtain ⟨_, _, c⟩ := hφ
  have ts : TupS H (remC cs H) := fun b xs e => rem_some c e fun _ _ z => by cases z
  refine ⟨s, as, xss, n, m, rfl, rem_some c hs (fun _ _ z => by cases z), ?_, nd, hn, hm, hR, hn2, hm2, fun H' s' as' sm ns es nd' fr' ni' hp' none' => ?_⟩
  · refine Paired.mapP hp fun a xs h => ?_
    obtain ⟨vs, e1, e2⟩ := h
    exact ⟨vs, rem_some c e1 (fun _ _ z => by cases z), Paired.mapP e2 fun _ _ z => z.stay ts⟩
  · have out : ∀ {b : Addr} {o : HO}, H' b = some o → b ∉ cs := fun e z => by
      rw [none' _ z] at e
      cases e
    have ts' : TupS H' (addC co cs H') := fun b xs e => by
      rw [addC_out (out e)]
      exact e
    have alive : ∀ a ∈ as', a ∉ cs := fun a ha => by
      obtain ⟨j, hj⟩ := List.mem_iff_getElem?.mp ha
      obtain ⟨_, _, us, q, _⟩ := paired_get hp' hj
      exact out q
    have ns' := out es
    refine q (addC co cs H') s' as' (same_back c sm) ((remC_out ns').symm.trans ns) (by rw [addC_out ns']; exact es) nd' (fun a ha => (fr' a ha).imp id fun z => (remC_out (alive a ha)).symm.trans z) ni' ?_
    refine Paired.mapP hp' fun a xs h => ?_
    obtain ⟨vs, e1, e2⟩ := h
    exact ⟨vs, by rw [addC_out (out e1)]; exact e1, Paired.mapP e2 fun _ _ z => z.stay ts'⟩
theorem FnAtC.keep {H H' : Hp} (h : FnAtC f F cs co H) (k : KpX H H') : FnAtC f F cs co H' :=
  ⟨k _ _ h.1 (.inl ⟨_, rfl⟩), k _ _ h.2.1 (.inl ⟨_, rfl⟩), fun c hc => k _ _ (h.2.2 c hc) (.inr ⟨_, _, rfl⟩)⟩
/-- the told cells are hidden again -/
theorem TrIn.hide {Tb : List NTab} {H0 H : Hp} {t : Addr} {T : Tr} (h : TrIn K Tb H0 H t T) (c : CsAt co cs H) (n : ∀ a ∈ cs, H0 a = none) : TrIn K Tb H0 (remC cs H) t T := by
  obtain ⟨o, ro, h1, h2⟩ := h.ex
  have ts : TupS H (remC cs H) := fun b xs e => rem_some c e fun _ _ z => by cases z
  have lin : ∀ {α : Type} {src : α → List V} {l : Addr} {xs : List (Option (Tl α))}, LineAt src H l xs → LineAt src (remC cs H) l xs := fun ⟨vs, e1, e2⟩ => ⟨vs, rem_some c e1 (fun _ _ z => by cases z), Paired.mapP e2 fun _ _ z => z.stay ts⟩
  have role : ∀ {b : Addr} {r : Ro} {u : HO}, ro b = some r → H b = some u → (∀ x y, u ≠ .frz x y) → (fun b => if b ∈ cs then none else ro b) b = some r := fun hb e n => by
    show (if _ ∈ cs then none else ro _) = _
    rw [if_neg (csat_out c e n)]
    exact hb
  obtain ⟨dx, hob⟩ := h1.ob
  obtain ⟨g, hg, hw⟩ := h1.w
  refine ⟨⟨o, fun b => if b ∈ cs then none else ro b, ⟨⟨dx, rem_some c hob fun _ _ z => by cases z⟩, ⟨g, rem_some c hg (fun _ _ z => by cases z), fun j => (hw j).stay ts⟩, rem_some c h1.l (fun _ _ z => by cases z), rem_some c h1.f (fun _ _ z => by cases z), rem_some c h1.s (fun _ _ z => by cases z), fun j => lin (h1.ln j), fun j => lin (h1.fl j), fun j => rem_some c (h1.sp j) (fun _ _ z => by cases z), fun j => Paired.mapP (h1.rw j) fun _ _ z => lin z, h1.nd,
    role h1.r_t hob (fun _ _ z => by cases z), role h1.r_W hg (fun _ _ z => by cases z), role h1.r_L h1.l (fun _ _ z => by cases z), role h1.r_F h1.f (fun _ _ z => by cases z), role h1.r_S h1.s (fun _ _ z => by cases z), fun j => ?_, fun j => ?_, fun j => role (h1.r_sp j) (h1.sp j) (fun _ _ z => by cases z), fun j a ha => ?_, fun b hb => ?_⟩, fun b hb => ?_⟩, ⟨fun b u e n1 => ?_, fun b e => ?_⟩, fun p hp => ?_⟩
  · obtain ⟨vs, e, _⟩ := h1.ln j
    exact role (h1.r_ln j) e fun _ _ z => by cases z
  · obtain ⟨vs, e, _⟩ := h1.fl j
    exact role (h1.r_fl j) e fun _ _ z => by cases z
  · obtain ⟨i, hi⟩ := List.mem_iff_getElem?.mp ha
    obtain ⟨_, _, vs, e, _⟩ := paired_get (h1.rw j) hi
    exact role (h1.r_rw j a ha) e fun _ _ z => by cases z
  · have hb : (if b ∈ cs then none else ro b) ≠ none := hb
    split at hb
    · exact absurd rfl hb
    · rename_i hc
      rw [remC_out hc]
      exact h1.al b hb
  · have hb : (if b ∈ cs then none else ro b) ≠ none := hb
    split at hb
    · exact absurd rfl hb
    · exact h2 b hb
  · rw [remC_out fun z => by rw [n b z] at e; cases e]
    exact h.gx.ext b u e n1
  · by_cases hb : b ∈ cs
    · exact n b hb
    · rw [remC_out hb] at e
      exact h.gx.mono b e
  · obtain ⟨qs, e1, e2, e3⟩ := h.tb p hp
    refine ⟨qs, rem_some c e1 (fun _ _ z => by cases z), e2, fun pos cv hc => ?_⟩
    obtain ⟨d, q1, q2⟩ := e3 pos cv hc
    exact ⟨d, q1, rem_some c q2 fun _ _ z => by cases z⟩
end
/-! ### defs whose code table is told -/
section
variable {CX : CXT} {P : Program} {w : World} {K : PySem.W.Frag} {mg : Str → Option Value} {base : Heap} {N ps : List Str} {k : Nat} {sp : Sp} {x qual : Str} {params : Arguments} {body : List Stmt} {scope : Scope} {f : Addr} {fd : FuncData} {p : He.Defn}
theorem fun_okC (F : FunD K x qual params body scope [] [] f fd) (hf : He.fAd K p = f) (S : FnScope N ps scope) (len : ∀ vs H Q E, sp vs H Q E → vs.length = ps.length)
    (hbody : ∀ (A : Around) (outer : List Env) (s : Shared) (H : Hp) (vs : List V) (Q : VK) (E : XK), Room k (A.deeper (envOfC qual scope s.heap.objs.size f (.ref (He.codeOf K p)))) → sp vs H Q E →
      ∃ t, PSs (cxOf CX P w K mg base N qual scope f (.ref (He.codeOf K p)) A outer s H E) body t ∧ t { nx := fun _ H1 => Q .non H1, rt := Q } (L2.start N vs) H) : FnOk P w K mg base CX (k + 1) f fd ps sp := by
  obtain ⟨oc, od, dV, kV, doc, pm, an, cdv, ct, osl, rfl, lk, hcd, _, _⟩ := F.ex
  obtain ⟨c, rfl⟩ := He.codeIn_ref hcd
  have e := He.codeOf_eq (p := p) (by rw [hf]; exact lk) rfl
  rw [e] at hbody
  exact fn_of lk hcd S len hbody
end
def fpos : Stmt → Pos
  | .FunctionDef _ _ _ _ _ _ _ _ _ p => p
  | _ => ⟨0, 0, 0, 0⟩
abbrev st_ic : Stmt := stAt (defBody (inClass (top 20) 3)) 0
abbrev st_ir : Stmt := stAt (defBody (inClass (top 20) 3)) 1
abbrev st_rc : Stmt := stAt (defBody (inClass (top 20) 4)) 0
abbrev st_mc : Stmt := stAt (defBody (inClass (top 20) 5)) 0
/-- the qualified names of the nested defs by their places -/
def nmN (l c : Nat) : Str :=
  if l = (fpos st_ic).line ∧ c = (fpos st_ic).col then "Trace.insert.<locals>.change" else if l = (fpos st_ir).line ∧ c = (fpos st_ir).col then "Trace.insert.<locals>.change_rows" else
  if l = (fpos st_rc).line ∧ c = (fpos st_rc).col then "Trace.remove.<locals>.change" else "Trace.move.<locals>.change"
def tfN : List He.Defn := [("Trace", some "insert"), ("Trace", some "remove"), ("Trace", some "move")]
def TbN (K : PySem.W.Frag) : List NTab := tfN.map fun p => ((He.cT K p).2, nmN)
/-- the tables of code objects of the defs that hold defs -/
def TabsOk (K : PySem.W.Frag) (mg : Str → Option Value) (base : Heap) : Prop := ∀ p ∈ tfN, LamX.TabB base mg (He.cT K p).1 (He.cT K p).2
theorem tbN_in {K : PySem.W.Frag} {p : He.Defn} (h : p ∈ tfN) : ((He.cT K p).2, nmN) ∈ TbN K := List.mem_map_of_mem h
theorem tbN_u {K : PySem.W.Frag} : ∀ (P : Addr), ∀ p ∈ TbN K, p.1 = P → p.2 = nmN := fun P p hp _ => by
  obtain ⟨q, _, rfl⟩ := List.mem_map.mp hp
  rfl
end Gr

namespace Gr
open PySem PySem.Spec PyProof.Rows L2
local macro_rules | `(tactic| walk_at "n") => `(tactic| try simp only [u_tVar, u_tC, u_tB, u_tTest, u_tAnd, u_tOr, u_tNot, u_tAndV, u_tOrV, u_tNotV, u_tIf, u_tNext, u_tSeq, u_tBreak, u_tCont, u_tDrop, u_tRet, u_tRetN, u_tIfS, u_tNever, u_gName, u_tAsg, u_tPar, u_gSub, u_tOp, u_tUn, u_tChain, u_tNil, u_tCons, u_tTup, u_tLst, u_tCB, u_tCall, u_tNoPart, u_tPart, u_tSl, u_tYes, u_iList', u_iTup', u_tLc, u_tDc, u_tFor, u_iRng1, u_iRng2, u_iEnum, u_iEnumT, u_iZip, u_iZip3, L2.wipe, u_sDPut', u_tDGet', u_tDNewK, u_tFld', u_sFld, u_gTup, u_gCons, u_gNil, u_tMeth, u_tMake, u_tMethC, u_tNdefM, u_tCallL, u_tLstRg, v_rI0, v_rI, v_eqI, v_neI, v_eqS, v_neS, v_bl, v_int, v_ref, v_some, v_two, w_insert_tell, w_remove_tell, w_remove_insert, w_move_tell, w_move_insert, w_move_remove, w_copy_tell, w_copy_insert, w_copy_remove, w_copy_move, w_rows_table, w_columns_table, w_cells_table, w_rows_cells, w_columns_cells, w_columns_rows, w_cells_rows, w_cells_columns, w_rows_columns, w_table_cells, w_table_rows, w_table_columns, w_column_row, w_plain_like, w_like_plain, w_old_new, w_new_old, w_newest_nearest, w_nearest_newest, w_ink_ground, w_ink_face, w_ground_ink, w_ground_face, w_face_ink, w_face_ground, w_whole_lanes, w_whole_files, w_whole_spots, w_lanes_files, w_lanes_spots, w_files_spots, List.getElem?_cons_zero, List.getElem?_cons_succ, List.set_cons_zero, List.set_cons_succ, List.append_nil, Bool.not_true, Bool.not_false, eq_self, if_true, Bool.false_eq_true, if_false, decide_true, decide_false, v_max, v_min, v_intQ, v_isN, v_notN, reduceCtorEq, Nat.reduceAdd, Nat.zero_add, Int.cast_ofNat_Int, Int.reduceEq, Int.reduceLE, Int.reduceLT, Int.reduceAdd, List.cons_append, List.nil_append, List.map_cons, List.map_nil, Sc.vs, ov, De.vs, how, List.length_cons, List.length_nil])
local macro_rules | `(tactic| walk_at "x") => `(tactic| first | refine ixT (by assumption) rfl ?_ | refine ixL (by assumption) rfl ?_ | refine lenT (by assumption) rfl ?_ | refine lenL (by assumption) rfl ?_ | refine isi (.base (.int _)) kit_int_int ?_ | refine isi (.base (.int _)) kit_int_str ?_ | refine isi (.base (.int _)) kit_int_bool ?_ | refine isi (.base (.int _)) kit_int_tuple ?_ | refine isi (.base (.int _)) kit_int_list ?_ | refine isi (.base (.str _)) kit_str_int ?_ | refine isi (.base (.str _)) kit_str_str ?_ | refine isi (.base (.str _)) kit_str_bool ?_ | refine isi (.base (.str _)) kit_str_tuple ?_ | refine isi (.base (.str _)) kit_str_list ?_ | refine isi (.base (.bl _)) kit_bool_int ?_ | refine isi (.base (.bl _)) kit_bool_str ?_ | refine isi (.base (.bl _)) kit_bool_bool ?_ | refine isi (.base (.bl _)) kit_bool_tuple ?_ | refine isi (.base (.bl _)) kit_bool_list ?_ | refine isi (.base (.tup (by assumption))) kit_tuple_int ?_ | refine isi (.base (.tup (by assumption))) kit_tuple_str ?_ | refine isi (.base (.tup (by assumption))) kit_tuple_bool ?_ | refine isi (.base (.tup (by assumption))) kit_tuple_tuple ?_ | refine isi (.base (.tup (by assumption))) kit_tuple_list ?_ | refine isi (.base (.lst (by assumption))) kit_list_int ?_ | refine isi (.base (.lst (by assumption))) kit_list_str ?_ | refine isi (.base (.lst (by assumption))) kit_list_bool ?_ | refine isi (.base (.lst (by assumption))) kit_list_tuple ?_ | refine isi (.base (.lst (by assumption))) kit_list_list ?_ | refine isi (.base (.non)) kit_NoneType_int ?_ | refine isi (.base (.non)) kit_NoneType_str ?_ | refine isi (.base (.non)) kit_NoneType_bool ?_ | refine isi (.base (.non)) kit_NoneType_tuple ?_ | refine isi (.base (.non)) kit_NoneType_list ?_)
local macro_rules | `(tactic| walk_at "g") => `(tactic| (repeat (walk_at "n"; walk_at "x")); walk_at "n")

-- Gr5
section
variable {P : Program} {w : World} {K : PySem.W.Frag} {mg : Str → Option Value} {fds : Str → FuncData} {base : Heap}
theorem catL {a b : Addr} {xs ys : List V} {H : Hp} {Q : VK} (h : H a = some (.lst xs)) (h2 : H b = some (.lst ys)) (n : xs.length + ys.length ≤ 100000) (q : ∀ p, H p = none → Q (.ref p) (upd H p (.lst (xs ++ ys)))) : rCat (.ref a) (.ref b) H Q := ⟨a, b, xs, ys, rfl, rfl, h, h2, by have := (by decide : 100000 < sizeLine); omega, q⟩
theorem one_us {α : Type} {us : List α} (h : us.length = 1) : ∃ u, us = [u] := List.length_eq_one_iff.mp h
theorem remL_len {α : Type} (a n : Nat) (xs : List α) : (remL a n xs).length ≤ xs.length := by
  unfold remL
  rw [List.length_append, List.length_take, List.length_drop]
  omega
abbrev s_rc : Stmt := st_rc
abbrev N_rc : List Str := ["line", "at", "many"]
def spRC (sp : (a n : Nat) → Sp) : List (Option V) → Sp := fun ws vs H Q E => ∃ a n : Nat, ws = [some (.int (a : Int)), some (.int (n : Int))] ∧ sp a n vs H Q E
theorem nok_rc (T : Txt K mg fds) (R : Nat → Prop) (ql : Str) (cl : List (Str × Addr)) (f c : Addr) : NdefX.NOk P w K mg base CX0 1 f (NdefX.NF.of st_rc "change" ql cl c) ["line"] ["at", "many"] (spRC fun a n => spLine (remL a n) R) := by
  refine nok_own (N := N_rc) (nsc_by (sc := C8.fnScope st_rc) (by decide +kernel)) (fun doc pm ctv us h => ?_) (fun ws vs H Q E h => ?_) (fun A outer s H vs ws Q E hr hf hw h => ?_)
  · obtain ⟨u, rfl⟩ := one_us h
    rfl
  · obtain ⟨a, n, rfl, l, xs, rfl, _⟩ := h; rfl
  · obtain ⟨a, n, rfl, l, xs, rfl, hl, hR, hz, k⟩ := h
    refine ⟨_, PSs.nox (pss_one (ps_ret (pe_op op_cat (pe_slice sl_list (pv 0) po_none (po_some (pv 1))) (pe_slice sl_list (pv 0) (po_some (pe_op op_add (pv 1) (pv 2))) po_none)))), ?_⟩
    rw [show NdefX.startF N_rc [.ref l] [some (.int (a : Int)), some (.int (n : Int))] = [some (.ref l), some (.int (a : Int)), some (.int (n : Int))] from rfl]
    walk_at "g"
    refine slL hl fun p hp => ?_
    have s1 := Same.upd (.lst (cutV xs none (some (a : Int)))) hp
    have hl1 := s1 _ _ hl
    refine slL hl1 fun q hq => ?_
    rw [show (a : Int) + (n : Int) = ((a + n : Nat) : Int) by omega]
    have s2 := Same.upd (.lst (cutV xs (some ((a + n : Nat) : Int)) none)) hq
    refine catL (s2 _ _ upd_same) upd_same ?_ fun r hr' => ?_
    · rw [cutV_to, cutV_from, List.length_take, List.length_drop]
      omega
    · rw [cutV_to, cutV_from]
      rw [cutV_to, cutV_from] at hr'
      rw [cutV_to] at s1
      rw [cutV_to, cutV_from] at s2
      exact k _ r ((s1.trans s2).trans (Same.upd _ hr')) ((s1.trans s2).free hr') upd_same
abbrev s_mc : Stmt := st_mc
abbrev N_mc : List Str := ["line", "at", "many", "to", "left"]
def spMC (sp : (a n b : Nat) → Sp) : List (Option V) → Sp := fun ws vs H Q E => ∃ a n b : Nat, ws = [some (.int (a : Int)), some (.int (n : Int)), some (.int (b : Int))] ∧ sp a n b vs H Q E
theorem nok_mc (T : Txt K mg fds) (R : Nat → Prop) (ql : Str) (cl : List (Str × Addr)) (f c : Addr) : NdefX.NOk P w K mg base CX0 1 f (NdefX.NF.of st_mc "change" ql cl c) ["line"] ["at", "many", "to"] (spMC fun a n b => spLine (movL a n b) R) := by
  refine nok_own (N := N_mc) (nsc_by (sc := C8.fnScope st_mc) (by decide +kernel)) (fun doc pm ctv us h => ?_) (fun ws vs H Q E h => ?_) (fun A outer s H vs ws Q E hr hf hw h => ?_)
  · obtain ⟨u, rfl⟩ := one_us h
    rfl
  · obtain ⟨a, n, b, rfl, l, xs, rfl, _⟩ := h; rfl
  · obtain ⟨a, n, b, rfl, l, xs, rfl, hl, hR, hz, k⟩ := h
    have nd : N_mc.Nodup := by decide +kernel
    refine ⟨_, PSs.nox (pss_cons (ps_set (i := 4) nd rfl (by first | exact Or.inl rfl | exact Or.inr rfl) (pe_op op_cat (pe_slice sl_list (pv 0) po_none (po_some (pv 1))) (pe_slice sl_list (pv 0) (po_some (pe_op op_add (pv 1) (pv 2))) po_none)))
      (pss_one (ps_ret (pe_op op_cat (pe_op op_cat (pe_slice sl_list (pv 4) po_none (po_some (pv 3))) (pe_slice sl_list (pv 0) (po_some (pv 1)) (po_some (pe_op op_add (pv 1) (pv 2))))) (pe_slice sl_list (pv 4) (po_some (pv 3)) po_none))))), ?_⟩
    rw [show NdefX.startF N_mc [.ref l] [some (.int (a : Int)), some (.int (n : Int)), some (.int (b : Int))] = [some (.ref l), some (.int (a : Int)), some (.int (n : Int)), some (.int (b : Int)), none] from rfl]
    walk_at "g"
    refine slL hl fun p hp => ?_
    rw [cutV_to]
    have s1 := Same.upd (.lst (xs.take a)) hp
    refine slL (s1 _ _ hl) fun q hq => ?_
    rw [show (a : Int) + (n : Int) = ((a + n : Nat) : Int) by omega, cutV_from]
    have s2 := Same.upd (.lst (xs.drop (a + n))) hq
    refine catL (s2 _ _ upd_same) upd_same (by rw [List.length_take, List.length_drop]; omega) fun lf hlf => ?_
    have hrl := remL_len a n xs
    rw [show xs.take a ++ xs.drop (a + n) = remL a n xs from rfl]
    have s3 := (s1.trans s2).trans (Same.upd (.lst (remL a n xs)) hlf)
    have e3 : upd (upd (upd H p (.lst (xs.take a))) q (.lst (xs.drop (a + n)))) lf (.lst (remL a n xs)) lf = some (.lst (remL a n xs)) := upd_same
    generalize upd (upd (upd H p (.lst (xs.take a))) q (.lst (xs.drop (a + n)))) lf (.lst (remL a n xs)) = H3 at s3 e3 ⊢
    walk_at "n"
    refine slL e3 fun p1 hp1 => ?_
    rw [cutV_to]
    have s4 := Same.upd (.lst ((remL a n xs).take b)) hp1
    refine slL ((s3.trans s4) _ _ hl) fun p2 hp2 => ?_
    rw [cutV_nat, show a + n - a = n by omega]
    have s5 := Same.upd (.lst ((xs.drop a).take n)) hp2
    refine catL (s5 _ _ upd_same) upd_same (by rw [List.length_take, List.length_take, List.length_drop]; omega) fun p3 hp3 => ?_
    have s6 := Same.upd (.lst ((remL a n xs).take b ++ (xs.drop a).take n)) hp3
    refine slL (s6 _ _ (s5 _ _ (s4 _ _ e3))) fun p4 hp4 => ?_
    rw [cutV_from]
    have s7 := Same.upd (.lst ((remL a n xs).drop b)) hp4
    refine catL (s7 _ _ upd_same) upd_same (by rw [List.length_append, List.length_take, List.length_take, List.length_drop, List.length_drop]; omega) fun r hr' => ?_
    have s8 := (((s3.trans s4).trans s5).trans s6).trans s7
    exact k _ r (s8.trans (Same.upd _ hr')) (s8.free hr') upd_same
/-- what is put in -/
def insO {α : Type} (d : α) (like : Bool) (a n : Nat) (xs : List α) : List α := insL a n (if like then xs.getD (a - 1) d else d) xs
abbrev s_ic : Stmt := st_ic
abbrev N_ic : List Str := ["line", "at", "many", "how", "one"]
def spIC (sp : (a n : Nat) → (like : Bool) → Sp) : List (Option V) → Sp := fun ws vs H Q E => ∃ (a n : Nat) (like : Bool), ws = [some (.int (a : Int)), some (.int (n : Int)), some (.str (how like))] ∧ n ≤ 3 ∧ (like = true → 1 ≤ a) ∧ sp a n like vs H Q E
theorem nok_ic (T : Txt K mg fds) (ql : Str) (cl : List (Str × Addr)) (f c : Addr) : NdefX.NOk P w K mg base CX0 1 f (NdefX.NF.of st_ic "change" ql cl c) ["line"] ["at", "many", "how"] (spIC fun a n like => spLine (insO V.non like a n) (fun m => a ≤ m)) := by
  refine nok_own (N := N_ic) (nsc_by (sc := C8.fnScope st_ic) (by decide +kernel)) (fun doc pm ctv us h => ?_) (fun ws vs H Q E h => ?_) (fun A outer s H vs ws Q E hr hf hw h => ?_)
  · obtain ⟨u, rfl⟩ := one_us h
    rfl
  · obtain ⟨a, n, like, rfl, _, _, l, xs, rfl, _⟩ := h; rfl
  · obtain ⟨a, n, like, rfl, hn, hlk, l, xs, rfl, hl, hR, hz, k⟩ := h
    have nd : N_ic.Nodup := by decide +kernel
    refine ⟨_, PSs.nox (pss_one (ps_ret (pe_op op_cat (pe_op op_cat (pe_slice sl_list (pv 0) po_none (po_some (pv 1))) (pe_lc (own := [("one", 4)]) rfl nd (pi_range1 (by rfl) T.g_range (pa_cons (pv 2) pa_nil)) (blkOk_by (N := N_ic) (sc := (C8.fnScope s_ic)) (by decide +kernel)) (fun _ _ _ _ _ => (pg_name (i := 4) nd rfl (by first | exact Or.inl rfl | exact Or.inr rfl))) (fun _ _ _ _ _ => pts_nil) (fun _ _ _ _ _ => (pe_ifExp (pt_cmpR op_eq (pv 3) pe_str (nomark _)) (pe_ix (ix_listK (K := K) rfl) (pv 0) (pe_op op_sub (pv 1) pe_int) (fun _ _ => rfl)) pe_non)))) (pe_slice sl_list (pv 0) (po_some (pv 1)) po_none)))), ?_⟩
    rw [show NdefX.startF N_ic [.ref l] [some (.int (a : Int)), some (.int (n : Int)), some (.str (how like))] = [some (.ref l), some (.int (a : Int)), some (.int (n : Int)), some (.str (how like)), none] from rfl]
    walk_at "g"
    refine slL hl fun p hp => ?_
    rw [cutV_to]
    have s1 := Same.upd (.lst (xs.take a)) hp
    have hp1 : upd H p (.lst (xs.take a)) p = some (.lst (xs.take a)) := upd_same
    generalize upd H p (.lst (xs.take a)) = H1 at s1 hp1 ⊢
    refine rg1 (by omega) (by omega) ?_
    rw [Int.toNat_natCast]
    have hl1 := s1 _ _ hl
    refine lc_map (n := n) (G := fun _ => True) walk_range (fun _ _ y _ => y = if like = true then xs.getD (a - 1) V.non else V.non) (by omega) (fun _ _ _ _ _ _ _ _ r => r) (fun _ _ _ _ => trivial) (fun D i x H2 H3 acc kk hD hi gr hacc y hk => ?_) fun D ys H2 hD gr hys hlen hall => ?_
    · obtain ⟨rfl, rfl⟩ := y
      have hl2 := (gr.same hD) _ _ hl1
      cases like with
      | true =>
        have h1 := hlk rfl
        walk_at "n"
        rw [show (a : Int) - 1 = ((a - 1 : Nat) : Int) by omega]
        have e : xs[a - 1]? = some (xs.getD (a - 1) V.non) := by
          rw [List.getD_eq_getElem?_getD, List.getElem?_eq_getElem (by omega)]
          rfl
        refine ⟨trivial, ixLn hl2 e (hk _ _ (Same.refl _) rfl)⟩
      | false =>
        walk_at "n"
        exact ⟨trivial, hk _ _ (Same.refl _) rfl⟩
    · have e : ys = List.replicate n (if like = true then xs.getD (a - 1) V.non else V.non) := by
        refine List.eq_replicate_iff.mpr ⟨hlen, fun y hy => ?_⟩
        obtain ⟨j, hj⟩ := List.mem_iff_getElem?.mp hy
        exact hall j y hj
      subst e
      have s2 := gr.same hD
      refine catL (s2 _ _ hp1) hys (by rw [List.length_take, List.length_replicate]; omega) fun q hq => ?_
      have s3 := Same.upd (.lst (xs.take a ++ List.replicate n (if like = true then xs.getD (a - 1) V.non else V.non))) hq
      have hq1 : upd H2 q (.lst (xs.take a ++ List.replicate n (if like = true then xs.getD (a - 1) V.non else V.non))) q = _ := upd_same
      generalize upd H2 q (.lst (xs.take a ++ List.replicate n (if like = true then xs.getD (a - 1) V.non else V.non))) = H3 at s3 hq1 ⊢
      have s13 := (s1.trans s2).trans s3
      refine slL (s13 _ _ hl) fun q2 hq2 => ?_
      rw [cutV_from]
      have s4 := Same.upd (.lst (xs.drop a)) hq2
      refine catL (s4 _ _ hq1) upd_same (by rw [List.length_append, List.length_take, List.length_replicate, List.length_drop]; omega) fun r hr' => ?_
      exact k _ r ((s13.trans s4).trans (Same.upd _ hr')) ((s13.trans s4).free hr') upd_same
/-- the rows with new ones put in -/
def insR (like : Bool) (a n : Nat) (xss : List (List Spot)) : List (List Spot) := insL a n (if like then xss.getD (a - 1) [] else List.replicate (xss.getD 0 []).length none) xss
abbrev s_ir : Stmt := st_ir
abbrev N_ir : List Str := ["rows", "at", "many", "how", "wide", "some", "one"]
theorem nok_ir (T : Txt K mg fds) (ql : Str) (cl : List (Str × Addr)) (f c : Addr) : NdefX.NOk P w K mg base CX0 1 f (NdefX.NF.of st_ir "change_rows" ql cl c) ["rows"] ["at", "many", "how"] (spIC fun a n like => spRows (insR like a n) (fun m => a ≤ m ∧ 1 ≤ m)) := by
  refine nok_own (N := N_ir) (nsc_by (sc := C8.fnScope st_ir) (by decide +kernel)) (fun doc pm ctv us h => ?_) (fun ws vs H Q E h => ?_) (fun A outer s H vs ws Q E hr hf hw h => ?_)
  · obtain ⟨u, rfl⟩ := one_us h
    rfl
  · obtain ⟨a, n, like, rfl, _, _, s, as, xss, n, m, rfl, _⟩ := h; rfl
  · obtain ⟨a, n, like, rfl, hn, hlk, sA, as, xss, n0, m0, rfl, hs, hp, hnd, hln, hlm, ⟨hR, hR1⟩, hz, hzm, k⟩ := h
    have nd : N_ir.Nodup := by decide +kernel
    refine ⟨_, PSs.nox (pss_cons (ps_set (i := 4) nd rfl (by first | exact Or.inl rfl | exact Or.inr rfl) (pe_callB call_lenQ (by rfl) T.g_len (by decide +kernel) (pa_cons (pe_ix ix_list (pv 0) pe_int (fun _ _ => rfl)) pa_nil)))
      (pss_cons (ps_setLc (i := 5) (own := [("one", 6)]) rfl nd rfl rfl (sw_true rfl rfl rfl (by decide +kernel)) (pi_range1 (by rfl) T.g_range (pa_cons (pv 2) pa_nil)) (blkOk_by (N := N_ir) (sc := (C8.fnScope s_ir)) (by decide +kernel)) (fun _ _ _ _ _ => (pg_name (i := 6) nd rfl (by first | exact Or.inl rfl | exact Or.inr rfl))) (fun _ _ _ _ _ => pts_nil) (fun _ _ _ _ _ => (pe_ifExp (pt_cmpR op_eq (pv 3) pe_str (nomark _)) (pe_callTy (call_listQK (K := K) rfl) (by rfl) T.g_list (by decide +kernel) (pa_cons (pe_ix (ix_listK (K := K) rfl) (pv 0) (pe_op op_sub (pv 1) pe_int) (fun _ _ => rfl)) pa_nil)) (pe_op op_rep (pe_lst (pa_cons pe_non pa_nil)) (pv 4)))))
      (pss_one (ps_ret (pe_op op_cat (pe_op op_cat (pe_slice sl_list (pv 0) po_none (po_some (pv 1))) (pv 5)) (pe_slice sl_list (pv 0) (po_some (pv 1)) po_none)))))), ?_⟩
    rw [show NdefX.startF N_ir [.ref sA] [some (.int (a : Int)), some (.int (n : Int)), some (.str (how like))] = [some (.ref sA), some (.int (a : Int)), some (.int (n : Int)), some (.str (how like)), none, none, none] from rfl]
    have hal : as.length = n0 := hp.length.trans hln
    obtain ⟨a0, ha0⟩ : ∃ a0, as[0]? = some a0 := ⟨_, List.getElem?_eq_getElem (by omega)⟩
    obtain ⟨x0, hx0, us0, hu0, pu0⟩ := paired_get hp ha0
    have hw0 : us0.length = m0 := pu0.length.trans (hlm x0 (List.mem_of_getElem? hx0))
    have hx00 : (xss.getD 0 []).length = m0 := by
      rw [List.getD_eq_getElem?_getD, hx0]
      exact hlm x0 (List.mem_of_getElem? hx0)
    have alive : ∀ b ∈ as, H b ≠ none := fun b hb => by
      obtain ⟨j, hj⟩ := List.mem_iff_getElem?.mp hb
      obtain ⟨_, _, us, q, _⟩ := paired_get hp hj
      rw [q]
      intro z
      cases z
    have hr0 : (as.map V.ref)[0]? = some (.ref a0) := by rw [List.getElem?_map, ha0]; rfl
    walk_at "g"
    refine ixL hs (show atI (as.map V.ref) 0 = some (V.ref a0) from atI_nat (j := 0) hr0) ?_
    refine lenL hu0 rfl ?_
    rw [hw0]
    refine rg1 (by omega) (by omega) ?_
    rw [Int.toNat_natCast]
    refine rows_lc (src := srcC) (n := n) (G := fun _ => True) walk_range (fun _ => if like then xss.getD (a - 1) [] else List.replicate (xss.getD 0 []).length none) (by omega) (fun _ _ => trivial) (fun i x H2 H3 kk hi s2 y hk => ?_) fun D as2 HB hD sB hDl hpB hndB hfr hDn => ?_
    · obtain ⟨rfl, rfl⟩ := y
      cases like with
      | true =>
        have h1 := hlk rfl
        walk_at "n"
        rw [show (a : Int) - 1 = ((a - 1 : Nat) : Int) by omega]
        obtain ⟨b, hb⟩ : ∃ b, as[a - 1]? = some b := ⟨_, List.getElem?_eq_getElem (by omega)⟩
        obtain ⟨x1, hx1, us1, hu1, pu1⟩ := paired_get hp hb
        have hr1 : (as.map V.ref)[a - 1]? = some (.ref b) := by rw [List.getElem?_map, hb]; rfl
        refine ⟨trivial, ixLn (s2 _ _ hs) hr1 ?_⟩
        walk_at "n"
        refine listL (s2 _ _ hu1) fun l hl => hk l _ hl (Same.upd _ hl) ⟨us1, upd_same, ?_⟩
        rw [show (if (true = true) then xss.getD (a - 1) [] else List.replicate (xss.getD 0 []).length none) = xss.getD (a - 1) [] from rfl, List.getD_eq_getElem?_getD, hx1]
        exact Paired.mapP pu1 fun _ _ z => (z.stay (TupS.of s2)).stay (TupS.of (Same.upd _ hl))
      | false =>
        walk_at "n"
        refine ⟨trivial, by decide, fun p hp1 => ⟨p, (m0 : Int), [V.non], rfl, rfl, upd_same, by omega, by omega, ?_, fun l hl => ?_⟩⟩
        · rw [Int.toNat_natCast]
          have := (by decide : 1000 < sizeLine)
          simp
          omega
        · refine hk l _ (Same.free (Same.upd (.lst [V.non]) hp1) hl) ((Same.upd _ hp1).trans (Same.upd _ hl)) ⟨_, upd_same, ?_⟩
          rw [Int.toNat_natCast, show (if (false = true) then xss.getD (a - 1) [] else List.replicate (xss.getD 0 []).length none) = List.replicate (xss.getD 0 []).length none from rfl, hx00, show (List.replicate m0 [V.non]).flatten = List.replicate m0 V.non by simp]
          exact paired_rep (show TlAt srcC _ V.non none from rfl) m0
    · have hl2 : as2.length = n := by
        rw [hpB.length]
        simp
      walk_at "n"
      refine slL (sB _ _ hs) fun p hp1 => ?_
      rw [cutV_to]
      have s3 := Same.upd (.lst ((as.map V.ref).take a)) hp1
      refine catL upd_same (s3 _ _ hDl) (by rw [List.length_take, List.length_map, List.length_map]; omega) fun q hq => ?_
      have s4 := Same.upd (.lst ((as.map V.ref).take a ++ as2.map V.ref)) hq
      have hq1 : upd (upd HB p (.lst ((as.map V.ref).take a))) q (.lst ((as.map V.ref).take a ++ as2.map V.ref)) q = _ := upd_same
      have s14 := (sB.trans s3).trans s4
      have sB4 := s3.trans s4
      generalize upd (upd HB p (.lst ((as.map V.ref).take a))) q (.lst ((as.map V.ref).take a ++ as2.map V.ref)) = H4 at s14 sB4 hq1 ⊢
      refine slL (s14 _ _ hs) fun q2 hq2 => ?_
      rw [cutV_from]
      have s5 := Same.upd (.lst ((as.map V.ref).drop a)) hq2
      refine catL (s5 _ _ hq1) upd_same (by rw [List.length_append, List.length_take, List.length_map, List.length_map, List.length_drop, List.length_map]; omega) fun r hr' => ?_
      have s6 := Same.upd (.lst ((as.map V.ref).take a ++ as2.map V.ref ++ (as.map V.ref).drop a)) hr'
      have sA6 := (s14.trans s5).trans s6
      have sB6 := (sB4.trans s5).trans s6
      have hrn : H r = none := (s14.trans s5).free hr'
      have mem2 : ∀ b, b ∈ as2 → HB b ≠ none := fun b hb => by
        obtain ⟨j, hj⟩ := List.mem_iff_getElem?.mp hb
        obtain ⟨_, _, us, q, _⟩ := paired_get hpB hj
        rw [q]
        intro z
        cases z
      have hrB : HB r = none := (sB4.trans s5).free hr'
      refine k _ r (as.take a ++ as2 ++ as.drop a) sA6 hrn (by rw [List.map_append, List.map_append, List.map_take, List.map_drop]; exact upd_same) ?_ (fun b hb => ?_) (fun hb => ?_) ?_
      · have hsp : (as.take a ++ as.drop a).Nodup := by rw [List.take_append_drop]; exact hnd
        obtain ⟨q1, q2', q3⟩ := List.nodup_append.mp hsp
        have dis : ∀ x ∈ as, ∀ y ∈ as2, x ≠ y := fun x hx y hy z => alive x hx (by rw [z]; exact hfr y hy)
        refine List.nodup_append.mpr ⟨List.nodup_append.mpr ⟨q1, hndB, fun x hx y hy => dis x (List.mem_of_mem_take hx) y hy⟩, q2', fun x hx y hy => ?_⟩
        rcases List.mem_append.mp hx with z | z
        · exact q3 x z y hy
        · exact fun e => dis y (List.mem_of_mem_drop hy) x z e.symm
      · rcases List.mem_append.mp hb with z | z
        · rcases List.mem_append.mp z with z | z
          · exact .inl (List.mem_of_mem_take z)
          · exact .inr (hfr b z)
        · exact .inl (List.mem_of_mem_drop z)
      · rcases List.mem_append.mp hb with z | z
        · rcases List.mem_append.mp z with z | z
          · exact alive r (List.mem_of_mem_take z) hrn
          · exact mem2 r z hrB
        · exact alive r (List.mem_of_mem_drop z) hrn
      · have pA := Paired.mapP hp fun _ _ z => same_line sA6 z
        have pB := Paired.mapP hpB fun _ _ z => same_line sB6 z
        rw [List.map_const', List.length_range] at pB
        exact paired_app (paired_app (paired_take pA a) pB) (paired_drop pA a)
end

end Gr

namespace Gr
open PySem PySem.Spec PyProof.Rows L2
local macro_rules | `(tactic| walk_at "n") => `(tactic| try simp only [u_tVar, u_tC, u_tB, u_tTest, u_tAnd, u_tOr, u_tNot, u_tAndV, u_tOrV, u_tNotV, u_tIf, u_tNext, u_tSeq, u_tBreak, u_tCont, u_tDrop, u_tRet, u_tRetN, u_tIfS, u_tNever, u_gName, u_tAsg, u_tPar, u_gSub, u_tOp, u_tUn, u_tChain, u_tNil, u_tCons, u_tTup, u_tLst, u_tCB, u_tCall, u_tNoPart, u_tPart, u_tSl, u_tYes, u_iList', u_iTup', u_tLc, u_tDc, u_tFor, u_iRng1, u_iRng2, u_iEnum, u_iEnumT, u_iZip, u_iZip3, L2.wipe, u_sDPut', u_tDGet', u_tDNewK, u_tFld', u_sFld, u_gTup, u_gCons, u_gNil, u_tMeth, u_tMake, u_tMethC, u_tNdefM, u_tCallL, u_tLstRg, v_rI0, v_rI, v_eqI, v_neI, v_eqS, v_neS, v_bl, v_int, v_ref, v_some, v_two, w_insert_tell, w_remove_tell, w_remove_insert, w_move_tell, w_move_insert, w_move_remove, w_copy_tell, w_copy_insert, w_copy_remove, w_copy_move, w_rows_table, w_columns_table, w_cells_table, w_rows_cells, w_columns_cells, w_columns_rows, w_cells_rows, w_cells_columns, w_rows_columns, w_table_cells, w_table_rows, w_table_columns, w_column_row, w_plain_like, w_like_plain, w_old_new, w_new_old, w_newest_nearest, w_nearest_newest, w_ink_ground, w_ink_face, w_ground_ink, w_ground_face, w_face_ink, w_face_ground, w_whole_lanes, w_whole_files, w_whole_spots, w_lanes_files, w_lanes_spots, w_files_spots, List.getElem?_cons_zero, List.getElem?_cons_succ, List.set_cons_zero, List.set_cons_succ, List.append_nil, Bool.not_true, Bool.not_false, eq_self, if_true, Bool.false_eq_true, if_false, decide_true, decide_false, v_max, v_min, v_intQ, v_isN, v_notN, reduceCtorEq, Nat.reduceAdd, Nat.zero_add, Int.cast_ofNat_Int, Int.reduceEq, Int.reduceLE, Int.reduceLT, Int.reduceAdd, List.cons_append, List.nil_append, List.map_cons, List.map_nil, Sc.vs, ov, De.vs, how, List.length_cons, List.length_nil])
local macro_rules | `(tactic| walk_at "x") => `(tactic| first | refine ixT (by assumption) rfl ?_ | refine ixL (by assumption) rfl ?_ | refine lenT (by assumption) rfl ?_ | refine lenL (by assumption) rfl ?_ | refine isi (.base (.int _)) kit_int_int ?_ | refine isi (.base (.int _)) kit_int_str ?_ | refine isi (.base (.int _)) kit_int_bool ?_ | refine isi (.base (.int _)) kit_int_tuple ?_ | refine isi (.base (.int _)) kit_int_list ?_ | refine isi (.base (.str _)) kit_str_int ?_ | refine isi (.base (.str _)) kit_str_str ?_ | refine isi (.base (.str _)) kit_str_bool ?_ | refine isi (.base (.str _)) kit_str_tuple ?_ | refine isi (.base (.str _)) kit_str_list ?_ | refine isi (.base (.bl _)) kit_bool_int ?_ | refine isi (.base (.bl _)) kit_bool_str ?_ | refine isi (.base (.bl _)) kit_bool_bool ?_ | refine isi (.base (.bl _)) kit_bool_tuple ?_ | refine isi (.base (.bl _)) kit_bool_list ?_ | refine isi (.base (.tup (by assumption))) kit_tuple_int ?_ | refine isi (.base (.tup (by assumption))) kit_tuple_str ?_ | refine isi (.base (.tup (by assumption))) kit_tuple_bool ?_ | refine isi (.base (.tup (by assumption))) kit_tuple_tuple ?_ | refine isi (.base (.tup (by assumption))) kit_tuple_list ?_ | refine isi (.base (.lst (by assumption))) kit_list_int ?_ | refine isi (.base (.lst (by assumption))) kit_list_str ?_ | refine isi (.base (.lst (by assumption))) kit_list_bool ?_ | refine isi (.base (.lst (by assumption))) kit_list_tuple ?_ | refine isi (.base (.lst (by assumption))) kit_list_list ?_ | refine isi (.base (.non)) kit_NoneType_int ?_ | refine isi (.base (.non)) kit_NoneType_str ?_ | refine isi (.base (.non)) kit_NoneType_bool ?_ | refine isi (.base (.non)) kit_NoneType_tuple ?_ | refine isi (.base (.non)) kit_NoneType_list ?_)
local macro_rules | `(tactic| walk_at "g") => `(tactic| (repeat (walk_at "n"; walk_at "x")); walk_at "n")

-- Gr5
/-! ### insert, remove, move -/
structure LOp (g : ∀ {α : Type}, List α → List α) : Prop where
  map : ∀ {α β : Type} (f : α → β) (xs : List α), g (xs.map f) = (g xs).map f
  par : ∀ {α β : Type} {F : α → β → Prop} {xs : List α} {ys : List β}, Paired F xs ys → Paired F (g xs) (g ys)
  nod : ∀ {α : Type} {xs : List α}, xs.Nodup → (g xs).Nodup
  sub : ∀ {α : Type} {xs : List α} {x : α}, x ∈ g xs → x ∈ xs
theorem lop_rem (a n : Nat) : LOp (fun {_} xs => remL a n xs) := by
  refine ⟨fun f xs => ?_, fun p => paired_app (paired_take p _) (paired_drop p _), fun {α xs} h => ?_, fun {α xs x} h => ?_⟩
  · unfold remL
    rw [List.map_append, List.map_take, List.map_drop]
  · have e : (remL a n xs).Sublist xs := by
      have q : (xs.take a ++ xs.drop (a + n)).Sublist (xs.take a ++ xs.drop a) := List.Sublist.append (List.Sublist.refl _) (by rw [← List.drop_drop]; exact List.drop_sublist _ _)
      rw [List.take_append_drop] at q
      exact q
    exact h.sublist e
  · rcases List.mem_append.mp h with z | z
    · exact List.mem_of_mem_take z
    · exact List.mem_of_mem_drop z
theorem mov_perm {α : Type} (a n b : Nat) (xs : List α) : (movL a n b xs).Perm xs := by
  unfold movL
  have h1 : ((remL a n xs).take b ++ (xs.drop a).take n ++ (remL a n xs).drop b).Perm ((xs.drop a).take n ++ ((remL a n xs).take b ++ (remL a n xs).drop b)) := by
    rw [← List.append_assoc]
    exact List.Perm.append_right _ List.perm_append_comm
  rw [List.take_append_drop] at h1
  refine h1.trans ?_
  unfold remL
  have h2 : ((xs.drop a).take n ++ (xs.take a ++ xs.drop (a + n))).Perm (xs.take a ++ ((xs.drop a).take n ++ xs.drop (a + n))) := by
    rw [← List.append_assoc, ← List.append_assoc]
    exact List.Perm.append_right _ List.perm_append_comm
  refine h2.trans ?_
  rw [← List.drop_drop, List.take_append_drop, List.take_append_drop]
theorem lop_mov (a n b : Nat) : LOp (fun {_} xs => movL a n b xs) := by
  refine ⟨fun f xs => ?_, fun p => ?_, fun {α xs} h => (mov_perm a n b xs).nodup_iff.mpr h, fun {α xs x} h => (mov_perm a n b xs).mem_iff.mp h⟩
  · have e : remL a n (xs.map f) = (remL a n xs).map f := (lop_rem a n).map f xs
    unfold movL
    rw [e, List.map_append, List.map_append, List.map_take, List.map_take, List.map_drop, List.map_drop]
  · have q := (lop_rem a n).par p
    exact paired_app (paired_app (paired_take q _) (paired_take (paired_drop p _) _)) (paired_drop q _)
theorem rows_line {g : ∀ {α : Type}, List α → List α} (L : LOp g) {R : Nat → Prop} {vs : List V} {H : Hp} {Q : VK} {E : XK} (h : spRows g R vs H Q E) : spLine g R vs H Q E := by
  obtain ⟨s, as, xss, n, m, rfl, hs, hp, nd, hn, hm, hR, hz, hzm, k⟩ := h
  have hl : (as.map V.ref).length = n := by rw [List.length_map, hp.length, hn]
  refine ⟨s, as.map V.ref, rfl, hs, by rw [hl]; exact hR, by omega, fun H' l' sm n' e => ?_⟩
  refine k H' l' (g as) sm n' (by rw [e, L.map]) (L.nod nd) (fun a ha => .inl (L.sub ha)) (fun ha => ?_) (L.par (Paired.mapP hp fun _ _ z => same_line sm z))
  obtain ⟨j, hj⟩ := List.mem_iff_getElem?.mp (L.sub ha)
  obtain ⟨_, _, us, q, _⟩ := paired_get hp hj
  rw [n'] at q
  cases q
theorem fsT_none {dW dL dF dS : Addr} {x : Str} (h1 : (x == Str.ofString "whole") = false := by decide +kernel) (h2 : (x == Str.ofString "lanes") = false := by decide +kernel) (h3 : (x == Str.ofString "files") = false := by decide +kernel) (h4 : (x == Str.ofString "spots") = false := by decide +kernel) : (fsT dW dL dF dS).lookup x = none := by
  simp [fsT, List.lookup, h1, h2, h3, h4]
section
variable {P : Program} {w : World} {K : PySem.W.Frag} {mg : Str → Option Value} {fds : Str → FuncData} {base : Heap}
theorem hn_rc : nmN (fpos st_rc).line (fpos st_rc).col = ("Trace.remove" : Str) ++ ".<locals>." ++ "change" := by decide +kernel
theorem hn_mc : nmN (fpos st_mc).line (fpos st_mc).col = ("Trace.move" : Str) ++ ".<locals>." ++ "change" := by decide +kernel
theorem hn_ic : nmN (fpos st_ic).line (fpos st_ic).col = ("Trace.insert" : Str) ++ ".<locals>." ++ "change" := by decide +kernel
theorem hn_ir : nmN (fpos st_ir).line (fpos st_ir).col = ("Trace.insert" : Str) ++ ".<locals>." ++ "change_rows" := by decide +kernel
abbrev s_remove0 : Stmt := inClass (top 20) 4
abbrev clo (s : Stmt) (m : Stmt) (z : Nat) : List (Str × Addr) := cloFrom (cellsFrom (z + 1) (defScope m).names []) (C8.fnScope s).names []
abbrev s_remove : Stmt := inClass (top 20) 4
abbrev N_remove : List Str := ["self", "axis", "at", "many", "change"]
theorem sc_remove : FnScope N_remove ["self", "axis", "at", "many"] (defScope s_remove) := ⟨rfl, rfl, rfl, by decide +kernel, rfl, by decide +kernel, by decide +kernel⟩
def spRemove (K : PySem.W.Frag) : Sp := fun vs H Q _ => ∃ (t : Addr) (x : Ax) (a n : Nat) (T : Tr) (n0 m0 : Nat) (H0 : Hp), vs = [.ref t, .str x.s, .int (a : Int), .int (n : Int)] ∧ TrIn K (TbN K) H0 H t T ∧ T.Wf n0 m0 ∧ n0 ≤ 200 ∧ m0 ≤ 200 ∧ ∀ H', TrIn K (TbN K) H0 H' t (T.chg x (remL a n) (remL a n)) → Q .non H'
theorem ok_remove (T : Txt K mg fds) (TC : TabsOk K mg base) : FnOk P w K mg base CX0 5 (He.ma K (He.ga K "Trace") "remove") (fds "Trace.remove") ["self", "axis", "at", "many"] (spRemove K) := by
  refine fun_okC (p := ("Trace", some "remove")) T.e_remove.fn rfl sc_remove (fun vs H Q E h => ?_) (fun A outer s H vs Q E hr h => ?_)
  · obtain ⟨t, x, a, n, T, n0, m0, H0, rfl, _⟩ := h; rfl
  · obtain ⟨t, x, a, n, Z, n0, m0, H0, rfl, hin, wf, hn0, hm0, kk⟩ := h
    have nd := sc_remove.nd
    refine ⟨_, PSs.nox (pss_cons (NdefX.ps_ndefMS (st := st_rc) (T := TbN K) (nm := nmN) (i := 4) rfl (TC ("Trace", some "remove") (by decide)) rfl (tbN_in (p := ("Trace", some "remove")) (by decide)) hn_rc (tbN_u _) (NdefX.ndef_free (sc := defScope s_remove0) (nsc := C8.fnScope st_rc) (fr := ["at", "many"]) (by decide +kernel)) rfl rfl rfl nd rfl (Or.inl rfl) (Or.inl rfl))
      (pss_one (ps_expr (pe_methC (L := [(clo st_rc s_remove0 s.heap.objs.size, ["at", "many"], [2, 3])]) (all1 fun ok => NdefX.Caps.made ok (NdefX.ndef_free (sc := defScope s_remove0) (nsc := C8.fnScope st_rc) (fr := ["at", "many"]) (by decide +kernel)) (NdefX.ndef_fr (sc := defScope s_remove0) (nsc := C8.fnScope st_rc) (fr := ["at", "many"]) (by decide +kernel)) rfl) (fun _ => rfl) (pv 0) T.k_Trace T.h_shift (ok_shift T (TbN K)) (hr.mono (show 3 ≤ 4 by decide)) T.e_shift.bd (pa_cons (pv 1) (pa_cons (pv 4) (pa_cons (pv 4) pa_nil))))))), ?_⟩
    rw [show L2.start N_remove [.ref t, .str x.s, .int (a : Int), .int (n : Int)] = [some (.ref t), some (.str x.s), some (.int (a : Int)), some (.int (n : Int)), none] from rfl]
    walk_at "g"
    refine ⟨hin.tb, fun f c' H1 eN mo tb1 hf0 hf1 hc1 => ?_⟩
    have hin1 := hin.grow2 ⟨eN, mo⟩ tb1
    obtain ⟨o, ro, hx⟩ := hin1.x
    obtain ⟨dx, hob⟩ := hx.ob
    walk_at "n"
    refine mthI hob fsT_none ?_
    walk_at "n"
    intro cs co hcc hcn
    have cc := hcc _ List.mem_cons_self
    have s1 := addC_same (co := co) hcn
    refine ⟨t, f, f, x, FnAtC f _ cs co, fun xs => remL a n xs, fun xs => remL a n xs, fun xs => remL a n xs, fun _ => True, Z, n0, m0, H0, rfl, ⟨fun H h => ⟨_, h.1⟩, fun H h => ⟨_, h.1⟩, ?_, ?_, fun _ p _ => (lop_rem a n).par p, fun H H' k h => h.keep k⟩, ⟨s1 _ _ hf1, s1 _ _ hc1, fun c hc => addC_in hc⟩, hin1.grow s1, wf, trivial, hn0, trivial, hm0, fun H2 h2 c2 => ?_⟩
    · exact chg_line (nok_rc T (fun _ => True) _ _ f c') cc fun vs H Q h => ⟨a, n, rfl, h⟩
    · exact chg_rows (nok_rc T (fun _ => True) _ _ f c') cc fun vs H Q h => ⟨a, n, rfl, rows_line (lop_rem a n) h⟩
    · exact kk _ (h2.hide c2 fun b hb => hin1.gx.mono b (hcn b hb))
abbrev s_move0 : Stmt := inClass (top 20) 5
abbrev s_move : Stmt := inClass (top 20) 5
abbrev N_move : List Str := ["self", "axis", "at", "many", "to", "change"]
theorem sc_move : FnScope N_move ["self", "axis", "at", "many", "to"] (defScope s_move) := ⟨rfl, rfl, rfl, by decide +kernel, rfl, by decide +kernel, by decide +kernel⟩
def spMove (K : PySem.W.Frag) : Sp := fun vs H Q _ => ∃ (t : Addr) (x : Ax) (a n b : Nat) (T : Tr) (n0 m0 : Nat) (H0 : Hp), vs = [.ref t, .str x.s, .int (a : Int), .int (n : Int), .int (b : Int)] ∧ TrIn K (TbN K) H0 H t T ∧ T.Wf n0 m0 ∧ n0 ≤ 200 ∧ m0 ≤ 200 ∧ ∀ H', TrIn K (TbN K) H0 H' t (T.chg x (movL a n b) (movL a n b)) → Q .non H'
theorem ok_move (T : Txt K mg fds) (TC : TabsOk K mg base) : FnOk P w K mg base CX0 5 (He.ma K (He.ga K "Trace") "move") (fds "Trace.move") ["self", "axis", "at", "many", "to"] (spMove K) := by
  refine fun_okC (p := ("Trace", some "move")) T.e_move.fn rfl sc_move (fun vs H Q E h => ?_) (fun A outer s H vs Q E hr h => ?_)
  · obtain ⟨t, x, a, n, b, T, n0, m0, H0, rfl, _⟩ := h; rfl
  · obtain ⟨t, x, a, n, b, Z, n0, m0, H0, rfl, hin, wf, hn0, hm0, kk⟩ := h
    have nd := sc_move.nd
    refine ⟨_, PSs.nox (pss_cons (NdefX.ps_ndefMS (st := st_mc) (T := TbN K) (nm := nmN) (i := 5) rfl (TC ("Trace", some "move") (by decide)) rfl (tbN_in (p := ("Trace", some "move")) (by decide)) hn_mc (tbN_u _) (NdefX.ndef_free (sc := defScope s_move0) (nsc := C8.fnScope st_mc) (fr := ["at", "many", "to"]) (by decide +kernel)) rfl rfl rfl nd rfl (Or.inl rfl) (Or.inl rfl))
      (pss_one (ps_expr (pe_methC (L := [(clo st_mc s_move0 s.heap.objs.size, ["at", "many", "to"], [2, 3, 4])]) (all1 fun ok => NdefX.Caps.made ok (NdefX.ndef_free (sc := defScope s_move0) (nsc := C8.fnScope st_mc) (fr := ["at", "many", "to"]) (by decide +kernel)) (NdefX.ndef_fr (sc := defScope s_move0) (nsc := C8.fnScope st_mc) (fr := ["at", "many", "to"]) (by decide +kernel)) rfl) (fun _ => rfl) (pv 0) T.k_Trace T.h_shift (ok_shift T (TbN K)) (hr.mono (show 3 ≤ 4 by decide)) T.e_shift.bd (pa_cons (pv 1) (pa_cons (pv 5) (pa_cons (pv 5) pa_nil))))))), ?_⟩
    rw [show L2.start N_move [.ref t, .str x.s, .int (a : Int), .int (n : Int), .int (b : Int)] = [some (.ref t), some (.str x.s), some (.int (a : Int)), some (.int (n : Int)), some (.int (b : Int)), none] from rfl]
    walk_at "g"
    refine ⟨hin.tb, fun f c' H1 eN mo tb1 hf0 hf1 hc1 => ?_⟩
    have hin1 := hin.grow2 ⟨eN, mo⟩ tb1
    obtain ⟨o, ro, hx⟩ := hin1.x
    obtain ⟨dx, hob⟩ := hx.ob
    walk_at "n"
    refine mthI hob fsT_none ?_
    walk_at "n"
    intro cs co hcc hcn
    have cc := hcc _ List.mem_cons_self
    have s1 := addC_same (co := co) hcn
    refine ⟨t, f, f, x, FnAtC f _ cs co, fun xs => movL a n b xs, fun xs => movL a n b xs, fun xs => movL a n b xs, fun _ => True, Z, n0, m0, H0, rfl, ⟨fun H h => ⟨_, h.1⟩, fun H h => ⟨_, h.1⟩, ?_, ?_, fun _ p _ => (lop_mov a n b).par p, fun H H' k h => h.keep k⟩, ⟨s1 _ _ hf1, s1 _ _ hc1, fun c hc => addC_in hc⟩, hin1.grow s1, wf, trivial, hn0, trivial, hm0, fun H2 h2 c2 => ?_⟩
    · exact chg_line (nok_mc T (fun _ => True) _ _ f c') cc fun vs H Q h => ⟨a, n, b, rfl, h⟩
    · exact chg_rows (nok_mc T (fun _ => True) _ _ f c') cc fun vs H Q h => ⟨a, n, b, rfl, rows_line (lop_mov a n b) h⟩
    · exact kk _ (h2.hide c2 fun b hb => hin1.gx.mono b (hcn b hb))
abbrev s_insert0 : Stmt := inClass (top 20) 3
abbrev s_insert : Stmt := inClass (top 20) 3
abbrev N_insert : List Str := ["self", "axis", "at", "many", "how", "change", "change_rows"]
theorem sc_insert : FnScope N_insert ["self", "axis", "at", "many", "how"] (defScope s_insert) := ⟨rfl, rfl, rfl, by decide +kernel, rfl, by decide +kernel, by decide +kernel⟩
def spInsert (K : PySem.W.Frag) : Sp := fun vs H Q _ => ∃ (t : Addr) (x : Ax) (a n : Nat) (like : Bool) (T : Tr) (n0 m0 : Nat) (H0 : Hp), vs = [.ref t, .str x.s, .int (a : Int), .int (n : Int), .str (how like)] ∧ TrIn K (TbN K) H0 H t T ∧ T.Wf n0 m0 ∧ n0 ≤ 200 ∧ m0 ≤ 200 ∧ a ≤ n0 ∧ 1 ≤ n0 ∧ a ≤ m0 ∧ 1 ≤ m0 ∧ n ≤ 3 ∧ (like = true → 1 ≤ a) ∧ ∀ H', TrIn K (TbN K) H0 H' t (T.chg x (insO none like a n) (insR like a n)) → Q .non H'
theorem insO_par {α : Type} {F : V → Option (Tl α) → Prop} {vs : List V} {xs : List (Option (Tl α))} {like : Bool} {a n : Nat} (h0 : F .non none) (p : Paired F vs xs) (hl : like = true → a - 1 < xs.length) : Paired F (insO V.non like a n vs) (insO none like a n xs) := by
  unfold insO insL
  refine paired_app (paired_app (paired_take p _) (paired_rep ?_ n)) (paired_drop p _)
  cases like with
  | false => exact h0
  | true =>
    have h1 := hl rfl
    have e := p.length
    obtain ⟨y, hy, q⟩ := paired_get p (List.getElem?_eq_getElem (show a - 1 < vs.length by omega))
    show F (vs.getD (a - 1) V.non) (xs.getD (a - 1) none)
    rw [List.getD_eq_getElem?_getD, List.getD_eq_getElem?_getD, hy, List.getElem?_eq_getElem (show a - 1 < vs.length by omega)]
    exact q
theorem ok_insert (T : Txt K mg fds) (TC : TabsOk K mg base) : FnOk P w K mg base CX0 5 (He.ma K (He.ga K "Trace") "insert") (fds "Trace.insert") ["self", "axis", "at", "many", "how"] (spInsert K) := by
  refine fun_okC (p := ("Trace", some "insert")) T.e_insert.fn rfl sc_insert (fun vs H Q E h => ?_) (fun A outer s H vs Q E hr h => ?_)
  · obtain ⟨t, x, a, n, like, T, n0, m0, H0, rfl, _⟩ := h; rfl
  · obtain ⟨t, x, a, n, like, Z, n0, m0, H0, rfl, hin, wf, hn0, hm0, ha1, hn1, ha2, hm1, hn3, hlk, kk⟩ := h
    have nd := sc_insert.nd
    refine ⟨_, PSs.nox (pss_cons (NdefX.ps_ndefMS (st := st_ic) (T := TbN K) (nm := nmN) (i := 5) rfl (TC ("Trace", some "insert") (by decide)) rfl (tbN_in (p := ("Trace", some "insert")) (by decide)) hn_ic (tbN_u _) (NdefX.ndef_free (sc := defScope s_insert0) (nsc := C8.fnScope st_ic) (fr := ["at", "many", "how"]) (by decide +kernel)) rfl rfl rfl nd rfl (Or.inl rfl) (Or.inl rfl))
      (pss_cons (NdefX.ps_ndefMS (st := st_ir) (T := TbN K) (nm := nmN) (i := 6) rfl (TC ("Trace", some "insert") (by decide)) rfl (tbN_in (p := ("Trace", some "insert")) (by decide)) hn_ir (tbN_u _) (NdefX.ndef_free (sc := defScope s_insert0) (nsc := C8.fnScope st_ir) (fr := ["at", "many", "how"]) (by decide +kernel)) rfl rfl rfl nd rfl (Or.inl rfl) (Or.inl rfl))
      (pss_one (ps_expr (pe_methC (L := [(clo st_ic s_insert0 s.heap.objs.size, ["at", "many", "how"], [2, 3, 4]), (clo st_ir s_insert0 s.heap.objs.size, ["at", "many", "how"], [2, 3, 4])]) (all2 (fun ok => NdefX.Caps.made ok (NdefX.ndef_free (sc := defScope s_insert0) (nsc := C8.fnScope st_ic) (fr := ["at", "many", "how"]) (by decide +kernel)) (NdefX.ndef_fr (sc := defScope s_insert0) (nsc := C8.fnScope st_ic) (fr := ["at", "many", "how"]) (by decide +kernel)) rfl) (fun ok => NdefX.Caps.made ok (NdefX.ndef_free (sc := defScope s_insert0) (nsc := C8.fnScope st_ir) (fr := ["at", "many", "how"]) (by decide +kernel)) (NdefX.ndef_fr (sc := defScope s_insert0) (nsc := C8.fnScope st_ir) (fr := ["at", "many", "how"]) (by decide +kernel)) rfl)) (fun _ => rfl) (pv 0) T.k_Trace T.h_shift (ok_shift T (TbN K)) (hr.mono (show 3 ≤ 4 by decide)) T.e_shift.bd (pa_cons (pv 1) (pa_cons (pv 5) (pa_cons (pv 6) pa_nil)))))))), ?_⟩
    rw [show L2.start N_insert [.ref t, .str x.s, .int (a : Int), .int (n : Int), .str (how like)] = [some (.ref t), some (.str x.s), some (.int (a : Int)), some (.int (n : Int)), some (.str (how like)), none, none] from rfl]
    walk_at "g"
    refine ⟨hin.tb, fun f c' H1 eN mo tb1 hf0 hf1 hc1 => ?_⟩
    have hin1 := hin.grow2 ⟨eN, mo⟩ tb1
    walk_at "n"
    refine ⟨tb1, fun f2 c2 H2 eN2 mo2 tb2 hf02 hf12 hc12 => ?_⟩
    have hin2 := hin1.grow2 ⟨eN2, mo2⟩ tb2
    have hf1 := eN2 _ _ hf1 (fun ps z => NdefX.fnO_ne ps z)
    have hc1 := eN2 _ _ hc1 (fun ps z => by cases z)
    obtain ⟨o, ro, hx⟩ := hin2.x
    obtain ⟨dx, hob⟩ := hx.ob
    walk_at "n"
    refine mthI hob fsT_none ?_
    walk_at "n"
    intro cs co hcc hcn
    have cc := hcc _ List.mem_cons_self
    have cc2 := hcc _ (List.mem_cons_of_mem _ List.mem_cons_self)
    have s1 := addC_same (co := co) hcn
    refine ⟨t, f, f2, x, fun H => FnAtC f _ cs co H ∧ FnAtC f2 _ cs co H, fun xs => insO V.non like a n xs, fun xs => insO none like a n xs, insR like a n, fun m => a ≤ m ∧ 1 ≤ m, Z, n0, m0, H0, rfl, ⟨fun H h => ⟨_, h.1.1⟩, fun H h => ⟨_, h.2.1⟩, ?_, ?_, fun h0 p hR => ?_, fun H H' k h => ⟨h.1.keep k, h.2.keep k⟩⟩, ⟨⟨s1 _ _ hf1, s1 _ _ hc1, fun c hc => addC_in hc⟩, ⟨s1 _ _ hf12, s1 _ _ hc12, fun c hc => addC_in hc⟩⟩, hin2.grow s1, wf, ⟨ha1, hn1⟩, hn0, ⟨ha2, hm1⟩, hm0, fun H2 h2 c2 => ?_⟩
    · refine (chg_line (R := fun m => a ≤ m ∧ 1 ≤ m) (nok_ic T _ _ f c') cc fun vs H Q h => ⟨a, n, like, rfl, hn3, hlk, ?_⟩).imp (fun _ h => h.1) fun _ _ _ _ h => h
      obtain ⟨l, xs, rfl, hl, hR, hz, k⟩ := h
      exact ⟨l, xs, rfl, hl, hR.1, hz, k⟩
    · exact (chg_rows (nok_ir T _ _ f2 c2) cc2 fun vs H Q h => ⟨a, n, like, rfl, hn3, hlk, h⟩).imp (fun _ h => h.2) fun _ _ _ _ h => h
    · exact insO_par h0 p fun e => by
        have := hlk e
        omega
    · exact kk _ (h2.hide c2 fun b hb => hin2.gx.mono b (hcn b hb))
end

end Gr

namespace Gr
open PySem PySem.Spec PyProof.Rows L2
local macro_rules | `(tactic| walk_at "n") => `(tactic| try simp only [u_tVar, u_tC, u_tB, u_tTest, u_tAnd, u_tOr, u_tNot, u_tAndV, u_tOrV, u_tNotV, u_tIf, u_tNext, u_tSeq, u_tBreak, u_tCont, u_tDrop, u_tRet, u_tRetN, u_tIfS, u_tNever, u_gName, u_tAsg, u_tPar, u_gSub, u_tOp, u_tUn, u_tChain, u_tNil, u_tCons, u_tTup, u_tLst, u_tCB, u_tCall, u_tNoPart, u_tPart, u_tSl, u_tYes, u_iList', u_iTup', u_tLc, u_tDc, u_tFor, u_iRng1, u_iRng2, u_iEnum, u_iEnumT, u_iZip, u_iZip3, L2.wipe, u_sDPut', u_tDGet', u_tDNewK, u_tFld', u_sFld, u_gTup, u_gCons, u_gNil, u_tMeth, u_tMake, u_tMethC, u_tNdefM, u_tCallL, u_tLstRg, v_rI0, v_rI, v_eqI, v_neI, v_eqS, v_neS, v_bl, v_int, v_ref, v_some, v_two, w_insert_tell, w_remove_tell, w_remove_insert, w_move_tell, w_move_insert, w_move_remove, w_copy_tell, w_copy_insert, w_copy_remove, w_copy_move, w_rows_table, w_columns_table, w_cells_table, w_rows_cells, w_columns_cells, w_columns_rows, w_cells_rows, w_cells_columns, w_rows_columns, w_table_cells, w_table_rows, w_table_columns, w_column_row, w_plain_like, w_like_plain, w_old_new, w_new_old, w_newest_nearest, w_nearest_newest, w_ink_ground, w_ink_face, w_ground_ink, w_ground_face, w_face_ink, w_face_ground, w_whole_lanes, w_whole_files, w_whole_spots, w_lanes_files, w_lanes_spots, w_files_spots, List.getElem?_cons_zero, List.getElem?_cons_succ, List.set_cons_zero, List.set_cons_succ, List.append_nil, Bool.not_true, Bool.not_false, eq_self, if_true, Bool.false_eq_true, if_false, decide_true, decide_false, v_max, v_min, v_intQ, v_isN, v_notN, reduceCtorEq, Nat.reduceAdd, Nat.zero_add, Int.cast_ofNat_Int, Int.reduceEq, Int.reduceLE, Int.reduceLT, Int.reduceAdd, List.cons_append, List.nil_append, List.map_cons, List.map_nil, Sc.vs, ov, De.vs, how, List.length_cons, List.length_nil])
local macro_rules | `(tactic| walk_at "x") => `(tactic| first | refine ixT (by assumption) rfl ?_ | refine ixL (by assumption) rfl ?_ | refine lenT (by assumption) rfl ?_ | refine lenL (by assumption) rfl ?_ | refine isi (.base (.int _)) kit_int_int ?_ | refine isi (.base (.int _)) kit_int_str ?_ | refine isi (.base (.int _)) kit_int_bool ?_ | refine isi (.base (.int _)) kit_int_tuple ?_ | refine isi (.base (.int _)) kit_int_list ?_ | refine isi (.base (.str _)) kit_str_int ?_ | refine isi (.base (.str _)) kit_str_str ?_ | refine isi (.base (.str _)) kit_str_bool ?_ | refine isi (.base (.str _)) kit_str_tuple ?_ | refine isi (.base (.str _)) kit_str_list ?_ | refine isi (.base (.bl _)) kit_bool_int ?_ | refine isi (.base (.bl _)) kit_bool_str ?_ | refine isi (.base (.bl _)) kit_bool_bool ?_ | refine isi (.base (.bl _)) kit_bool_tuple ?_ | refine isi (.base (.bl _)) kit_bool_list ?_ | refine isi (.base (.tup (by assumption))) kit_tuple_int ?_ | refine isi (.base (.tup (by assumption))) kit_tuple_str ?_ | refine isi (.base (.tup (by assumption))) kit_tuple_bool ?_ | refine isi (.base (.tup (by assumption))) kit_tuple_tuple ?_ | refine isi (.base (.tup (by assumption))) kit_tuple_list ?_ | refine isi (.base (.lst (by assumption))) kit_list_int ?_ | refine isi (.base (.lst (by assumption))) kit_list_str ?_ | refine isi (.base (.lst (by assumption))) kit_list_bool ?_ | refine isi (.base (.lst (by assumption))) kit_list_tuple ?_ | refine isi (.base (.lst (by assumption))) kit_list_list ?_ | refine isi (.base (.non)) kit_NoneType_int ?_ | refine isi (.base (.non)) kit_NoneType_str ?_ | refine isi (.base (.non)) kit_NoneType_bool ?_ | refine isi (.base (.non)) kit_NoneType_tuple ?_ | refine isi (.base (.non)) kit_NoneType_list ?_)
local macro_rules | `(tactic| walk_at "g") => `(tactic| (repeat (walk_at "n"; walk_at "x")); walk_at "n")

-- Gr5
/-! ### copy -/
def layN {α : Type} (d : α) (ys : List α) (a : Nat) : Nat → List α → List α
  | 0, xs => xs
  | j + 1, xs => (layN d ys a j xs).set (a + j) (ys.getD j d)
theorem layN_len {α : Type} (d : α) (ys : List α) (a : Nat) : ∀ (j : Nat) (xs : List α), (layN d ys a j xs).length = xs.length
  | 0, _ => rfl
  | j + 1, xs => by rw [layN, List.length_set, layN_len d ys a j xs]
def heldL (t b l r : Nat) (xss : List (List Spot)) : List (List Spot) := ((xss.drop t).take (b + 1 - t)).map fun line => (line.drop l).take (r + 1 - l)
def cpyN (held : List (List Spot)) (row col : Nat) : Nat → List (List Spot) → List (List Spot)
  | 0, xss => xss
  | d + 1, xss => (cpyN held row col d xss).modify (row + d) (layN none (held.getD d []) col (held.getD d []).length)
theorem cpyN_len (held : List (List Spot)) (row col : Nat) : ∀ (d : Nat) (xss : List (List Spot)), (cpyN held row col d xss).length = xss.length
  | 0, _ => rfl
  | d + 1, xss => by rw [cpyN, List.length_modify, cpyN_len held row col d xss]
theorem cpyN_get (held : List (List Spot)) (row col : Nat) : ∀ (d : Nat) (xss : List (List Spot)) (i : Nat), row + d ≤ i → (cpyN held row col d xss)[i]? = xss[i]?
  | 0, _, _, _ => rfl
  | d + 1, xss, i, h => by
    have e : ¬ row + d = i := by omega
    rw [cpyN, List.getElem?_modify, cpyN_get held row col d xss i (by omega)]
    simp [e]
theorem cpyN_succ (held : List (List Spot)) (row col d : Nat) (xss : List (List Spot)) {x : List Spot} (h : xss[row + d]? = some x) : cpyN held row col (d + 1) xss = (cpyN held row col d xss).set (row + d) (layN none (held.getD d []) col (held.getD d []).length x) := by
  have q := cpyN_get held row col d xss (row + d) (Nat.le_refl _)
  rw [h] at q
  rw [cpyN]
  apply List.ext_getElem?
  intro j
  rw [List.getElem?_modify, List.getElem?_set]
  have hl := (List.getElem?_eq_some_iff.mp q).1
  by_cases e : row + d = j
  · subst e
    have e2 := (List.getElem?_eq_some_iff.mp q).2
    simp [hl, e2]
  · simp [e]
def Tr.copy (T : Tr) (t b l r row col : Nat) : Tr := { T with spots := fun k => cpyN (heldL t b l r (T.spots k)) row col (heldL t b l r (T.spots k)).length (T.spots k) }
theorem range_getD {α : Type} {n : Nat} {xs : List α} (d : α) (h : xs.length = n) : (List.range n).map (fun i => xs.getD i d) = xs := by
  apply List.ext_getElem?
  intro j
  rw [List.getElem?_map]
  by_cases hj : j < n
  · rw [List.getElem?_range hj]
    simp [List.getD_eq_getElem?_getD, List.getElem?_eq_getElem (show j < xs.length by omega)]
  · rw [List.getElem?_eq_none (by simpa using hj), List.getElem?_eq_none (by omega)]
    rfl
theorem getD_some {α : Type} {xs : List α} {i : Nat} {x : α} (d : α) (h : xs[i]? = some x) : xs.getD i d = x := by
  rw [List.getD_eq_getElem?_getD, h]
  rfl
section
variable {P : Program} {w : World} {K : PySem.W.Frag} {mg : Str → Option Value} {fds : Str → FuncData} {base : Heap}
abbrev s_copy : Stmt := inClass (top 20) 6
abbrev N_copy : List Str := ["self", "scope", "row", "column", "word", "top", "bottom", "left", "right", "kind", "held", "line", "down", "along", "telling"]
theorem sc_copy : FnScope N_copy ["self", "scope", "row", "column"] (defScope s_copy) := ⟨rfl, rfl, rfl, by decide +kernel, rfl, by decide +kernel, by decide +kernel⟩
def spCopy (K : PySem.W.Frag) (Tb : List NdefX.NTab) : Sp := fun vs H Q _ => ∃ (t q : Addr) (tp bt l r row col : Nat) (T : Tr) (n m : Nat) (H0 : Hp), vs = [.ref t, .ref q, .int (row : Int), .int (col : Int)] ∧ H q = some (.tup (Sc.cells tp bt l r).vs) ∧ tp ≤ bt ∧ bt ≤ 9 ∧ l ≤ r ∧ r ≤ 9 ∧ row ≤ 9 ∧ col ≤ 9 ∧ TrIn K Tb H0 H t T ∧ T.Wf n m ∧ 19 ≤ n ∧ n ≤ 200 ∧ 19 ≤ m ∧ m ≤ 200 ∧
  ∀ H', TrIn K Tb H0 H' t (T.copy tp bt l r row col) → Q .non H'
theorem ok_copy (T : Txt K mg fds) (Tb : List NdefX.NTab) : FnOk P w K mg base CX0 2 (He.ma K (He.ga K "Trace") "copy") (fds "Trace.copy") ["self", "scope", "row", "column"] (spCopy K Tb) := by
  refine T.e_copy.fn.ok sc_copy (fun vs H Q E h => ?_) (fun cdv A outer s H vs Q E hr h => ?_)
  · obtain ⟨t, q, tp, bt, l, r, row, col, T, n, m, H0, rfl, _⟩ := h; rfl
  · obtain ⟨t, q, tp, bt, l, r, row, col, Z, n, m, H0, rfl, hq, h1, h2, h3, h4, h5, h6, hin, wf, hn, hn2, hm, hm2, kk⟩ := h
    have nd := sc_copy.nd
    refine ⟨_, PSs.nox (pss_cons (ps_asg (pv 1) (pg_tup rfl (pgs_cons (pg_name (i := 4) nd rfl (by first | exact Or.inl rfl | exact Or.inr rfl)) (pgs_cons (pg_name (i := 5) nd rfl (by first | exact Or.inl rfl | exact Or.inr rfl)) (pgs_cons (pg_name (i := 6) nd rfl (by first | exact Or.inl rfl | exact Or.inr rfl)) (pgs_cons (pg_name (i := 7) nd rfl (by first | exact Or.inl rfl | exact Or.inr rfl)) (pgs_cons (pg_name (i := 8) nd rfl (by first | exact Or.inl rfl | exact Or.inr rfl)) pgs_nil)))))))
      (pss_one (ps_for PassesOwn.never rfl (pi_tup (pe_glob (v := .ref (He.ga K "KINDS")) rfl T.m_KINDS rfl)) (pg_name (i := 9) nd rfl (by first | exact Or.inl rfl | exact Or.inr rfl))
        (pss_cons (ps_setLc (i := 10) (own := [("line", 11)]) rfl nd rfl rfl (sw_true rfl rfl rfl (by decide +kernel)) (pi_list (pe_slice sl_list (pe_dget (ru hr) (pe_fld (pv 0) rfl) (pv 9) (fun _ _ => rfl)) (po_some (pv 5)) (po_some (pe_op op_add (pv 6) pe_int)))) (blkOk_by (N := N_copy) (sc := (defScope s_copy)) (by decide +kernel)) (fun _ _ _ _ _ => (pg_name (i := 11) nd rfl (by first | exact Or.inl rfl | exact Or.inr rfl))) (fun _ _ _ _ _ => pts_nil) (fun _ _ _ _ _ => (pe_slice (sl_listK (K := K) rfl) (pv 11) (po_some (pv 7)) (po_some (pe_op op_add (pv 8) pe_int)))))
        (pss_one (ps_for PassesOwn.never rfl (pi_enum (by rfl) T.g_enumerate (pa_cons (pv 10) pa_nil)) (pg_tup rfl (pgs_cons (pg_name (i := 12) nd rfl (by first | exact Or.inl rfl | exact Or.inr rfl)) (pgs_cons (pg_name (i := 11) nd rfl (by first | exact Or.inl rfl | exact Or.inr rfl)) pgs_nil)))
          (pss_one (ps_for PassesOwn.never rfl (pi_enum (by rfl) T.g_enumerate (pa_cons (pv 11) pa_nil)) (pg_tup rfl (pgs_cons (pg_name (i := 13) nd rfl (by first | exact Or.inl rfl | exact Or.inr rfl)) (pgs_cons (pg_name (i := 14) nd rfl (by first | exact Or.inl rfl | exact Or.inr rfl)) pgs_nil)))
            (pss_one (ps_asg (pv 14) (pg_sub (pe_ix ix_list (pe_dget (ru hr) (pe_fld (pv 0) rfl) (pv 9) (fun _ _ => rfl)) (pe_op op_add (pv 2) (pv 12)) (fun _ _ => rfl)) (pe_op op_add (pv 3) (pv 13)) set_list))))))))))), ?_⟩
    rw [show L2.start N_copy [.ref t, .ref q, .int (row : Int), .int (col : Int)] = [some (.ref t), some (.ref q), some (.int (row : Int)), some (.int (col : Int)), none, none, none, none, none, none, none, none, none, none, none] from rfl]
    walk_at "n"
    refine tupG hq rfl ?_
    walk_at "n"
    refine tpT (T.t_KINDS _) ?_
    obtain ⟨o, ro, hx⟩ := hin.x
    refine forW (n := 3) (G := fun H => SqT K H (He.ga K "KINDS") kvs3) (walk_tup (xs := kvs3)) (fun i σ HH => ∃ (k9 k10 k11 k12 k13 k14 : Option V), σ = [some (.ref t), some (.ref q), some (.int (row : Int)), some (.int (col : Int)), some (.str "cells"), some (.int (tp : Int)), some (.int (bt : Int)), some (.int (l : Int)), some (.int (r : Int)), k9, k10, k11, k12, k13, k14] ∧ TrX K Tb H0 HH t { Z with spots := upTo i Z.spots (fun k => cpyN (heldL tp bt l r (Z.spots k)) row col (heldL tp bt l r (Z.spots k)).length (Z.spots k)) } o ro) ?_ (fun i σ HH _ _ => T.t_KINDS HH) ?_ ?_
    · refine ⟨none, none, none, none, none, none, rfl, ?_⟩
      rw [upTo_0]
      exact hx
    · rintro i x σ H10 HH hi ⟨k9, k10, k11, k12, k13, k14, rfl, hx⟩ ⟨rfl, hix⟩
      obtain ⟨_, rfl⟩ := kvs3_get hix
      generalize hS0 : upTo i Z.spots (fun k => cpyN (heldL tp bt l r (Z.spots k)) row col (heldL tp bt l r (Z.spots k)).length (Z.spots k)) = S0 at hx
      have hSk : S0 (kof i) = Z.spots (kof i) := by rw [← hS0, upTo_at hi]
      have hSn : setK S0 (kof i) (cpyN (heldL tp bt l r (Z.spots (kof i))) row col (heldL tp bt l r (Z.spots (kof i))).length (Z.spots (kof i))) = upTo (i + 1) Z.spots (fun k => cpyN (heldL tp bt l r (Z.spots k)) row col (heldL tp bt l r (Z.spots k)).length (Z.spots k)) := by
        rw [← hS0]
        exact upTo_set hi Z.spots (fun k => cpyN (heldL tp bt l r (Z.spots k)) row col (heldL tp bt l r (Z.spots k)).length (Z.spots k))
      generalize kof i = k at hSk hSn ⊢
      obtain ⟨dx, hob⟩ := hx.ob
      have pr : Paired (LineAt srcC HH) (o.rw k) (S0 k) := hx.at_.rw k
      rw [hSk] at pr
      have hwn := wf.sp k
      have hwm := wf.rw k
      generalize hX : Z.spots k = X at pr hSk hSn hwn hwm
      walk_at "n"
      refine fldG hob T.k_Trace T.n_spots (fsT_spots _ _ _ _) ?_
      walk_at "n"
      refine kdGet hx.at_.s ?_
      walk_at "n"
      rw [show (bt : Int) + 1 = ((bt + 1 : Nat) : Int) by omega]
      refine slL (hx.at_.sp k) fun p hp => ?_
      rw [cutV_nat]
      have e0 : (((o.rw k).map V.ref).drop tp).take (bt + 1 - tp) = (((o.rw k).drop tp).take (bt + 1 - tp)).map V.ref := by rw [List.map_take, List.map_drop]
      rw [e0]
      have pr0 := paired_take (paired_drop pr tp) (bt + 1 - tp)
      generalize ((o.rw k).drop tp).take (bt + 1 - tp) = as0 at pr0 ⊢
      have s1 := Same.upd (.lst (as0.map V.ref)) hp
      have hp1 : upd HH p (.lst (as0.map V.ref)) p = some (.lst (as0.map V.ref)) := upd_same
      have hx1 := hx.grow s1
      have prl : as0.length ≤ bt + 1 - tp := by
        rw [pr0.length, List.length_take]
        omega
      have wk := walk_list (K := K) (a := p) (xs := as0.map V.ref)
      rw [List.length_map] at wk
      have pr1 := Paired.mapP pr0 fun _ _ z => same_line s1 z
      generalize upd HH p (.lst (as0.map V.ref)) = H1 at s1 hp1 hx1 pr1 ⊢
      refine lsL hp1 ?_
      have hhl : (heldL tp bt l r X).length = as0.length := by
        unfold heldL
        rw [List.length_map, ← pr0.length]
      refine rows_lc (src := srcC) wk (fun j => (heldL tp bt l r X).getD j []) (by omega) (fun H s => SqL.of (s _ _ hp1)) (fun j x H2 H3 kk2 hj s2 y hk => ?_) fun D as H2 hD s2 hDl hpB hnd hfr hDn => ?_
      · obtain ⟨rfl, hxr⟩ := y
        rw [List.getElem?_map] at hxr
        obtain ⟨a, ha, rfl⟩ : ∃ a, as0[j]? = some a ∧ x = V.ref a := by
          cases z : as0[j]? with
          | none =>
            rw [z] at hxr
            cases hxr
          | some a =>
            rw [z] at hxr
            exact ⟨a, rfl, (Option.some.inj hxr).symm⟩
        obtain ⟨ys, hys, us, hu, pu⟩ := paired_get pr1 ha
        walk_at "n"
        rw [show (r : Int) + 1 = ((r + 1 : Nat) : Int) by omega]
        refine ⟨trivial, slL (s2 _ _ hu) fun D' hD' => ?_⟩
        rw [cutV_nat]
        have s3 := Same.upd (.lst ((us.drop l).take (r + 1 - l))) hD'
        refine hk D' _ hD' s3 ⟨_, upd_same, ?_⟩
        have e1 : (heldL tp bt l r X).getD j [] = (ys.drop l).take (r + 1 - l) := getD_some _ (by
          unfold heldL
          rw [List.getElem?_map, hys]
          rfl)
        rw [e1]
        exact paired_take (paired_drop (Paired.mapP pu fun _ _ z => (z.stay (TupS.of s2)).stay (TupS.of s3)) _) _
      · rw [range_getD _ hhl] at hpB
        have hx2 := hx1.grow s2
        have hroD : ro D = none := hx1.fresh hD
        have hroA : ∀ a ∈ as, ro a = none := fun a ha => hx1.fresh (hfr a ha)
        generalize hheld : heldL tp bt l r X = held at hpB hhl hSn
        have hasl : as.length = held.length := hpB.length
        have hheldl : held.length ≤ 10 := by omega
        have hline : ∀ ys ∈ held, ys.length ≤ 10 := fun ys hy => by
          rw [← hheld] at hy
          unfold heldL at hy
          obtain ⟨z, _, rfl⟩ := List.mem_map.mp hy
          rw [List.length_take]
          omega
        walk_at "n"
        refine enL hDl ?_
        have wk2 := walk_enum (K := K) (a := D) (xs := as.map V.ref)
        rw [List.length_map, hasl] at wk2
        refine forW wk2 (fun d σ HH => ∃ (k11 k12 k13 k14 : Option V), σ = [some (.ref t), some (.ref q), some (.int (row : Int)), some (.int (col : Int)), some (.str "cells"), some (.int (tp : Int)), some (.int (bt : Int)), some (.int (l : Int)), some (.int (r : Int)), some (.str k.s), some (.ref D), k11, k12, k13, k14] ∧ HH D = some (.lst (as.map V.ref)) ∧ Paired (LineAt srcC HH) as held ∧ TrX K Tb H0 HH t { Z with spots := setK S0 k (cpyN held row col d X) } o ro) ?_ (fun d σ HH _ p => by
          obtain ⟨_, _, _, _, _, h, _⟩ := p
          exact SqL.of h) ?_ ?_
        · refine ⟨k11, k12, k13, k14, rfl, hDl, hpB, ?_⟩
          rw [cpyN, ← hSk, setK_self]
          exact hx2
        · rintro d v σ H4 H5 hd ⟨k11, k12, k13, k14, rfl, hDl, hpB, hx4⟩ ⟨T1, x1, y1, rfl, hT, rfl, e1, e2⟩
          cases e1
          have e2 : (as.map V.ref)[d]? = some y1 := e2
          rw [List.getElem?_map] at e2
          obtain ⟨a, ha, rfl⟩ : ∃ a, as[d]? = some a ∧ y1 = V.ref a := by
            cases z : as[d]? with
            | none =>
              rw [z] at e2
              cases e2
            | some a =>
              rw [z] at e2
              exact ⟨a, rfl, (Option.some.inj e2).symm⟩
          obtain ⟨ys, hys, us, hu, pu⟩ := paired_get hpB ha
          have hyl := hline ys (List.mem_of_getElem? hys)
          have hul := pu.length
          have s5 := Same.upd (.tup [.int (d : Nat), .ref a]) hT
          have hx5 := hx4.grow s5
          obtain ⟨row0, hrow⟩ : ∃ row0, X[row + d]? = some row0 := ⟨_, List.getElem?_eq_getElem (by omega)⟩
          have hr0 := hwm row0 (List.mem_of_getElem? hrow)
          have hcg := cpyN_get held row col d X (row + d) (Nat.le_refl _)
          rw [hrow] at hcg
          have hrl := (hx5.at_.rw k).length
          have hrl : (o.rw k).length = (setK S0 k (cpyN held row col d X) k).length := hrl
          rw [setK_same, cpyN_len, hwn] at hrl
          obtain ⟨ra, hra⟩ : ∃ ra, (o.rw k)[row + d]? = some ra := ⟨_, List.getElem?_eq_getElem (by omega)⟩
          have hror := hx5.at_.r_rw k ra (List.mem_of_getElem? hra)
          walk_at "n"
          refine tupG upd_same rfl ?_
          walk_at "n"
          refine enL (s5 _ _ hu) ?_
          have wk3 := walk_enum (K := K) (a := a) (xs := us)
          refine forW wk3 (fun e σ HH => ∃ (k13 k14 : Option V), σ = [some (.ref t), some (.ref q), some (.int (row : Int)), some (.int (col : Int)), some (.str "cells"), some (.int (tp : Int)), some (.int (bt : Int)), some (.int (l : Int)), some (.int (r : Int)), some (.str k.s), some (.ref D), some (.ref a), some (.int (d : Nat)), k13, k14] ∧ HH D = some (.lst (as.map V.ref)) ∧ HH a = some (.lst us) ∧ Paired (LineAt srcC HH) as held ∧ TrX K Tb H0 HH t { Z with spots := setK S0 k ((cpyN held row col d X).set (row + d) (layN none ys col e row0)) } o ro) ?_ (fun d σ HH _ p => by
            obtain ⟨_, _, _, _, h, _⟩ := p
            exact SqL.of h) ?_ ?_
          · refine ⟨k13, k14, rfl, s5 _ _ hDl, s5 _ _ hu, Paired.mapP hpB fun _ _ z => same_line s5 z, ?_⟩
            rw [layN, set_self hcg]
            exact hx5
          · rintro e v σ H6 H7 he ⟨k13, k14, rfl, hDl, hu, hpB, hx6⟩ ⟨T2, x2, y2, rfl, hT2, rfl, e3, e4⟩
            cases e3
            have s7 := Same.upd (.tup [.int (e : Nat), y2]) hT2
            have hx7 := hx6.grow s7
            obtain ⟨dx, hob⟩ := hx7.ob
            obtain ⟨ys', hys', us', hu', pu'⟩ := paired_get hpB ha
            rw [hu] at hu'
            cases hu'
            rw [hys] at hys'
            cases hys'
            obtain ⟨ye, hye, hty⟩ := paired_get pu' e4
            walk_at "n"
            refine tupG upd_same rfl ?_
            walk_at "n"
            refine fldG hob T.k_Trace T.n_spots (fsT_spots _ _ _ _) ?_
            walk_at "n"
            refine kdGet hx7.at_.s ?_
            walk_at "n"
            rw [show (row : Int) + ((d : Nat) : Int) = ((row + d : Nat) : Int) by omega]
            have hra2 : ((o.rw k).map V.ref)[row + d]? = some (.ref ra) := by rw [List.getElem?_map, hra]; rfl
            refine ixLn (hx7.at_.sp k) hra2 ?_
            walk_at "n"
            rw [show (col : Int) + ((e : Nat) : Int) = ((col + e : Nat) : Int) by omega]
            obtain ⟨zs, hzs, vs, hv, pv⟩ := paired_get (hx7.at_.rw k) hra
            have hzs : (setK S0 k ((cpyN held row col d X).set (row + d) (layN none ys col e row0)) k)[row + d]? = some zs := hzs
            rw [setK_same, List.getElem?_set_self (by rw [cpyN_len]; omega)] at hzs
            cases hzs
            have vl := pv.length
            rw [layN_len] at vl
            refine setL hv (by omega) ?_
            have hx8 := hx7.put_rw k hra (paired_set pv (hty.stay (TupS.of s7)) (col + e))
            have e5 : (setK S0 k ((cpyN held row col d X).set (row + d) (layN none ys col e row0))) k = (cpyN held row col d X).set (row + d) (layN none ys col e row0) := setK_same _ _ _
            dsimp only at hx8
            rw [e5, setK_setK, List.set_set] at hx8
            have ts : TupS (upd H6 T2 (.tup [.int (e : Nat), y2])) (upd (upd H6 T2 (.tup [.int (e : Nat), y2])) ra (.lst (vs.set (col + e) y2))) := TupS.upd fun xs z => by rw [hv] at z; cases z
            have nra : ∀ {b : Addr}, ro b = none → b ≠ ra := fun h z => by rw [z, hror] at h; cases h
            refine ⟨_, _, rfl, ?_, ?_, ?_, ?_⟩
            · rw [upd_ne (nra hroD)]
              exact s7 _ _ hDl
            · rw [upd_ne (nra (hroA a (List.mem_of_getElem? ha)))]
              exact s7 _ _ hu
            · exact paired_line (Paired.mapP hpB fun _ _ z => same_line s7 z) ts fun b hb => upd_ne (nra (hroA b hb))
            · rw [layN, getD_some none hye]
              exact hx8
          · rintro σ HH ⟨k13, k14, rfl, hDl, hu, hpB, hx6⟩
            refine ⟨_, _, _, _, rfl, hDl, hpB, ?_⟩
            rw [cpyN_succ held row col d X hrow, getD_some [] hys, ← hul]
            exact hx6
        · rintro σ HH ⟨k11, k12, k13, k14, rfl, hDl, hpB, hx4⟩
          refine ⟨_, _, _, _, _, _, rfl, ?_⟩
          rw [← hSn]
          exact hx4
    · rintro σ HH ⟨k9, k10, k11, k12, k13, k14, rfl, hx⟩
      rw [upTo_3] at hx
      exact kk _ hx.in_
end

end Gr

namespace Gr
open PySem PySem.Spec PyProof.Rows L2
local macro_rules | `(tactic| walk_at "n") => `(tactic| try simp only [u_tVar, u_tC, u_tB, u_tTest, u_tAnd, u_tOr, u_tNot, u_tAndV, u_tOrV, u_tNotV, u_tIf, u_tNext, u_tSeq, u_tBreak, u_tCont, u_tDrop, u_tRet, u_tRetN, u_tIfS, u_tNever, u_gName, u_tAsg, u_tPar, u_gSub, u_tOp, u_tUn, u_tChain, u_tNil, u_tCons, u_tTup, u_tLst, u_tCB, u_tCall, u_tNoPart, u_tPart, u_tSl, u_tYes, u_iList', u_iTup', u_tLc, u_tDc, u_tFor, u_iRng1, u_iRng2, u_iEnum, u_iEnumT, u_iZip, u_iZip3, L2.wipe, u_sDPut', u_tDGet', u_tDNewK, u_tFld', u_sFld, u_gTup, u_gCons, u_gNil, u_tMeth, u_tMake, u_tMethC, u_tNdefM, u_tCallL, u_tLstRg, v_rI0, v_rI, v_eqI, v_neI, v_eqS, v_neS, v_bl, v_int, v_ref, v_some, v_two, w_insert_tell, w_remove_tell, w_remove_insert, w_move_tell, w_move_insert, w_move_remove, w_copy_tell, w_copy_insert, w_copy_remove, w_copy_move, w_rows_table, w_columns_table, w_cells_table, w_rows_cells, w_columns_cells, w_columns_rows, w_cells_rows, w_cells_columns, w_rows_columns, w_table_cells, w_table_rows, w_table_columns, w_column_row, w_plain_like, w_like_plain, w_old_new, w_new_old, w_newest_nearest, w_nearest_newest, w_ink_ground, w_ink_face, w_ground_ink, w_ground_face, w_face_ink, w_face_ground, w_whole_lanes, w_whole_files, w_whole_spots, w_lanes_files, w_lanes_spots, w_files_spots, List.getElem?_cons_zero, List.getElem?_cons_succ, List.set_cons_zero, List.set_cons_succ, List.append_nil, Bool.not_true, Bool.not_false, eq_self, if_true, Bool.false_eq_true, if_false, decide_true, decide_false, v_max, v_min, v_intQ, v_isN, v_notN, reduceCtorEq, Nat.reduceAdd, Nat.zero_add, Int.cast_ofNat_Int, Int.reduceEq, Int.reduceLE, Int.reduceLT, Int.reduceAdd, List.cons_append, List.nil_append, List.map_cons, List.map_nil, Sc.vs, ov, De.vs, how, List.length_cons, List.length_nil])
local macro_rules | `(tactic| walk_at "x") => `(tactic| first | refine ixT (by assumption) rfl ?_ | refine ixL (by assumption) rfl ?_ | refine lenT (by assumption) rfl ?_ | refine lenL (by assumption) rfl ?_ | refine isi (.base (.int _)) kit_int_int ?_ | refine isi (.base (.int _)) kit_int_str ?_ | refine isi (.base (.int _)) kit_int_bool ?_ | refine isi (.base (.int _)) kit_int_tuple ?_ | refine isi (.base (.int _)) kit_int_list ?_ | refine isi (.base (.str _)) kit_str_int ?_ | refine isi (.base (.str _)) kit_str_str ?_ | refine isi (.base (.str _)) kit_str_bool ?_ | refine isi (.base (.str _)) kit_str_tuple ?_ | refine isi (.base (.str _)) kit_str_list ?_ | refine isi (.base (.bl _)) kit_bool_int ?_ | refine isi (.base (.bl _)) kit_bool_str ?_ | refine isi (.base (.bl _)) kit_bool_bool ?_ | refine isi (.base (.bl _)) kit_bool_tuple ?_ | refine isi (.base (.bl _)) kit_bool_list ?_ | refine isi (.base (.tup (by assumption))) kit_tuple_int ?_ | refine isi (.base (.tup (by assumption))) kit_tuple_str ?_ | refine isi (.base (.tup (by assumption))) kit_tuple_bool ?_ | refine isi (.base (.tup (by assumption))) kit_tuple_tuple ?_ | refine isi (.base (.tup (by assumption))) kit_tuple_list ?_ | refine isi (.base (.lst (by assumption))) kit_list_int ?_ | refine isi (.base (.lst (by assumption))) kit_list_str ?_ | refine isi (.base (.lst (by assumption))) kit_list_bool ?_ | refine isi (.base (.lst (by assumption))) kit_list_tuple ?_ | refine isi (.base (.lst (by assumption))) kit_list_list ?_ | refine isi (.base (.non)) kit_NoneType_int ?_ | refine isi (.base (.non)) kit_NoneType_str ?_ | refine isi (.base (.non)) kit_NoneType_bool ?_ | refine isi (.base (.non)) kit_NoneType_tuple ?_ | refine isi (.base (.non)) kit_NoneType_list ?_)
local macro_rules | `(tactic| walk_at "g") => `(tactic| (repeat (walk_at "n"; walk_at "x")); walk_at "n")

-- Gr5
/-! ### do -/
def Tr.do (T : Tr) (d : De) (age : Nat) : Tr := match d with
  | .tell s k x => T.tell s k (x.map fun v => (v, age))
  | .ins x a n like => T.chg x (fun {_} xs => insO none like a n xs) (insR like a n)
  | .rem x a n => T.chg x (fun {_} xs => remL a n xs) (remL a n)
  | .mov x a n b => T.chg x (fun {_} xs => movL a n b xs) (movL a n b)
  | .cpy t b l r row col => T.copy t b l r row col
/-- sizes that one deed may give -/
def Near (n n' : Nat) : Prop := n ≤ n' + 3 ∧ n' ≤ n + 3
theorem remL_near {α : Type} {a n : Nat} {xs : List α} (h : n ≤ 3) : Near xs.length (remL a n xs).length := by
  unfold remL Near
  rw [List.length_append, List.length_take, List.length_drop]
  omega
theorem remL_eq {α β : Type} {a n : Nat} {xs : List α} {ys : List β} (h : xs.length = ys.length) : (remL a n xs).length = (remL a n ys).length := by
  unfold remL
  rw [List.length_append, List.length_append, List.length_take, List.length_take, List.length_drop, List.length_drop, h]
theorem movL_len {α : Type} (a n b : Nat) (xs : List α) : (movL a n b xs).length = xs.length := (mov_perm a n b xs).length_eq
theorem insL_len {α : Type} {a n : Nat} {x : α} {xs : List α} (h : a ≤ xs.length) : (insL a n x xs).length = xs.length + n := by
  unfold insL
  rw [List.length_append, List.length_append, List.length_take, List.length_drop, List.length_replicate]
  omega
theorem mem_insL {α : Type} {a n : Nat} {x y : α} {xs : List α} (h : y ∈ insL a n x xs) : y = x ∨ y ∈ xs := by
  unfold insL at h
  rcases List.mem_append.mp h with z | z
  · rcases List.mem_append.mp z with z | z
    · exact .inr (List.mem_of_mem_take z)
    · exact .inl (List.mem_replicate.mp z).2
  · exact .inr (List.mem_of_mem_drop z)
theorem len_modify {α : Type} {m i : Nat} {g : List α → List α} {xs : List (List α)} (h : ∀ r ∈ xs, r.length = m) (hg : ∀ r, (g r).length = r.length) : ∀ r ∈ xs.modify i g, r.length = m := fun r hr => by
  obtain ⟨j, hj⟩ := List.mem_iff_getElem?.mp hr
  rw [List.getElem?_modify] at hj
  cases e : xs[j]? with
  | none =>
    rw [e] at hj
    cases hj
  | some y =>
    rw [e] at hj
    have hy := h y (List.mem_of_getElem? e)
    by_cases z : i = j
    · simp [z] at hj
      rw [← hj, hg, hy]
    · simp [z] at hj
      rw [← hj, hy]
theorem len_modN {α : Type} {m a : Nat} {g : List α → List α} (hg : ∀ r, (g r).length = r.length) : ∀ {n : Nat} {xs : List (List α)}, (∀ r ∈ xs, r.length = m) → ∀ r ∈ modN a g n xs, r.length = m
  | 0, _, h => h
  | n + 1, xs, h => by
    rw [modN]
    exact len_modify (len_modN hg h) hg
theorem len_cpyN {m row col : Nat} {held : List (List Spot)} : ∀ {n : Nat} {xs : List (List Spot)}, (∀ r ∈ xs, r.length = m) → ∀ r ∈ cpyN held row col n xs, r.length = m
  | 0, _, h => h
  | n + 1, xs, h => by
    rw [cpyN]
    exact len_modify (len_cpyN h) fun r => layN_len _ _ _ _ r
theorem setK_all {β : Type} {f : Kd → β} {k : Kd} {x : β} {φ : β → Prop} (h : ∀ j, φ (f j)) (hx : φ x) : ∀ j, φ (setK f k x j) := fun j => by
  by_cases e : j = k
  · subst e
    rw [setK_same]
    exact hx
  · rw [setK_ne _ _ e]
    exact h j
theorem tell_wf {T : Tr} {n m : Nat} (wf : T.Wf n m) (s : Sc) (k : Kd) (x : Option (Nat × Nat)) : (T.tell s k x).Wf n m := by
  cases s with
  | table => exact ⟨wf.ln, wf.fl, wf.sp, wf.rw⟩
  | rows a b => exact ⟨setK_all (φ := fun l : List (Option (Tl Nat)) => l.length = n) wf.ln (by rw [setN_length]; exact wf.ln k), wf.fl, wf.sp, wf.rw⟩
  | cols a b => exact ⟨wf.ln, setK_all (φ := fun l : List (Option (Tl Nat)) => l.length = m) wf.fl (by rw [setN_length]; exact wf.fl k), wf.sp, wf.rw⟩
  | cells t b l r => exact ⟨wf.ln, wf.fl, setK_all (φ := fun l : List (List Spot) => l.length = n) wf.sp (by rw [modN_length]; exact wf.sp k), setK_all (φ := fun l : List (List Spot) => ∀ r ∈ l, r.length = m) wf.rw (len_modN (fun r => setN_length _ _ _ r) (wf.rw k))⟩
theorem do_wf {T : Tr} {n m : Nat} {d : De} {age : Nat} (wf : T.Wf n m) (ok : d.ok) (hn : 19 ≤ n) (hm : 19 ≤ m) : ∃ n' m', (T.do d age).Wf n' m' ∧ Near n n' ∧ Near m m' := by
  have n0 : ∀ i : Nat, Near i i := fun i => ⟨by omega, by omega⟩
  cases d with
  | tell s k x => exact ⟨n, m, tell_wf wf s k _, n0 n, n0 m⟩
  | cpy t b l r row col => exact ⟨n, m, ⟨wf.ln, wf.fl, fun k => (cpyN_len _ _ _ _ _).trans (wf.sp k), fun k => len_cpyN (wf.rw k)⟩, n0 n, n0 m⟩
  | ins x a k like =>
    obtain ⟨h1, h2, h3, h4⟩ := ok
    cases x with
    | row =>
      refine ⟨n + k, m, ⟨fun j => ?_, wf.fl, fun j => ?_, fun j r hr => ?_⟩, ⟨by omega, by omega⟩, n0 m⟩
      · show (insO none like a k (T.lanes j)).length = n + k
        unfold insO
        rw [insL_len (by rw [wf.ln j]; omega), wf.ln j]
      · show (insR like a k (T.spots j)).length = n + k
        unfold insR
        rw [insL_len (by rw [wf.sp j]; omega), wf.sp j]
      · have hs := wf.sp j
        have g0 : ∀ i : Nat, i < n → ((T.spots j).getD i []).length = m := fun i hi => by
          rw [List.getD_eq_getElem?_getD, List.getElem?_eq_getElem (by rw [hs]; exact hi)]
          exact wf.rw j _ (List.getElem_mem _)
        rcases mem_insL (show r ∈ insR like a k (T.spots j) from hr) with z | z
        · rw [z]
          cases like with
          | true => exact g0 (a - 1) (by omega)
          | false =>
            show (List.replicate ((T.spots j).getD 0 []).length none).length = m
            rw [List.length_replicate]
            exact g0 0 (by omega)
        · exact wf.rw j r z
    | col =>
      refine ⟨n, m + k, ⟨wf.ln, fun j => ?_, fun j => ?_, fun j r hr => ?_⟩, n0 n, ⟨by omega, by omega⟩⟩
      · show (insO none like a k (T.files j)).length = m + k
        unfold insO
        rw [insL_len (by rw [wf.fl j]; omega), wf.fl j]
      · show ((T.spots j).map _).length = n
        rw [List.length_map, wf.sp j]
      · obtain ⟨z, hz, rfl⟩ := List.mem_map.mp (show r ∈ (T.spots j).map _ from hr)
        have := wf.rw j z hz
        unfold insO
        rw [insL_len (by omega), this]
  | rem x a k =>
    obtain ⟨h1, h2, h3⟩ := ok
    have e : ∀ {α : Type} {xs : List α} {p : Nat}, xs.length = p → (remL a k xs).length = (remL a k (List.range p)).length := fun h => remL_eq (by rw [h, List.length_range])
    have q : ∀ p : Nat, Near p (remL a k (List.range p)).length := fun p => by
      have z := remL_near (a := a) (xs := List.range p) h3
      rw [List.length_range] at z
      exact z
    cases x with
    | row => exact ⟨_, m, ⟨fun j => e (wf.ln j), wf.fl, fun j => e (wf.sp j), fun j r hr => wf.rw j r ((lop_rem a k).sub hr)⟩, q n, n0 m⟩
    | col =>
      refine ⟨n, _, ⟨wf.ln, fun j => e (wf.fl j), fun j => ?_, fun j r hr => ?_⟩, n0 n, q m⟩
      · show ((T.spots j).map _).length = n
        rw [List.length_map, wf.sp j]
      · obtain ⟨z, hz, rfl⟩ := List.mem_map.mp (show r ∈ (T.spots j).map _ from hr)
        exact e (wf.rw j z hz)
  | mov x a k b =>
    cases x with
    | row => exact ⟨n, m, ⟨fun j => (movL_len _ _ _ _).trans (wf.ln j), wf.fl, fun j => (movL_len _ _ _ _).trans (wf.sp j), fun j r hr => wf.rw j r ((lop_mov a k b).sub hr)⟩, n0 n, n0 m⟩
    | col =>
      refine ⟨n, m, ⟨wf.ln, fun j => (movL_len _ _ _ _).trans (wf.fl j), fun j => ?_, fun j r hr => ?_⟩, n0 n, n0 m⟩
      · show ((T.spots j).map _).length = n
        rw [List.length_map, wf.sp j]
      · obtain ⟨z, hz, rfl⟩ := List.mem_map.mp (show r ∈ (T.spots j).map _ from hr)
        exact (movL_len _ _ _ _).trans (wf.rw j z hz)
section
variable {P : Program} {w : World} {K : PySem.W.Frag} {mg : Str → Option Value} {fds : Str → FuncData} {base : Heap}
abbrev s_do : Stmt := inClass (top 20) 7
abbrev N_do : List Str := ["self", "deed", "age", "word"]
theorem sc_do : FnScope N_do ["self", "deed", "age"] (defScope s_do) := ⟨rfl, rfl, rfl, by decide +kernel, rfl, by decide +kernel, by decide +kernel⟩
def spDo (K : PySem.W.Frag) : Sp := fun vs H Q _ => ∃ (t : Addr) (v : V) (d : De) (age : Nat) (T : Tr) (n m : Nat) (H0 : Hp), vs = [.ref t, v, .int (age : Int)] ∧ DeAt H v d ∧ d.ok ∧ TrIn K (TbN K) H0 H t T ∧ T.Wf n m ∧ 19 ≤ n ∧ n ≤ 200 ∧ 19 ≤ m ∧ m ≤ 200 ∧ ∀ H', TrIn K (TbN K) H0 H' t (T.do d age) → Q .non H'
theorem ok_do (T : Txt K mg fds) (TC : TabsOk K mg base) : FnOk P w K mg base CX0 6 (He.ma K (He.ga K "Trace") "do") (fds "Trace.do") ["self", "deed", "age"] (spDo K) := by
  refine T.e_do.fn.ok sc_do (fun vs H Q E h => ?_) (fun cdv A outer s H vs Q E hr h => ?_)
  · obtain ⟨t, v, d, age, T, n, m, H0, rfl, _⟩ := h; rfl
  · obtain ⟨t, v, d, age, Z, n, m, H0, rfl, ⟨p, q, rfl, h0, h1⟩, hok, hin, wf, hn, hn2, hm, hm2, kk⟩ := h
    have nd := sc_do.nd
    obtain ⟨o, ro, hx⟩ := hin.x
    obtain ⟨dx, hob⟩ := hx.ob
    refine ⟨_, PSs.nox (pss_cons (ps_set (i := 3) nd rfl (by first | exact Or.inl rfl | exact Or.inr rfl) (pe_ix ix_tup (pv 1) pe_int (fun _ _ => rfl)))
      (pss_one (ps_if (pt_cmpR op_eq (pv 3) pe_str (nomark _))
        (pss_one (ps_expr (pe_mt T.k_Trace T.h_tell T.e_tell (ok_tell T (TbN K)) hr (pv 0) (pa_cons (pe_ix ix_tup (pv 1) pe_int (fun _ _ => rfl)) (pa_cons (pe_ix ix_tup (pv 1) pe_int (fun _ _ => rfl)) (pa_cons (pe_ifExp (pt_cmpR op_isQ (pe_ix ix_tup (pv 1) pe_int (fun _ _ => rfl)) pe_non (nomark _)) pe_non (pe_tup (pa_cons pe_str (pa_cons (pe_ix ix_tup (pv 1) pe_int (fun _ _ => rfl)) (pa_cons (pv 2) pa_nil))))) pa_nil))))))
        (pss_one (ps_if (pt_cmpR op_eq (pv 3) pe_str (nomark _))
          (pss_one (ps_expr (pe_mt T.k_Trace T.h_insert T.e_insert (ok_insert T TC) hr (pv 0) (pa_cons (pe_ix ix_tup (pv 1) pe_int (fun _ _ => rfl)) (pa_cons (pe_ix ix_tup (pv 1) pe_int (fun _ _ => rfl)) (pa_cons (pe_ix ix_tup (pv 1) pe_int (fun _ _ => rfl)) (pa_cons (pe_ix ix_tup (pv 1) pe_int (fun _ _ => rfl)) pa_nil)))))))
          (pss_one (ps_if (pt_cmpR op_eq (pv 3) pe_str (nomark _))
            (pss_one (ps_expr (pe_mt T.k_Trace T.h_remove T.e_remove (ok_remove T TC) hr (pv 0) (pa_cons (pe_ix ix_tup (pv 1) pe_int (fun _ _ => rfl)) (pa_cons (pe_ix ix_tup (pv 1) pe_int (fun _ _ => rfl)) (pa_cons (pe_ix ix_tup (pv 1) pe_int (fun _ _ => rfl)) pa_nil))))))
            (pss_one (ps_if (pt_cmpR op_eq (pv 3) pe_str (nomark _))
              (pss_one (ps_expr (pe_mt T.k_Trace T.h_move T.e_move (ok_move T TC) hr (pv 0) (pa_cons (pe_ix ix_tup (pv 1) pe_int (fun _ _ => rfl)) (pa_cons (pe_ix ix_tup (pv 1) pe_int (fun _ _ => rfl)) (pa_cons (pe_ix ix_tup (pv 1) pe_int (fun _ _ => rfl)) (pa_cons (pe_ix ix_tup (pv 1) pe_int (fun _ _ => rfl)) pa_nil)))))))
              (pss_one (ps_expr (pe_mt T.k_Trace T.h_copy T.e_copy (ok_copy T (TbN K)) hr (pv 0) (pa_cons (pe_ix ix_tup (pv 1) pe_int (fun _ _ => rfl)) (pa_cons (pe_ix ix_tup (pv 1) pe_int (fun _ _ => rfl)) (pa_cons (pe_ix ix_tup (pv 1) pe_int (fun _ _ => rfl)) pa_nil))))))))))))))), ?_⟩
    rw [show L2.start N_do [.ref t, .ref p, .int (age : Int)] = [some (.ref t), some (.ref p), some (.int (age : Int)), none] from rfl]
    cases d with
    | tell s k x =>
      have hs := h1 s rfl
      walk_at "g"
      refine mthI hob fsT_none ?_
      walk_at "g"
      cases x with
      | none =>
        walk_at "g"
        exact ⟨t, q, s, k, _, none, Z, n, m, H0, rfl, hs, hok.1, rfl, hin, wf, by omega, hn2, by omega, hm2, kk⟩
      | some x =>
        walk_at "g"
        refine ⟨by decide, fun a ha => ?_⟩
        have s1 := Same.upd (.tup [.str "new", .int (x : Int), .int (age : Int)]) ha
        exact ⟨t, q, s, k, _, some (x, age), Z, n, m, H0, rfl, s1 _ _ hs, hok.1, ⟨a, rfl, upd_same⟩, hin.grow s1, wf, by omega, hn2, by omega, hm2, kk⟩
    | ins x a k like =>
      obtain ⟨g1, g2, g3, g4⟩ := hok
      walk_at "g"
      refine mthI hob fsT_none ?_
      walk_at "g"
      exact ⟨t, x, a, k, like, Z, n, m, H0, rfl, hin, wf, hn2, hm2, by omega, by omega, by omega, by omega, g3, fun e => g4 e, kk⟩
    | rem x a k =>
      walk_at "g"
      refine mthI hob fsT_none ?_
      walk_at "g"
      exact ⟨t, x, a, k, Z, n, m, H0, rfl, hin, wf, hn2, hm2, kk⟩
    | mov x a k b =>
      walk_at "g"
      refine mthI hob fsT_none ?_
      walk_at "g"
      exact ⟨t, x, a, k, b, Z, n, m, H0, rfl, hin, wf, hn2, hm2, kk⟩
    | cpy tp bt l r row col =>
      have hs := h1 _ rfl
      obtain ⟨⟨g1, g2, g3, g4⟩, g5, g6⟩ := hok
      walk_at "g"
      refine mthI hob fsT_none ?_
      walk_at "g"
      exact ⟨t, q, tp, bt, l, r, row, col, Z, n, m, H0, rfl, hs, g1, g2, g3, g4, g5, g6, hin, wf, hn, hn2, hm, hm2, kk⟩
end

end Gr

namespace Gr
open PySem PySem.Spec PyProof.Rows L2
local macro_rules | `(tactic| walk_at "n") => `(tactic| try simp only [u_tVar, u_tC, u_tB, u_tTest, u_tAnd, u_tOr, u_tNot, u_tAndV, u_tOrV, u_tNotV, u_tIf, u_tNext, u_tSeq, u_tBreak, u_tCont, u_tDrop, u_tRet, u_tRetN, u_tIfS, u_tNever, u_gName, u_tAsg, u_tPar, u_gSub, u_tOp, u_tUn, u_tChain, u_tNil, u_tCons, u_tTup, u_tLst, u_tCB, u_tCall, u_tNoPart, u_tPart, u_tSl, u_tYes, u_iList', u_iTup', u_tLc, u_tDc, u_tFor, u_iRng1, u_iRng2, u_iEnum, u_iEnumT, u_iZip, u_iZip3, L2.wipe, u_sDPut', u_tDGet', u_tDNewK, u_tFld', u_sFld, u_gTup, u_gCons, u_gNil, u_tMeth, u_tMake, u_tMethC, u_tNdefM, u_tCallL, u_tLstRg, v_rI0, v_rI, v_eqI, v_neI, v_eqS, v_neS, v_bl, v_int, v_ref, v_some, v_two, w_insert_tell, w_remove_tell, w_remove_insert, w_move_tell, w_move_insert, w_move_remove, w_copy_tell, w_copy_insert, w_copy_remove, w_copy_move, w_rows_table, w_columns_table, w_cells_table, w_rows_cells, w_columns_cells, w_columns_rows, w_cells_rows, w_cells_columns, w_rows_columns, w_table_cells, w_table_rows, w_table_columns, w_column_row, w_plain_like, w_like_plain, w_old_new, w_new_old, w_newest_nearest, w_nearest_newest, w_ink_ground, w_ink_face, w_ground_ink, w_ground_face, w_face_ink, w_face_ground, w_whole_lanes, w_whole_files, w_whole_spots, w_lanes_files, w_lanes_spots, w_files_spots, List.getElem?_cons_zero, List.getElem?_cons_succ, List.set_cons_zero, List.set_cons_succ, List.append_nil, Bool.not_true, Bool.not_false, eq_self, if_true, Bool.false_eq_true, if_false, decide_true, decide_false, v_max, v_min, v_intQ, v_isN, v_notN, reduceCtorEq, Nat.reduceAdd, Nat.zero_add, Int.cast_ofNat_Int, Int.reduceEq, Int.reduceLE, Int.reduceLT, Int.reduceAdd, List.cons_append, List.nil_append, List.map_cons, List.map_nil, Sc.vs, ov, De.vs, how, List.length_cons, List.length_nil])
local macro_rules | `(tactic| walk_at "x") => `(tactic| first | refine ixT (by assumption) rfl ?_ | refine ixL (by assumption) rfl ?_ | refine lenT (by assumption) rfl ?_ | refine lenL (by assumption) rfl ?_ | refine isi (.base (.int _)) kit_int_int ?_ | refine isi (.base (.int _)) kit_int_str ?_ | refine isi (.base (.int _)) kit_int_bool ?_ | refine isi (.base (.int _)) kit_int_tuple ?_ | refine isi (.base (.int _)) kit_int_list ?_ | refine isi (.base (.str _)) kit_str_int ?_ | refine isi (.base (.str _)) kit_str_str ?_ | refine isi (.base (.str _)) kit_str_bool ?_ | refine isi (.base (.str _)) kit_str_tuple ?_ | refine isi (.base (.str _)) kit_str_list ?_ | refine isi (.base (.bl _)) kit_bool_int ?_ | refine isi (.base (.bl _)) kit_bool_str ?_ | refine isi (.base (.bl _)) kit_bool_bool ?_ | refine isi (.base (.bl _)) kit_bool_tuple ?_ | refine isi (.base (.bl _)) kit_bool_list ?_ | refine isi (.base (.tup (by assumption))) kit_tuple_int ?_ | refine isi (.base (.tup (by assumption))) kit_tuple_str ?_ | refine isi (.base (.tup (by assumption))) kit_tuple_bool ?_ | refine isi (.base (.tup (by assumption))) kit_tuple_tuple ?_ | refine isi (.base (.tup (by assumption))) kit_tuple_list ?_ | refine isi (.base (.lst (by assumption))) kit_list_int ?_ | refine isi (.base (.lst (by assumption))) kit_list_str ?_ | refine isi (.base (.lst (by assumption))) kit_list_bool ?_ | refine isi (.base (.lst (by assumption))) kit_list_tuple ?_ | refine isi (.base (.lst (by assumption))) kit_list_list ?_ | refine isi (.base (.non)) kit_NoneType_int ?_ | refine isi (.base (.non)) kit_NoneType_str ?_ | refine isi (.base (.non)) kit_NoneType_bool ?_ | refine isi (.base (.non)) kit_NoneType_tuple ?_ | refine isi (.base (.non)) kit_NoneType_list ?_)
local macro_rules | `(tactic| walk_at "g") => `(tactic| (repeat (walk_at "n"; walk_at "x")); walk_at "n")

-- Gr5
/-! ### what is seen of a place -/
inductive Dd where
  | cell (r c : Nat)
  | lane (n : Nat)
  | file (n : Nat)
  | table
  | new (v age : Nat)
  deriving DecidableEq
def ofT {α : Type} (f : α → Dd) : Tl α → Dd
  | .old a => f a
  | .new v n => .new v n
def DdAt (H : Hp) (v : V) : Dd → Prop
  | .cell r c => TlAt srcC H v (some (.old (r, c)))
  | .lane n => TlAt srcR H v (some (.old n))
  | .file n => TlAt srcF H v (some (.old n))
  | .table => TlAt srcW H v (some (.old ()))
  | .new x n => ∃ p, v = .ref p ∧ H p = some (.tup [.str "new", .int (x : Int), .int (n : Int)])
def OdAt (H : Hp) (v : V) : Option Dd → Prop
  | none => v = .non
  | some d => DdAt H v d
theorem DdAt.stay {H H' : Hp} {v : V} {d : Dd} (h : DdAt H v d) (e : TupS H H') : DdAt H' v d := by
  cases d with
  | cell r c => exact TlAt.stay (x := some (.old (r, c))) h e
  | lane n => exact TlAt.stay (x := some (.old n)) h e
  | file n => exact TlAt.stay (x := some (.old n)) h e
  | table => exact TlAt.stay (x := some (.old ())) h e
  | new x n =>
    obtain ⟨p, h1, h2⟩ := h
    exact ⟨p, h1, e _ _ h2⟩
theorem OdAt.stay {H H' : Hp} {v : V} {d : Option Dd} (h : OdAt H v d) (e : TupS H H') : OdAt H' v d := by
  cases d with
  | none => exact h
  | some d => exact DdAt.stay h e
theorem OdAt.of {α : Type} {src : α → List V} {f : α → Dd} (hf : ∀ a H v, TlAt src H v (some (.old a)) → DdAt H v (f a)) {H : Hp} {v : V} {x : Option (Tl α)} (h : TlAt src H v x) : OdAt H v (x.map (ofT f)) := by
  cases x with
  | none => exact h
  | some t =>
    cases t with
    | old a => exact hf a H v h
    | new x n => exact h
theorem DdAt.ref {H : Hp} {v : V} {d : Dd} (h : DdAt H v d) : ∃ p, v = .ref p := by
  cases d with
  | cell r c => obtain ⟨p, q, e, _⟩ := h; exact ⟨p, e⟩
  | lane n => obtain ⟨p, q, e, _⟩ := h; exact ⟨p, e⟩
  | file n => obtain ⟨p, q, e, _⟩ := h; exact ⟨p, e⟩
  | table => obtain ⟨p, q, e, _⟩ := h; exact ⟨p, e⟩
  | new x n => obtain ⟨p, e, _⟩ := h; exact ⟨p, e⟩
def Tr.at4 (T : Tr) (k : Kd) (r c : Nat) : List (Option Dd) := [(((T.spots k).getD r []).getD c none).map (ofT fun p => .cell p.1 p.2), ((T.lanes k).getD r none).map (ofT .lane), ((T.files k).getD c none).map (ofT .file), (T.whole k).map (ofT fun _ => .table)]
def Tr.seen (T : Tr) (k : Kd) (r c : Nat) : List Dd := (T.at4 k r c).filterMap id
section
variable {P : Program} {w : World} {K : PySem.W.Frag} {mg : Str → Option Value} {fds : Str → FuncData} {base : Heap}
abbrev s_tellings_at : Stmt := inClass (top 20) 8
abbrev N_tellings_at : List Str := ["self", "kind", "row", "column", "found", "one"]
theorem sc_tellings_at : FnScope N_tellings_at ["self", "kind", "row", "column"] (defScope s_tellings_at) := ⟨rfl, rfl, rfl, by decide +kernel, rfl, by decide +kernel, by decide +kernel⟩
def spSeen (K : PySem.W.Frag) (Tb : List NdefX.NTab) : Sp := fun vs H Q _ => ∃ (t : Addr) (k : Kd) (r c : Nat) (T : Tr) (n m : Nat) (H0 : Hp), vs = [.ref t, .str k.s, .int (r : Int), .int (c : Int)] ∧ TrIn K Tb H0 H t T ∧ T.Wf n m ∧ r < n ∧ c < m ∧ ∀ H' l us, Same H H' → H l = none → H' l = some (.lst us) → Paired (DdAt H') us (T.seen k r c) → Q (.ref l) H'
theorem ok_tellings_at (T : Txt K mg fds) (Tb : List NdefX.NTab) : FnOk P w K mg base CX0 2 (He.ma K (He.ga K "Trace") "tellings_at") (fds "Trace.tellings_at") ["self", "kind", "row", "column"] (spSeen K Tb) := by
  refine T.e_tellings_at.fn.ok sc_tellings_at (fun vs H Q E h => ?_) (fun cdv A outer s H vs Q E hr h => ?_)
  · obtain ⟨t, k, r, c, T, n, m, H0, rfl, _⟩ := h; rfl
  · obtain ⟨t, k, r, c, Z, n, m, H0, rfl, hin, wf, hn, hm, kk⟩ := h
    have nd := sc_tellings_at.nd
    obtain ⟨o, ro, hx⟩ := hin.x
    obtain ⟨dx, hob⟩ := hx.ob
    refine ⟨_, PSs.nox (pss_cons (ps_set (i := 4) nd rfl (by first | exact Or.inl rfl | exact Or.inr rfl) (pe_lst (pa_cons (pe_ix ix_list (pe_ix ix_list (pe_dget (ru hr) (pe_fld (pv 0) rfl) (pv 1) (fun _ _ => rfl)) (pv 2) (fun _ _ => rfl)) (pv 3) (fun _ _ => rfl)) (pa_cons (pe_ix ix_list (pe_dget (ru hr) (pe_fld (pv 0) rfl) (pv 1) (fun _ _ => rfl)) (pv 2) (fun _ _ => rfl)) (pa_cons (pe_ix ix_list (pe_dget (ru hr) (pe_fld (pv 0) rfl) (pv 1) (fun _ _ => rfl)) (pv 3) (fun _ _ => rfl)) (pa_cons (pe_dget (ru hr) (pe_fld (pv 0) rfl) (pv 1) (fun _ _ => rfl)) pa_nil))))))
      (pss_one (ps_ret (pe_lc (own := [("one", 5)]) rfl nd (pi_list (pv 4)) (blkOk_by (N := N_tellings_at) (sc := (defScope s_tellings_at)) (by decide +kernel)) (fun _ _ _ _ _ => (pg_name (i := 5) nd rfl (by first | exact Or.inl rfl | exact Or.inr rfl))) (fun _ _ _ _ _ => pts_one (pt_cmpR op_notQ (pv 5) pe_non (nomark _))) (fun _ _ _ _ _ => (pv 5)))))), ?_⟩
    rw [show L2.start N_tellings_at [.ref t, .str k.s, .int (r : Int), .int (c : Int)] = [some (.ref t), some (.str k.s), some (.int (r : Int)), some (.int (c : Int)), none, none] from rfl]
    have prl := (hx.at_.rw k).length
    have hwn := wf.sp k
    obtain ⟨a, ha⟩ : ∃ a, (o.rw k)[r]? = some a := ⟨_, List.getElem?_eq_getElem (by omega)⟩
    obtain ⟨ys, hys, us, hu, pu⟩ := paired_get (hx.at_.rw k) ha
    have hyl := wf.rw k ys (List.mem_of_getElem? hys)
    have hra : ((o.rw k).map V.ref)[r]? = some (.ref a) := by rw [List.getElem?_map, ha]; rfl
    have pul := pu.length
    obtain ⟨v1, hv1⟩ : ∃ v, us[c]? = some v := ⟨_, List.getElem?_eq_getElem (by omega)⟩
    obtain ⟨x1, hx1, ht1⟩ := paired_get pu hv1
    obtain ⟨us2, hu2, pu2⟩ := hx.at_.ln k
    have pul2 := pu2.length
    have hln := wf.ln k
    obtain ⟨v2, hv2⟩ : ∃ v, us2[r]? = some v := ⟨_, List.getElem?_eq_getElem (by omega)⟩
    obtain ⟨x2, hx2, ht2⟩ := paired_get pu2 hv2
    obtain ⟨us3, hu3, pu3⟩ := hx.at_.fl k
    have pul3 := pu3.length
    have hfl := wf.fl k
    obtain ⟨v3, hv3⟩ : ∃ v, us3[c]? = some v := ⟨_, List.getElem?_eq_getElem (by omega)⟩
    obtain ⟨x3, hx3, ht3⟩ := paired_get pu3 hv3
    obtain ⟨f, hf, hw⟩ := hx.at_.w
    have e4 : Z.at4 k r c = [x1.map (ofT fun p => .cell p.1 p.2), x2.map (ofT .lane), x3.map (ofT .file), (Z.whole k).map (ofT fun _ => .table)] := by
      unfold Tr.at4
      rw [getD_some [] hys, getD_some none hx1, getD_some none hx2, getD_some none hx3]
    have p4 : Paired (OdAt H) [v1, v2, v3, f k] (Z.at4 k r c) := by
      rw [e4]
      exact .cons (OdAt.of (src := srcC) (f := fun p => Dd.cell p.1 p.2) (fun _ _ _ h => h) ht1) (.cons (OdAt.of (src := srcR) (f := Dd.lane) (fun _ _ _ h => h) ht2) (.cons (OdAt.of (src := srcF) (f := Dd.file) (fun _ _ _ h => h) ht3) (.cons (OdAt.of (src := srcW) (f := fun _ => Dd.table) (fun _ _ _ h => h) (hw k)) .nil)))
    walk_at "n"
    refine fldG hob T.k_Trace T.n_spots (fsT_spots _ _ _ _) ?_
    walk_at "n"
    refine kdGet hx.at_.s ?_
    walk_at "n"
    refine ixLn (hx.at_.sp k) hra ?_
    walk_at "n"
    refine ixLn hu hv1 ?_
    walk_at "n"
    refine fldG hob T.k_Trace T.n_lanes (fsT_lanes _ _ _ _) ?_
    walk_at "n"
    refine kdGet hx.at_.l ?_
    walk_at "n"
    refine ixLn hu2 hv2 ?_
    walk_at "n"
    refine fldG hob T.k_Trace T.n_files (fsT_files _ _ _ _) ?_
    walk_at "n"
    refine kdGet hx.at_.f ?_
    walk_at "n"
    refine ixLn hu3 hv3 ?_
    walk_at "n"
    refine fldG hob T.k_Trace T.n_whole (fsT_whole _ _ _ _) ?_
    walk_at "n"
    refine kdGet hf ?_
    walk_at "n"
    refine ⟨by decide, fun p hp => ?_⟩
    generalize hV : [v1, v2, v3, f k] = vs4 at p4 ⊢
    have hVl : vs4.length = 4 := by rw [← hV]; rfl
    have s1 := Same.upd (.lst vs4) hp
    have hp1 : upd H p (.lst vs4) p = some (.lst vs4) := upd_same
    generalize upd H p (.lst vs4) = H1 at s1 hp1 ⊢
    have p41 := Paired.mapP p4 fun _ _ z => z.stay (TupS.of s1)
    walk_at "n"
    refine lsL hp1 ?_
    refine lc_inv (walk_list (xs := vs4)) (fun D i acc H => Paired (DdAt H) acc (((Z.at4 k r c).take i).filterMap id)) (by omega) (fun D i acc H p => ?_) (fun D hD => ?_) (fun D H hD g => SqL.of (g.same hD _ _ hp1)) ?_ ?_
    · rw [p.length]
      refine Nat.le_trans (List.length_filterMap_le _ _) ?_
      rw [List.length_take]
      omega
    · rw [List.take_zero]
      exact .nil
    · rintro D i x H2 H3 acc k1 k2 hD hi gr hacc hI ⟨rfl, hxi⟩ hk1 hk2
      obtain ⟨y, hy, hod⟩ := paired_get p41 hxi
      have hod := hod.stay (TupS.of (gr.same hD))
      rw [List.take_add_one, hy] at hk1 hk2
      rw [List.filterMap_append] at hk1 hk2
      walk_at "n"
      cases y with
      | none =>
        have e : x = V.non := hod
        subst e
        walk_at "n"
        refine ⟨trivial, hk2 _ (Same.refl _) ?_⟩
        simp
        exact hI
      | some d =>
        obtain ⟨pd, rfl⟩ := DdAt.ref hod
        walk_at "n"
        refine ⟨trivial, hk1 _ _ (Same.refl _) ?_⟩
        have ts : ∀ l : List V, TupS H3 (upd H3 D (.lst l)) := fun l => TupS.upd fun ys z => by rw [hacc] at z; cases z
        simp
        exact paired_app (Paired.mapP hI fun _ _ z => z.stay (ts _)) (.cons (DdAt.stay hod (ts _)) .nil)
    · intro D ys H2 hD gr hys hI
      rw [hVl, show (Z.at4 k r c).take 4 = Z.at4 k r c from rfl] at hI
      exact kk H2 D ys (s1.trans (gr.same hD)) (s1.free hD) hys hI
end

end Gr

namespace Gr
open PySem PySem.Spec PyProof.Rows L2
local macro_rules | `(tactic| walk_at "n") => `(tactic| try simp only [u_tVar, u_tC, u_tB, u_tTest, u_tAnd, u_tOr, u_tNot, u_tAndV, u_tOrV, u_tNotV, u_tIf, u_tNext, u_tSeq, u_tBreak, u_tCont, u_tDrop, u_tRet, u_tRetN, u_tIfS, u_tNever, u_gName, u_tAsg, u_tPar, u_gSub, u_tOp, u_tUn, u_tChain, u_tNil, u_tCons, u_tTup, u_tLst, u_tCB, u_tCall, u_tNoPart, u_tPart, u_tSl, u_tYes, u_iList', u_iTup', u_tLc, u_tDc, u_tFor, u_iRng1, u_iRng2, u_iEnum, u_iEnumT, u_iZip, u_iZip3, L2.wipe, u_sDPut', u_tDGet', u_tDNewK, u_tFld', u_sFld, u_gTup, u_gCons, u_gNil, u_tMeth, u_tMake, u_tMethC, u_tNdefM, u_tCallL, u_tLstRg, v_rI0, v_rI, v_eqI, v_neI, v_eqS, v_neS, v_bl, v_int, v_ref, v_some, v_two, w_insert_tell, w_remove_tell, w_remove_insert, w_move_tell, w_move_insert, w_move_remove, w_copy_tell, w_copy_insert, w_copy_remove, w_copy_move, w_rows_table, w_columns_table, w_cells_table, w_rows_cells, w_columns_cells, w_columns_rows, w_cells_rows, w_cells_columns, w_rows_columns, w_table_cells, w_table_rows, w_table_columns, w_column_row, w_plain_like, w_like_plain, w_old_new, w_new_old, w_newest_nearest, w_nearest_newest, w_ink_ground, w_ink_face, w_ground_ink, w_ground_face, w_face_ink, w_face_ground, w_whole_lanes, w_whole_files, w_whole_spots, w_lanes_files, w_lanes_spots, w_files_spots, List.getElem?_cons_zero, List.getElem?_cons_succ, List.set_cons_zero, List.set_cons_succ, List.append_nil, Bool.not_true, Bool.not_false, eq_self, if_true, Bool.false_eq_true, if_false, decide_true, decide_false, v_max, v_min, v_intQ, v_isN, v_notN, reduceCtorEq, Nat.reduceAdd, Nat.zero_add, Int.cast_ofNat_Int, Int.reduceEq, Int.reduceLE, Int.reduceLT, Int.reduceAdd, List.cons_append, List.nil_append, List.map_cons, List.map_nil, Sc.vs, ov, De.vs, how, List.length_cons, List.length_nil])
local macro_rules | `(tactic| walk_at "x") => `(tactic| first | refine ixT (by assumption) rfl ?_ | refine ixL (by assumption) rfl ?_ | refine lenT (by assumption) rfl ?_ | refine lenL (by assumption) rfl ?_ | refine isi (.base (.int _)) kit_int_int ?_ | refine isi (.base (.int _)) kit_int_str ?_ | refine isi (.base (.int _)) kit_int_bool ?_ | refine isi (.base (.int _)) kit_int_tuple ?_ | refine isi (.base (.int _)) kit_int_list ?_ | refine isi (.base (.str _)) kit_str_int ?_ | refine isi (.base (.str _)) kit_str_str ?_ | refine isi (.base (.str _)) kit_str_bool ?_ | refine isi (.base (.str _)) kit_str_tuple ?_ | refine isi (.base (.str _)) kit_str_list ?_ | refine isi (.base (.bl _)) kit_bool_int ?_ | refine isi (.base (.bl _)) kit_bool_str ?_ | refine isi (.base (.bl _)) kit_bool_bool ?_ | refine isi (.base (.bl _)) kit_bool_tuple ?_ | refine isi (.base (.bl _)) kit_bool_list ?_ | refine isi (.base (.tup (by assumption))) kit_tuple_int ?_ | refine isi (.base (.tup (by assumption))) kit_tuple_str ?_ | refine isi (.base (.tup (by assumption))) kit_tuple_bool ?_ | refine isi (.base (.tup (by assumption))) kit_tuple_tuple ?_ | refine isi (.base (.tup (by assumption))) kit_tuple_list ?_ | refine isi (.base (.lst (by assumption))) kit_list_int ?_ | refine isi (.base (.lst (by assumption))) kit_list_str ?_ | refine isi (.base (.lst (by assumption))) kit_list_bool ?_ | refine isi (.base (.lst (by assumption))) kit_list_tuple ?_ | refine isi (.base (.lst (by assumption))) kit_list_list ?_ | refine isi (.base (.non)) kit_NoneType_int ?_ | refine isi (.base (.non)) kit_NoneType_str ?_ | refine isi (.base (.non)) kit_NoneType_bool ?_ | refine isi (.base (.non)) kit_NoneType_tuple ?_ | refine isi (.base (.non)) kit_NoneType_list ?_)
local macro_rules | `(tactic| walk_at "g") => `(tactic| (repeat (walk_at "n"; walk_at "x")); walk_at "n")

-- Gr5
/-! ### reach_of, traced -/
theorem sqt_gx {K : PySem.W.Frag} {H H' : Hp} {a : Addr} {xs : List V} (h : SqT K H a xs) (g : Gx H H') : SqT K H' a xs :=
  h.elim (fun h => .inl (h.elim (fun h => .inl (g.ext _ _ h fun _ z => by cases z)) fun ⟨o, h⟩ => .inr ⟨o, g.ext _ _ h fun _ z => by cases z⟩)) fun h => .inr h
theorem lenSq {K : PySem.W.Frag} {H : Hp} {Q : VK} {p : Addr} {xs : List V} {n : Int} (h : SqT K H p xs) (e : (xs.length : Int) = n) (q : Q (.int n) H) : rLenQ K [.ref p] H Q := ⟨p, xs, rfl, .inr h, by rw [e]; exact q⟩
theorem enSq {K : PySem.W.Frag} {H : Hp} {R : It → Hp → Prop} {a : Addr} {xs : List V} (h : SqT K H a xs) (q : R (ItEt K a) H) : EnTT K [.ref a] H R := ⟨a, xs, rfl, h, q⟩
theorem cmul {i j : Int} (h1 : i.natAbs ≤ 100000) (h2 : j.natAbs ≤ 100000) : CMul i j := .inl ⟨by omega, by omega⟩
def trN (ds : List De) : Nat → Tr → Tr
  | 0, T => T
  | i + 1, T => match ds[i]? with
    | some d => (trN ds i T).do d i
    | none => trN ds i T
/-- the trace of a row of deeds -/
def trOf (ds : List De) (shown : Nat) : Tr := trN ds ds.length (Tr.zero (shown + 3 * ds.length))
theorem trN_wf {ds : List De} {shown : Nat} (hok : ∀ d ∈ ds, d.ok) (hs : ds = [] ∨ 19 ≤ shown) : ∀ i, i ≤ ds.length → ∃ n m, (trN ds i (Tr.zero (shown + 3 * ds.length))).Wf n m ∧ shown + 3 * (ds.length - i) ≤ n ∧ shown + 3 * (ds.length - i) ≤ m ∧ n ≤ shown + 3 * ds.length + 3 * i ∧ m ≤ shown + 3 * ds.length + 3 * i
  | 0, _ => ⟨_, _, Tr.zero_wf _, by omega, by omega, by omega, by omega⟩
  | i + 1, hi => by
    obtain ⟨n, m, wf, h1, h2, h3, h4⟩ := trN_wf hok hs i (by omega)
    have hsh : 19 ≤ shown := by
      rcases hs with e | e
      · rw [e] at hi
        simp at hi
      · exact e
    obtain ⟨d, hd⟩ : ∃ d, ds[i]? = some d := ⟨_, List.getElem?_eq_getElem (by omega)⟩
    obtain ⟨n', m', wf', ⟨a1, a2⟩, ⟨b1, b2⟩⟩ := do_wf (age := i) wf (hok d (List.mem_of_getElem? hd)) (by omega) (by omega)
    refine ⟨n', m', ?_, by omega, by omega, by omega, by omega⟩
    rw [trN, hd]
    exact wf'
section
variable {P : Program} {w : World} {K : PySem.W.Frag} {mg : Str → Option Value} {fds : Str → FuncData} {base : Heap}
abbrev s_reach_of : Stmt := top 19
abbrev N_reach_of : List Str := ["many"]
theorem sc_reach_of : FnScope N_reach_of ["many"] (defScope s_reach_of) := ⟨rfl, rfl, rfl, by decide +kernel, rfl, by decide +kernel, by decide +kernel⟩
def spReach : Sp := fun vs H Q _ => ∃ n : Nat, vs = [.int (n : Int)] ∧ n ≤ 100 ∧ Q (.int ((18 + 3 * n : Nat) : Int)) H
theorem ok_reach_of (T : Txt K mg fds) : FnOk P w K mg base CX0 1 (He.ga K "reach_of") (fds "reach_of") ["many"] spReach := by
  refine T.d_reach_of.fn.ok sc_reach_of (fun vs H Q E h => ?_) (fun cdv A outer s H vs Q E hr h => ?_)
  · obtain ⟨n, rfl, _⟩ := h; rfl
  · obtain ⟨n, rfl, hn, k⟩ := h
    refine ⟨_, PSs.nox (pss_one (ps_ret (pe_op op_add (pe_op op_add (pe_op op_add (pe_glob (v := .int 9) rfl T.c_WIDEST_traces.choose_spec ⟨_, rfl⟩) (pe_glob (v := .int 3) rfl T.c_MOST_traces.choose_spec ⟨_, rfl⟩)) (pe_op op_mul (pe_glob (v := .int 3) rfl T.c_MOST_traces.choose_spec ⟨_, rfl⟩) (pv 0))) pe_int))), ?_⟩
    rw [show L2.start N_reach_of [.int (n : Int)] = [some (.int (n : Int))] from rfl]
    walk_at "g"
    refine ⟨cmul (by omega) (by omega), ?_⟩
    rw [show (12 : Int) + 3 * (n : Int) + 6 = ((18 + 3 * n : Nat) : Int) by omega]
    exact k
abbrev s_traced : Stmt := top 21
abbrev N_traced : List Str := ["deeds", "shown", "trace", "age", "deed"]
theorem sc_traced : FnScope N_traced ["deeds", "shown"] (defScope s_traced) := ⟨rfl, rfl, rfl, by decide +kernel, rfl, by decide +kernel, by decide +kernel⟩
def spTraced (K : PySem.W.Frag) : Sp := fun vs H Q _ => ∃ (p : Addr) (us : List V) (ds : List De) (shown : Nat), vs = [.ref p, .int (shown : Int)] ∧ SqT K H p us ∧ DsV H us ds ∧ (ds = [] ∨ 19 ≤ shown) ∧ shown ≤ 100 ∧ NdefX.TabsN (TbN K) H ∧ ∀ H' t, TrIn K (TbN K) H H' t (trOf ds shown) → Q (.ref t) H'
theorem ok_traced (T : Txt K mg fds) (TC : TabsOk K mg base) : FnOk P w K mg base CX0 8 (He.ga K "traced") (fds "traced") ["deeds", "shown"] (spTraced K) := by
  refine T.d_traced.fn.ok sc_traced (fun vs H Q E h => ?_) (fun cdv A outer s H vs Q E hr h => ?_)
  · obtain ⟨p, us, ds, shown, rfl, _⟩ := h; rfl
  · obtain ⟨p, us, ds, shown, rfl, hp, hds, hs, hs2, tb, kk⟩ := h
    have nd := sc_traced.nd
    refine ⟨_, PSs.nox (pss_cons (ps_set (i := 2) nd rfl (by first | exact Or.inl rfl | exact Or.inr rfl) (pe_mk T.mk_Trace T.m_Trace T.e_init (ok_Trace_init T (TbN K)) hr rfl (pa_cons (pe_op op_add (pv 1) (pe_op op_mul (pe_glob (v := .int 3) rfl T.c_MOST_traces.choose_spec ⟨_, rfl⟩) (pe_callB call_lenQ (by rfl) T.g_len (by decide +kernel) (pa_cons (pv 0) pa_nil)))) pa_nil)))
      (pss_cons (ps_for PassesOwn.never rfl (pi_enumT (by rfl) T.g_enumerate (pa_cons (pv 0) pa_nil)) (pg_tup rfl (pgs_cons (pg_name (i := 3) nd rfl (by first | exact Or.inl rfl | exact Or.inr rfl)) (pgs_cons (pg_name (i := 4) nd rfl (by first | exact Or.inl rfl | exact Or.inr rfl)) pgs_nil)))
        (pss_one (ps_expr (pe_mt T.k_Trace T.h_do T.e_do (ok_do T TC) hr (pv 2) (pa_cons (pv 4) (pa_cons (pv 3) pa_nil))))))
      (pss_one (ps_ret (pv 2))))), ?_⟩
    rw [show L2.start N_traced [.ref p, .int (shown : Int)] = [some (.ref p), some (.int (shown : Int)), none, none, none] from rfl]
    walk_at "g"
    refine lenSq hp rfl ?_
    have hul := hds.1.length
    have h6 := hds.2.2
    walk_at "g"
    refine ⟨cmul (by omega) (by omega), fun t dx ht hdx hne => ?_⟩
    have s1 : Same H (upd (upd H dx (.own t)) t (.ins (He.ga K "Trace") dx [])) := (Same.upd _ hdx).trans (Same.upd _ (by rw [upd_ne hne.symm]; exact ht))
    rw [show (shown : Int) + 3 * (us.length : Int) = ((shown + 3 * ds.length : Nat) : Int) by omega]
    refine ⟨t, dx, shown + 3 * ds.length, H, rfl, upd_same, ht, fun b hb => s1.free hb, Gx.of s1, tb.ext s1, by omega, fun H2 hin => ⟨rfl, ?_⟩⟩
    have hp2 := sqt_gx hp hin.gx
    refine enSq hp2 ?_
    have wk := walk_enumT (K := K) (a := p) (xs := us)
    refine forW wk (fun i σ HH => ∃ (k3 k4 : Option V), σ = [some (.ref p), some (.int (shown : Int)), some (.ref t), k3, k4] ∧ TrIn K (TbN K) H HH t (trN ds i (Tr.zero (shown + 3 * ds.length)))) ⟨none, none, rfl, hin⟩ (fun i σ HH _ h => by
      obtain ⟨_, _, _, h⟩ := h
      exact sqt_gx hp h.gx) ?_ ?_
    · rintro i v σ H4 H5 hi ⟨k3, k4, rfl, hin⟩ ⟨T1, x1, y1, rfl, hT, rfl, e1, e2⟩
      cases e1
      have s5 := Same.upd (.tup [.int (i : Nat), y1]) hT
      have hin5 := hin.grow s5
      obtain ⟨d, hd, hda⟩ := paired_get hds.1 (show us[i]? = some y1 from e2)
      obtain ⟨n, m, wf, w1, w2, w3, w4⟩ := trN_wf hds.2.1 hs i (by omega)
      have hsh : 19 ≤ shown := by
        rcases hs with e | e
        · rw [e] at hd
          cases hd
        · exact e
      obtain ⟨o, ro, hx⟩ := hin5.x
      obtain ⟨dx, hob⟩ := hx.ob
      walk_at "n"
      refine tupG upd_same rfl ?_
      walk_at "n"
      refine mthI hob fsT_none ?_
      walk_at "n"
      refine ⟨t, y1, d, i, _, n, m, H, rfl, hda.same hin5.gx.tups, hds.2.1 d (List.mem_of_getElem? hd), hin5, wf, by omega, by omega, by omega, by omega, fun H6 h6 => ?_⟩
      walk_at "n"
      refine ⟨_, _, rfl, ?_⟩
      rw [trN, hd]
      exact h6
    · rintro σ HH ⟨k3, k4, rfl, hin⟩
      walk_at "n"
      rw [hul] at hin
      exact kk HH t hin
end

end Gr

namespace Gr
open PySem PySem.Spec PyProof.Rows L2
/-! ### max of a list by age_of -/
section
variable {P : Program} {w : World} {K : PySem.W.Frag} {A : Around} {f : Addr} {fd : FuncData}
theorem age_raw {s : Shared} {p : Addr} {its : List Value} {i : Int} {t : Tok} (F : FnP K "age_of" (top 23) f fd) (B : Binds K fd ["telling"] []) (X : K.In s.heap) (lim : s.heap.NoLimit) (room : A.depth < recursionLimit) (ht : IsTup s.heap p its.toArray) (h2 : its[2]? = some (.int i t)) :
    wpAny (model P w) A (call (.ref f) [.ref p]) (fun v s2 => v = .int i t ∧ ∃ h' tk, s2 = { s with heap := h', toks := tk } ∧ ∀ b o, s.heap.get? b = some o → h'.get? b = some o) (fun _ _ => False) s := by
  obtain ⟨oc, od, dV, kV, doc, pm, an, cdv, ct, osl, rfl, lk, hcd, _, _⟩ := F.ex
  have hloc : (defScope (top 23)).names.lookup (Str.ofString "telling") = some NameKind.local := by decide +kernel
  refine wpAny_call (Att.call_fn (binds := [("telling", .ref p)]) X lim lk hcd room (B s [.ref p] X rfl) (by simp [hloc]) (fun s1 x => ?_) rfl rfl rfl)
  obtain ⟨h1, tk, rfl, kp⟩ := x.done
  obtain ⟨o, ho, hc1, hc2⟩ := ht
  show wpAny _ _ (execs [.Return (some (.Subscript (.Name "telling" _) (.Constant (.int 2) _ _) _)) _] _) _ _ _
  refine wpAny_execs_cons (wpAny_Return_some (Subscript_ ?_))
  refine wpAny_Name (wpAny_loadName_local rfl rfl x.toInCall.ns (v := .ref p) rfl ?_) rfl
  refine wpAny_Constant_int ?_
  refine subscriptTail_builtinR (x := .int i t) ⟨o, kp _ _ ho, hc1⟩ slot_tuple_getitem.lookup (getItem_tuple (j := 2) (Q := fun r s2 => r = .int i t ∧ _) ⟨o, kp _ _ ho, hc1, hc2⟩ ?_ ?_ ?_ ?_ ⟨rfl, ?_⟩) ?_
  · decide
  · decide
  · have hl := (List.getElem?_eq_some_iff.mp h2).1
    unfold seqIndex?
    rw [List.size_toArray]
    have e1 : ¬ ((2 : Int) < 0) := by decide
    simp [e1]
    omega
  · simpa using h2
  · exact ⟨rfl, _, _, rfl, kp⟩
  · rfl
/-- max(xs, key=age_of) -/
def rMaxAge (K : PySem.W.Frag) : List V → List V → Hp → VK → Prop := fun vs zs H Q => ∃ (l : Addr) (us : List V) (ag : Nat → Int), vs = [.ref l] ∧ zs = [.ref (He.ga K "age_of")] ∧ H l = some (.lst us) ∧ us ≠ [] ∧ (∀ i v, us[i]? = some v → ∃ p a b, v = .ref p ∧ H p = some (.tup [a, b, .int (ag i)])) ∧
  ∀ i v, us[i]? = some v → (∀ j, j < us.length → ag j ≤ ag i ∧ (j < i → ag j < ag i)) → Q v H
theorem cr_maxAge {X : Cx} {k : Nat} (hc : X.calm = true) (hr : Room k X.A) (D : Df X.K X.mg "age_of" 23 ["telling"] fd) : CallRK X (.builtin "max") [Str.ofString "key"] (rMaxAge X.K) := by
  intro pins s σ H xs zs us ws Q I r rz h
  obtain ⟨l, vs, ag, rfl, rfl, hl, hne, htup, q⟩ := h
  obtain rfl := Vals.ref1 r
  obtain rfl := Vals.ref1 rz
  obtain ⟨its, rv, hlst, hz⟩ := I.list (SqL.of hl)
  obtain ⟨m, F⟩ := I.fr
  have N := news_all (g := X.base) (h := s.heap) (L := X.env.locals)
  have keepAll : ∀ h', Fr X.base X.env.locals h' m → News X.base X.env.locals h' (allNews X.base s.heap X.env.locals) → ∀ b o, b ≠ X.env.locals → s.heap.get? b = some o → h'.get? b = some o := fun h' F' N' b o hb e => by
    cases z : X.base.get? b with
    | some u =>
      have e2 := I.bk b u z
      rw [e] at e2
      cases e2
      exact F'.keep b _ z
    | none => exact (N' (b, o) (mem_allNews hb z e)).1
  have lL : l ≠ X.env.locals := fun z => by
    have e := I.free
    rw [← z, hl] at e
    cases e
  have pL : ∀ {p : Addr} {o : HO}, H p = some o → p ≠ X.env.locals := fun e z => by
    have e2 := I.free
    rw [← z, e] at e2
    cases e2
  have hit : its.length = vs.length := rv.length.symm
  refine kmk_max (h₀ := X.base) (L := X.env.locals) (m := m) (news := allNews X.base s.heap X.env.locals) (vs := its) ag (I.ok.hd hc) F N (fun h' F' N' => ?_) (by rw [hit]; exact List.length_pos_iff.mpr hne) (fun i v hv h' tk own F' N' => ?_) fun i v h' tk hv best F' N' => ?_
  · obtain ⟨o, ho, hd⟩ := hlst.isList
    exact ⟨o, keepAll h' F' N' l o lL ho, hd⟩
  · have hvi := (List.getElem?_eq_some_iff.mp hv).1
    obtain ⟨y, hy⟩ : ∃ y, vs[i]? = some y := ⟨_, List.getElem?_eq_getElem (by omega)⟩
    obtain ⟨u, hu, ru⟩ := rv.get hy
    rw [hv] at hu
    cases hu
    obtain ⟨p, a, b, rfl, hp⟩ := htup i y hy
    cases ru
    obtain ⟨_, its2, rv2, o, ho, hc1, hc2⟩ := I.hok p _ hp
    obtain ⟨t, e2⟩ : ∃ t, its2[2]? = some (Value.int (ag i) t) := by
      obtain ⟨u2, hu2, t, rfl⟩ := rv2.get (i := 2) (x := V.int (ag i)) rfl
      exact ⟨t, hu2⟩
    have g1 := keepAll h' F' (fun q hq => N' q (List.mem_append_left _ hq))
    refine wpAny_mono (age_raw (s := { s with heap := h', toks := tk }) D.fn D.bd (I.mod.kin.keeps F'.keep) (I.ok.mod.nolimit.keeps F'.keep) hr.depth ⟨o, g1 p o (pL hp) ho, hc1, hc2⟩ e2) (fun x s2 hx => ?_) fun _ _ z => z
    obtain ⟨rfl, h2, tk2, rfl, kp⟩ := hx
    exact ⟨h2, tk2, t, rfl, rfl, ⟨F'.ns.keeps kp, fun b o e => kp b o (F'.keep b o e), F'.above⟩, fun q hq => ⟨kp _ _ (N' q hq).1, (N' q hq).2⟩⟩
  · have hvi := (List.getElem?_eq_some_iff.mp hv).1
    obtain ⟨y, hy⟩ : ∃ y, vs[i]? = some y := ⟨_, List.getElem?_eq_getElem (by omega)⟩
    obtain ⟨u, hu, ru⟩ := rv.get hy
    rw [hv] at hu
    cases hu
    have g1 := keepAll h' F' N'
    have I2 : Inv X pins σ H { s with heap := h', toks := tk } := by
      refine I.step (g' := s.gens) (d' := s.drawn) (ch := []) (fun _ z => by cases z) (fun b o hL _ _ e _ => g1 b o hL e) (fun b o hL _ _ e _ => ⟨o.slots, g1 b o hL e⟩) (fun _ _ _ _ n => n) (fun b o _ e => ?_) (fun _ _ e => e) (fun _ _ _ e => e) (fun b ps e => ⟨#[], by rw [e]; simp⟩) (fun m2 hm2 => ?_) ?_ I.bare
      · by_cases hb : b = X.env.locals
        · obtain ⟨o2, _, _, ho2, _⟩ := F'.ns
          exact ⟨o2, by rw [hb]; exact ho2⟩
        · exact ⟨o, g1 b o hb e⟩
      · rw [hm2.eq_nsMap, ← F.ns.eq_nsMap]
        exact F'.ns
      · intro a o e
        exact (I.hok a o e).stay (fun b u hb e2 => g1 b u (by
          rcases hb with z | z
          · rw [z]
            exact pL e
          · exact pL z) e2) (fun _ z => z) fun _ _ z => z
    refine ⟨y, H, I2, ru, q i y hy fun j hj => ?_⟩
    have b1 := best j (by omega)
    exact ⟨b1.1, b1.2⟩
end
theorem u_tCKw {r : List V → List V → Hp → VK → Prop} {t tk : TA} {σ : L2.St} {H : Hp} {Q : VK} : tCKw r t tk σ H Q = t σ H fun vs H1 => tk σ H1 fun zs H2 => r vs zs H2 Q := rfl
theorem pg_tupK {X : Cx} {K : PySem.W.Frag} {es : List Expr} {k : Nat} {t : TGs} {n : Nat} {pos : Pos} (e : X.K = K) (hc : X.calm = true) (h : PGs X es t) (hn : (assignEach es X.env).length = n := by rfl) (hst : (assignEach es X.env).findIdx? (·.1) = none := by rfl) : PG X (.Tuple es k pos) (gTup K n t) := by
  subst e
  exact pg_tup hc h hn hst
end Gr

namespace Gr
open PySem PySem.Spec PyProof.Rows L2
local macro_rules | `(tactic| walk_at "n") => `(tactic| try simp only [u_tVar, u_tC, u_tB, u_tTest, u_tAnd, u_tOr, u_tNot, u_tAndV, u_tOrV, u_tNotV, u_tIf, u_tNext, u_tSeq, u_tBreak, u_tCont, u_tDrop, u_tRet, u_tRetN, u_tIfS, u_tNever, u_gName, u_tAsg, u_tPar, u_gSub, u_tOp, u_tUn, u_tChain, u_tNil, u_tCons, u_tTup, u_tLst, u_tCB, u_tCall, u_tNoPart, u_tPart, u_tSl, u_tYes, u_iList', u_iTup', u_tLc, u_tDc, u_tFor, u_iRng1, u_iRng2, u_iEnum, u_iEnumT, u_iZip, u_iZip3, L2.wipe, u_sDPut', u_tDGet', u_tDNewK, u_tFld', u_sFld, u_gTup, u_gCons, u_gNil, u_tMeth, u_tCKw, u_tMake, u_tMethC, u_tNdefM, u_tCallL, u_tLstRg, v_rI0, v_rI, v_eqI, v_neI, v_eqS, v_neS, v_bl, v_int, v_ref, v_some, v_two, w_insert_tell, w_remove_tell, w_remove_insert, w_move_tell, w_move_insert, w_move_remove, w_copy_tell, w_copy_insert, w_copy_remove, w_copy_move, w_rows_table, w_columns_table, w_cells_table, w_rows_cells, w_columns_cells, w_columns_rows, w_cells_rows, w_cells_columns, w_rows_columns, w_table_cells, w_table_rows, w_table_columns, w_column_row, w_plain_like, w_like_plain, w_old_new, w_new_old, w_newest_nearest, w_nearest_newest, w_ink_ground, w_ink_face, w_ground_ink, w_ground_face, w_face_ink, w_face_ground, w_whole_lanes, w_whole_files, w_whole_spots, w_lanes_files, w_lanes_spots, w_files_spots, List.getElem?_cons_zero, List.getElem?_cons_succ, List.set_cons_zero, List.set_cons_succ, List.append_nil, Bool.not_true, Bool.not_false, eq_self, if_true, Bool.false_eq_true, if_false, decide_true, decide_false, v_max, v_min, v_intQ, v_isN, v_notN, reduceCtorEq, Nat.reduceAdd, Nat.zero_add, Int.cast_ofNat_Int, Int.reduceEq, Int.reduceLE, Int.reduceLT, Int.reduceAdd, List.cons_append, List.nil_append, List.map_cons, List.map_nil, Sc.vs, ov, De.vs, how, List.length_cons, List.length_nil])
local macro_rules | `(tactic| walk_at "x") => `(tactic| first | refine ixT (by assumption) rfl ?_ | refine ixL (by assumption) rfl ?_ | refine lenT (by assumption) rfl ?_ | refine lenL (by assumption) rfl ?_ | refine isi (.base (.int _)) kit_int_int ?_ | refine isi (.base (.int _)) kit_int_str ?_ | refine isi (.base (.int _)) kit_int_bool ?_ | refine isi (.base (.int _)) kit_int_tuple ?_ | refine isi (.base (.int _)) kit_int_list ?_ | refine isi (.base (.str _)) kit_str_int ?_ | refine isi (.base (.str _)) kit_str_str ?_ | refine isi (.base (.str _)) kit_str_bool ?_ | refine isi (.base (.str _)) kit_str_tuple ?_ | refine isi (.base (.str _)) kit_str_list ?_ | refine isi (.base (.bl _)) kit_bool_int ?_ | refine isi (.base (.bl _)) kit_bool_str ?_ | refine isi (.base (.bl _)) kit_bool_bool ?_ | refine isi (.base (.bl _)) kit_bool_tuple ?_ | refine isi (.base (.bl _)) kit_bool_list ?_ | refine isi (.base (.tup (by assumption))) kit_tuple_int ?_ | refine isi (.base (.tup (by assumption))) kit_tuple_str ?_ | refine isi (.base (.tup (by assumption))) kit_tuple_bool ?_ | refine isi (.base (.tup (by assumption))) kit_tuple_tuple ?_ | refine isi (.base (.tup (by assumption))) kit_tuple_list ?_ | refine isi (.base (.lst (by assumption))) kit_list_int ?_ | refine isi (.base (.lst (by assumption))) kit_list_str ?_ | refine isi (.base (.lst (by assumption))) kit_list_bool ?_ | refine isi (.base (.lst (by assumption))) kit_list_tuple ?_ | refine isi (.base (.lst (by assumption))) kit_list_list ?_ | refine isi (.base (.non)) kit_NoneType_int ?_ | refine isi (.base (.non)) kit_NoneType_str ?_ | refine isi (.base (.non)) kit_NoneType_bool ?_ | refine isi (.base (.non)) kit_NoneType_tuple ?_ | refine isi (.base (.non)) kit_NoneType_list ?_)
local macro_rules | `(tactic| walk_at "g") => `(tactic| (repeat (walk_at "n"; walk_at "x")); walk_at "n")

-- Gr6
/-! ### what decides a place -/
inductive Dc where
  | cell (r c : Nat)
  | lane (n : Nat)
  | file (n : Nat)
  | table
  | new (v : Nat)
  deriving DecidableEq
def DcAt (H : Hp) (v : V) : Dc → Prop
  | .cell r c => TlAt srcC H v (some (.old (r, c)))
  | .lane n => TlAt srcR H v (some (.old n))
  | .file n => TlAt srcF H v (some (.old n))
  | .table => TlAt srcW H v (some (.old ()))
  | .new x => ∃ p, v = .ref p ∧ H p = some (.tup [.str "new", .int (x : Int)])
theorem DcAt.stay {H H' : Hp} {v : V} {d : Dc} (h : DcAt H v d) (e : TupS H H') : DcAt H' v d := by
  cases d with
  | cell r c => exact TlAt.stay (x := some (.old (r, c))) h e
  | lane n => exact TlAt.stay (x := some (.old n)) h e
  | file n => exact TlAt.stay (x := some (.old n)) h e
  | table => exact TlAt.stay (x := some (.old ())) h e
  | new x =>
    obtain ⟨p, h1, h2⟩ := h
    exact ⟨p, h1, e _ _ h2⟩
/-- a new telling's value and age -/
def Dd.nw : Dd → Option (Nat × Nat)
  | .new v n => some (v, n)
  | _ => none
def Dd.dc : Dd → Dc
  | .cell r c => .cell r c
  | .lane n => .lane n
  | .file n => .file n
  | .table => .table
  | .new v _ => .new v
theorem dc_at {H : Hp} {v : V} {d : Dd} (h : DdAt H v d) (n : d.nw = none) : DcAt H v d.dc := by
  cases d with
  | new x a => cases n
  | _ => exact h
/-- its first item -/
theorem dd_shape {H : Hp} {v : V} {d : Dd} (h : DdAt H v d) : ∃ p x xs, v = .ref p ∧ H p = some (.tup (.str x :: xs)) ∧ decide (x = Str.ofString "new") = d.nw.isSome := by
  have w : decide (Str.ofString "old" = Str.ofString "new") = false := by decide +kernel
  cases d with
  | new x a =>
    obtain ⟨p, h1, h2⟩ := h
    exact ⟨p, _, _, h1, h2, by simp [Dd.nw]⟩
  | cell r c => obtain ⟨p, q, h1, h2, _⟩ := h; exact ⟨p, _, _, h1, h2, w⟩
  | lane n => obtain ⟨p, q, h1, h2, _⟩ := h; exact ⟨p, _, _, h1, h2, w⟩
  | file n => obtain ⟨p, q, h1, h2, _⟩ := h; exact ⟨p, _, _, h1, h2, w⟩
  | table => obtain ⟨p, q, h1, h2, _⟩ := h; exact ⟨p, _, _, h1, h2, w⟩
def bestN : List (Nat × Nat) → Option (Nat × Nat)
  | [] => none
  | p :: ps => match bestN ps with
    | none => some p
    | some q => if p.2 < q.2 then some q else some p
def decN : List Dd → List Dc
  | [] => []
  | d :: ds => match d.nw with
    | some p => [.new p.1]
    | none => d.dc :: decN ds
def decM (ds : List Dd) : List Dc := match bestN (ds.filterMap Dd.nw) with
  | some p => [.new p.1]
  | none => ds.map Dd.dc
def dec (od : Od) (ds : List Dd) : List Dc := match od with
  | .nearest => decN ds
  | .newest => decM ds
theorem best_mem : ∀ {ps : List (Nat × Nat)} {q : Nat × Nat}, bestN ps = some q → q ∈ ps
  | [], _, h => by cases h
  | p :: ps, q, h => by
    unfold bestN at h
    split at h
    · cases h
      exact List.mem_cons_self
    · rename_i q' e
      split at h
      · cases h
        exact List.mem_cons_of_mem _ (best_mem e)
      · cases h
        exact List.mem_cons_self
theorem best_at : ∀ {ps : List (Nat × Nat)} {i : Nat} {p : Nat × Nat}, ps[i]? = some p → (∀ j q, ps[j]? = some q → q.2 ≤ p.2 ∧ (j < i → q.2 < p.2)) → bestN ps = some p
  | [], i, p, h, _ => by cases h
  | a :: ps, 0, p, h, hb => by
    cases h
    unfold bestN
    split
    · rfl
    · rename_i q e
      obtain ⟨j, hj⟩ := List.mem_iff_getElem?.mp (best_mem e)
      have := (hb (j + 1) q (by simpa using hj)).1
      rw [if_neg (by omega)]
  | a :: ps, i + 1, p, h, hb => by
    have h' : ps[i]? = some p := by simpa using h
    have ih := best_at h' fun j q hj => by
      have := hb (j + 1) q (by simpa using hj)
      exact ⟨this.1, fun z => this.2 (by omega)⟩
    unfold bestN
    rw [ih]
    have := (hb 0 a rfl).2 (by omega)
    simp [this]
theorem best_none {ps : List (Nat × Nat)} : bestN ps = none ↔ ps = [] := by
  cases ps with
  | nil => exact ⟨fun _ => rfl, fun _ => rfl⟩
  | cons a ps =>
    refine ⟨fun h => ?_, fun h => by cases h⟩
    unfold bestN at h
    split at h
    · cases h
    · split at h <;> cases h
def NwAt (H : Hp) (v : V) (p : Nat × Nat) : Prop := ∃ a, v = .ref a ∧ H a = some (.tup [.str "new", .int (p.1 : Int), .int (p.2 : Int)])
theorem NwAt.stay {H H' : Hp} {v : V} {d : Nat × Nat} (h : NwAt H v d) (e : TupS H H') : NwAt H' v d := by
  obtain ⟨p, h1, h2⟩ := h
  exact ⟨p, h1, e _ _ h2⟩
theorem nw_at {H : Hp} {v : V} {d : Dd} {p : Nat × Nat} (h : DdAt H v d) (n : d.nw = some p) : NwAt H v p := by
  cases d with
  | new x a =>
    cases n
    exact h
  | _ => cases n
theorem decN_old : ∀ {ds : List Dd}, (∀ d ∈ ds, d.nw = none) → decN ds = ds.map Dd.dc
  | [], _ => rfl
  | d :: ds, h => by
    rw [decN, h d List.mem_cons_self]
    simp only [List.map_cons]
    rw [decN_old fun d hd => h d (List.mem_cons_of_mem _ hd)]
theorem decN_new : ∀ {ds : List Dd} {i : Nat} {d : Dd} {p : Nat × Nat}, ds[i]? = some d → d.nw = some p → (∀ d ∈ ds.take i, d.nw = none) → decN ds = (ds.take i).map Dd.dc ++ [.new p.1]
  | [], _, _, _, h, _, _ => by cases h
  | a :: ds, 0, d, p, h, hn, _ => by
    cases h
    rw [decN, hn]
    rfl
  | a :: ds, i + 1, d, p, h, hn, ho => by
    have h' : ds[i]? = some d := by simpa using h
    rw [decN, ho a (by simp)]
    simp only [List.take_succ_cons, List.map_cons, List.cons_append]
    rw [decN_new h' hn fun d hd => ho d (by simp [hd])]
theorem at0 (v : V) (xs : List V) : atI (v :: xs) 0 = some v := atI_nat (j := 0) rfl
theorem trL {K : PySem.W.Frag} {H : Hp} {p : Addr} {xs : List V} (h : H p = some (.lst xs)) : TruV K (.ref p) H (!xs.isEmpty) := .inl ⟨xs, SqL.of h, rfl⟩
section
variable {P : Program} {w : World} {K : PySem.W.Frag} {mg : Str → Option Value} {fds : Str → FuncData} {base : Heap}
abbrev s_deciding_tellings : Stmt := top 22
abbrev N_deciding_tellings : List Str := ["order", "tellings", "new", "one", "found"]
theorem sc_deciding_tellings : FnScope N_deciding_tellings ["order", "tellings"] (defScope s_deciding_tellings) := ⟨rfl, rfl, rfl, by decide +kernel, rfl, by decide +kernel, by decide +kernel⟩
def spDec : Sp := fun vs H Q _ => ∃ (od : Od) (l : Addr) (us : List V) (ds : List Dd), vs = [.str od.s, .ref l] ∧ H l = some (.lst us) ∧ Paired (DdAt H) us ds ∧ ds.length ≤ 4 ∧ ∀ H' l' us', Same H H' → (l' = l ∨ H l' = none) → H' l' = some (.lst us') → Paired (DcAt H') us' (dec od ds) → Q (.ref l') H'
theorem ok_deciding_tellings (T : Txt K mg fds) : FnOk P w K mg base CX0 3 (He.ga K "deciding_tellings") (fds "deciding_tellings") ["order", "tellings"] spDec := by
  refine T.d_deciding_tellings.fn.ok sc_deciding_tellings (fun vs H Q E h => ?_) (fun cdv A outer s H vs Q E hr h => ?_)
  · obtain ⟨od, l, us, ds, rfl, _⟩ := h; rfl
  · obtain ⟨od, l, us, ds, rfl, hl, hp, hd4, k⟩ := h
    have nd := sc_deciding_tellings.nd
    refine ⟨_, PSs.nox (pss_cons (ps_setLc (i := 2) (own := [("one", 3)]) rfl nd rfl rfl (sw_true rfl rfl rfl (by decide +kernel)) (pi_list (pv 1)) (blkOk_by (N := N_deciding_tellings) (sc := (defScope s_deciding_tellings)) (by decide +kernel)) (fun _ _ _ _ _ => (pg_name (i := 3) nd rfl (by first | exact Or.inl rfl | exact Or.inr rfl))) (fun _ _ _ _ _ => pts_one (pt_cmpR op_eq (pe_ix (ix_tupK (K := K) rfl) (pv 3) pe_int (fun _ _ => rfl)) pe_str (nomark _))) (fun _ _ _ _ _ => (pv 3)))
      (pss_cons (ps_if (pt_cmpR op_eq (pv 0) pe_str (nomark _))
        (pss_cons (ps_if (pt_truth (pv 2) (by intro _; rfl))
          (pss_one (ps_ret (pe_lst (pa_cons (pe_tup (pa_cons pe_str (pa_cons (pe_ix ix_tup (pe_callBK (cr_maxAge rfl hr T.d_age_of) (by rfl) T.g_max (by decide +kernel) (pa_cons (pv 2) pa_nil) (pk_cons (pe_glob (v := .ref (He.ga K "age_of")) rfl T.d_age_of.mg rfl) pk_nil)) pe_int (fun _ _ => rfl)) pa_nil))) pa_nil))))
          pss_nil)
        (pss_one (ps_ret (pv 1))))
        pss_nil)
      (pss_cons (ps_set (i := 4) nd rfl (by first | exact Or.inl rfl | exact Or.inr rfl) (pe_lst pa_nil))
      (pss_cons (ps_for PassesOwn.never rfl (pi_list (pv 1)) (pg_name (i := 3) nd rfl (by first | exact Or.inl rfl | exact Or.inr rfl))
        (pss_cons (ps_if (pt_cmpR op_eq (pe_ix ix_tup (pv 3) pe_int (fun _ _ => rfl)) pe_str (nomark _))
          (pss_one (ps_ret (pe_op op_cat (pv 4) (pe_lst (pa_cons (pe_tup (pa_cons pe_str (pa_cons (pe_ix ix_tup (pv 3) pe_int (fun _ _ => rfl)) pa_nil))) pa_nil)))))
          pss_nil)
        (pss_one (ps_expr (pe_bm PySem.F.plainAttrs_list PySem.F.slot_list_append PySem.F.type_list_append mt_append (pv 4) (pa_cons (pv 3) pa_nil))))))
      (pss_one (ps_ret (pv 4))))))), ?_⟩
    rw [show L2.start N_deciding_tellings [.str od.s, .ref l] = [some (.str od.s), some (.ref l), none, none, none] from rfl]
    walk_at "g"
    refine lsL hl ?_
    have hul := hp.length
    refine lc_inv (walk_list (xs := us)) (fun D i acc H => Paired (NwAt H) acc ((ds.take i).filterMap Dd.nw)) (by omega) (fun D i acc H p => ?_) (fun D hD => ?_) (fun D H hD g => SqL.of (g.same hD _ _ hl)) ?_ ?_
    · rw [p.length]
      refine Nat.le_trans (List.length_filterMap_le _ _) ?_
      rw [List.length_take]
      omega
    · rw [List.take_zero]
      exact .nil
    · rintro D i x H2 H3 acc k1 k2 hD hi gr hacc hI ⟨rfl, hxi⟩ hk1 hk2
      obtain ⟨d, hd, hda⟩ := paired_get hp hxi
      have hda := hda.stay (TupS.of (gr.same hD))
      obtain ⟨p, x0, xs0, rfl, hpt, hdec⟩ := dd_shape hda
      rw [List.take_add_one, hd] at hk1 hk2
      rw [List.filterMap_append] at hk1 hk2
      walk_at "n"
      refine ⟨trivial, ixT hpt (at0 _ _) ?_⟩
      walk_at "n"
      rw [hdec]
      have ts : ∀ l : List V, TupS H3 (upd H3 D (.lst l)) := fun l => TupS.upd fun ys z => by rw [hacc] at z; cases z
      cases hn : d.nw with
      | none =>
        simp only [Option.isSome_none]
        walk_at "n"
        refine hk2 _ (Same.refl _) ?_
        simp [hn]
        exact hI
      | some q =>
        simp only [Option.isSome_some]
        walk_at "n"
        refine hk1 _ _ (Same.refl _) ?_
        simp [hn]
        exact paired_app (Paired.mapP hI fun _ _ z => z.stay (ts _)) (.cons ((nw_at hda hn).stay (ts _)) .nil)
    · intro D acc H2 hD gr hDl hI
      have s2 := gr.same hD
      rw [hul, List.take_length] at hI
      have hl2 := s2 _ _ hl
      have hp2 := Paired.mapP hp fun _ _ z => z.stay (TupS.of s2)
      cases od with
      | newest =>
        rw [show decide (Od.newest.s = Str.ofString "newest") = true by decide +kernel]
        walk_at "n"
        refine ⟨_, trL hDl, ?_⟩
        cases hb : bestN (ds.filterMap Dd.nw) with
        | none =>
          have e := best_none.mp hb
          rw [e] at hI
          cases hI
          walk_at "n"
          refine k H2 l us s2 (.inl rfl) hl2 ?_
          have e2 : dec Od.newest ds = ds.map Dd.dc := by
            show decM ds = _
            unfold decM
            rw [hb]
          rw [e2]
          refine paired_of (by rw [List.length_map, hul]) fun i v y hv hy => ?_
          rw [List.getElem?_map] at hy
          obtain ⟨d, hd, hda⟩ := paired_get hp2 hv
          rw [hd] at hy
          cases hy
          refine dc_at hda ?_
          cases hn : d.nw with
          | none => rfl
          | some q =>
            have hm : q ∈ ds.filterMap Dd.nw := List.mem_filterMap.mpr ⟨d, List.mem_of_getElem? hd, hn⟩
            rw [e] at hm
            cases hm
        | some q =>
          have hne : acc ≠ [] := fun z => by
            rw [z] at hI
            have := hI.length
            have e := best_none.mpr (List.eq_nil_of_length_eq_zero this.symm)
            rw [hb] at e
            cases e
          have hle : acc.isEmpty = false := by
            cases acc with
            | nil => exact absurd rfl hne
            | cons a b => rfl
          rw [hle]
          walk_at "n"
          refine ⟨D, acc, fun i => (((ds.filterMap Dd.nw).getD i (0, 0)).2 : Int), rfl, rfl, hDl, hne, fun i v hv => ?_, fun i v hv best => ?_⟩
          · obtain ⟨p, hpp, a, rfl, ha⟩ := paired_get hI hv
            dsimp only
            rw [getD_some _ hpp]
            exact ⟨a, _, _, rfl, ha⟩
          · obtain ⟨p, hpp, a, rfl, ha⟩ := paired_get hI hv
            have eb : bestN (ds.filterMap Dd.nw) = some p := best_at hpp fun j r hj => by
              have := best j (by rw [hI.length]; exact (List.getElem?_eq_some_iff.mp hj).1)
              dsimp only at this
              rw [getD_some _ hpp, getD_some _ hj] at this
              exact ⟨by omega, fun z => by have := this.2 z; omega⟩
            rw [hb] at eb
            cases eb
            walk_at "g"
            refine ⟨by decide, fun p1 hp1 => ⟨by decide, fun p2 hp2' => ?_⟩⟩
            have s3 := Same.upd (.tup [.str "new", .int (q.1 : Int)]) hp1
            have s4 := Same.upd (.lst [.ref p1]) hp2'
            refine k _ p2 [.ref p1] ((s2.trans s3).trans s4) (.inr ((s2.trans s3).free hp2')) upd_same ?_
            have e2 : dec Od.newest ds = [.new q.1] := by
              show decM ds = _
              unfold decM
              rw [hb]
            rw [e2]
            exact .cons ⟨p1, rfl, s4 _ _ upd_same⟩ .nil
      | nearest =>
        rw [show decide (Od.nearest.s = Str.ofString "newest") = false by decide +kernel]
        walk_at "n"
        refine ⟨by decide, fun fD hfD => ?_⟩
        have s3 := Same.upd (.lst []) hfD
        refine lsL (s3 _ _ hl2) ?_
        refine forW (walk_list (xs := us)) (fun i σ HH => ∃ (k3 : Option V) (fvs : List V), σ = [some (.str Od.nearest.s), some (.ref l), some (.ref D), k3, some (.ref fD)] ∧ HH fD = some (.lst fvs) ∧ Paired (DcAt HH) fvs ((ds.take i).map Dd.dc) ∧ (∀ d ∈ ds.take i, d.nw = none) ∧ Grow fD H2 HH) ?_ (fun i σ HH _ h => ?_) ?_ ?_
        · exact ⟨none, [], rfl, upd_same, by rw [List.take_zero]; exact .nil, by simp, Grow.upd _⟩
        · obtain ⟨_, _, _, _, _, _, g⟩ := h
          exact SqL.of (g.same hfD _ _ hl2)
        · rintro i x σ H10 HH hi ⟨k3, fvs, rfl, hf, hpf, hold, g⟩ ⟨rfl, hxi⟩
          obtain ⟨d, hd, hda⟩ := paired_get hp2 hxi
          have hda := hda.stay (TupS.of (g.same hfD))
          obtain ⟨p, x0, xs0, rfl, hpt, hdec⟩ := dd_shape hda
          have hfl := hpf.length
          rw [List.length_map, List.length_take] at hfl
          walk_at "n"
          refine ixT hpt (at0 _ _) ?_
          walk_at "n"
          rw [hdec]
          cases hn : d.nw with
          | none =>
            simp only [Option.isSome_none]
            walk_at "n"
            refine ⟨V.ref fD, rfl, .inl ⟨rfl, fvs, SqL.of hf⟩, ?_⟩
            walk_at "n"
            refine ⟨fD, fvs, _, rfl, rfl, hf, by have := (by decide : 1000 < sizeLine); omega, ?_⟩
            have ts : ∀ l : List V, TupS HH (upd HH fD (.lst l)) := fun l => TupS.upd fun ys z => by rw [hf] at z; cases z
            refine ⟨_, _, rfl, upd_same, ?_, ?_, g.trans (Grow.upd _)⟩
            · rw [List.take_add_one, hd, List.map_append]
              exact paired_app (Paired.mapP hpf fun _ _ z => z.stay (ts _)) (.cons ((dc_at hda hn).stay (ts _)) .nil)
            · intro d' hd'
              rw [List.take_add_one, hd] at hd'
              rcases List.mem_append.mp hd' with z | z
              · exact hold d' z
              · have : d' = d := by simpa using z
                rw [this]
                exact hn
          | some q =>
            obtain ⟨a, e, ha⟩ := nw_at hda hn
            cases e
            rw [hpt] at ha
            cases ha
            simp only [Option.isSome_some]
            walk_at "n"
            refine ixT hpt rfl ?_
            walk_at "n"
            refine ⟨by decide, fun p1 hp1 => ⟨by decide, fun p2 hp2' => ?_⟩⟩
            have s4 := Same.upd (.tup [.str "new", .int (q.1 : Int)]) hp1
            have s5 := Same.upd (.lst [.ref p1]) hp2'
            refine catL (s5 _ _ (s4 _ _ hf)) upd_same (by simp; omega) fun r hr' => ?_
            have s6 := Same.upd (.lst (fvs ++ [.ref p1])) hr'
            have s46 := (s4.trans s5).trans s6
            refine k _ r _ ((s2.trans (g.same hfD)).trans s46) (.inr (((s2.trans (g.same hfD)).trans (s4.trans s5)).free hr')) upd_same ?_
            have e2 : dec Od.nearest ds = (ds.take i).map Dd.dc ++ [.new q.1] := decN_new hd hn hold
            rw [e2]
            exact paired_app (Paired.mapP hpf fun _ _ z => z.stay (TupS.of s46)) (.cons ⟨p1, rfl, s6 _ _ (s5 _ _ upd_same)⟩ .nil)
        · rintro σ HH ⟨k3, fvs, rfl, hf, hpf, hold, g⟩
          rw [hul, List.take_length] at hpf hold
          walk_at "n"
          refine k HH fD fvs (s2.trans (g.same hfD)) (.inr (s2.free hfD)) hf ?_
          rw [show dec Od.nearest ds = ds.map Dd.dc from decN_old hold]
          exact hpf
end

end Gr

namespace Gr
open PySem PySem.Spec PyProof.Rows L2
local macro_rules | `(tactic| walk_at "n") => `(tactic| try simp only [u_tVar, u_tC, u_tB, u_tTest, u_tAnd, u_tOr, u_tNot, u_tAndV, u_tOrV, u_tNotV, u_tIf, u_tNext, u_tSeq, u_tBreak, u_tCont, u_tDrop, u_tRet, u_tRetN, u_tIfS, u_tNever, u_gName, u_tAsg, u_tPar, u_gSub, u_tOp, u_tUn, u_tChain, u_tNil, u_tCons, u_tTup, u_tLst, u_tCB, u_tCall, u_tNoPart, u_tPart, u_tSl, u_tYes, u_iList', u_iTup', u_tLc, u_tDc, u_tFor, u_iRng1, u_iRng2, u_iEnum, u_iEnumT, u_iZip, u_iZip3, L2.wipe, u_sDPut', u_tDGet', u_tDNewK, u_tFld', u_sFld, u_gTup, u_gCons, u_gNil, u_tMeth, u_tCKw, u_tMake, u_tMethC, u_tNdefM, u_tCallL, u_tLstRg, v_rI0, v_rI, v_eqI, v_neI, v_eqS, v_neS, v_bl, v_int, v_ref, v_some, v_two, w_insert_tell, w_remove_tell, w_remove_insert, w_move_tell, w_move_insert, w_move_remove, w_copy_tell, w_copy_insert, w_copy_remove, w_copy_move, w_rows_table, w_columns_table, w_cells_table, w_rows_cells, w_columns_cells, w_columns_rows, w_cells_rows, w_cells_columns, w_rows_columns, w_table_cells, w_table_rows, w_table_columns, w_column_row, w_plain_like, w_like_plain, w_old_new, w_new_old, w_newest_nearest, w_nearest_newest, w_ink_ground, w_ink_face, w_ground_ink, w_ground_face, w_face_ink, w_face_ground, w_whole_lanes, w_whole_files, w_whole_spots, w_lanes_files, w_lanes_spots, w_files_spots, List.getElem?_cons_zero, List.getElem?_cons_succ, List.set_cons_zero, List.set_cons_succ, List.append_nil, Bool.not_true, Bool.not_false, eq_self, if_true, Bool.false_eq_true, if_false, decide_true, decide_false, v_max, v_min, v_intQ, v_isN, v_notN, reduceCtorEq, Nat.reduceAdd, Nat.zero_add, Int.cast_ofNat_Int, Int.reduceEq, Int.reduceLE, Int.reduceLT, Int.reduceAdd, List.cons_append, List.nil_append, List.map_cons, List.map_nil, Sc.vs, ov, De.vs, how, List.length_cons, List.length_nil])
local macro_rules | `(tactic| walk_at "x") => `(tactic| first | refine ixT (by assumption) rfl ?_ | refine ixL (by assumption) rfl ?_ | refine lenT (by assumption) rfl ?_ | refine lenL (by assumption) rfl ?_ | refine isi (.base (.int _)) kit_int_int ?_ | refine isi (.base (.int _)) kit_int_str ?_ | refine isi (.base (.int _)) kit_int_bool ?_ | refine isi (.base (.int _)) kit_int_tuple ?_ | refine isi (.base (.int _)) kit_int_list ?_ | refine isi (.base (.str _)) kit_str_int ?_ | refine isi (.base (.str _)) kit_str_str ?_ | refine isi (.base (.str _)) kit_str_bool ?_ | refine isi (.base (.str _)) kit_str_tuple ?_ | refine isi (.base (.str _)) kit_str_list ?_ | refine isi (.base (.bl _)) kit_bool_int ?_ | refine isi (.base (.bl _)) kit_bool_str ?_ | refine isi (.base (.bl _)) kit_bool_bool ?_ | refine isi (.base (.bl _)) kit_bool_tuple ?_ | refine isi (.base (.bl _)) kit_bool_list ?_ | refine isi (.base (.tup (by assumption))) kit_tuple_int ?_ | refine isi (.base (.tup (by assumption))) kit_tuple_str ?_ | refine isi (.base (.tup (by assumption))) kit_tuple_bool ?_ | refine isi (.base (.tup (by assumption))) kit_tuple_tuple ?_ | refine isi (.base (.tup (by assumption))) kit_tuple_list ?_ | refine isi (.base (.lst (by assumption))) kit_list_int ?_ | refine isi (.base (.lst (by assumption))) kit_list_str ?_ | refine isi (.base (.lst (by assumption))) kit_list_bool ?_ | refine isi (.base (.lst (by assumption))) kit_list_tuple ?_ | refine isi (.base (.lst (by assumption))) kit_list_list ?_ | refine isi (.base (.non)) kit_NoneType_int ?_ | refine isi (.base (.non)) kit_NoneType_str ?_ | refine isi (.base (.non)) kit_NoneType_bool ?_ | refine isi (.base (.non)) kit_NoneType_tuple ?_ | refine isi (.base (.non)) kit_NoneType_list ?_)
local macro_rules | `(tactic| walk_at "g") => `(tactic| (repeat (walk_at "n"; walk_at "x")); walk_at "n")

-- Gr6
/-! ### rows_at -/
theorem seen_len (T : Tr) (k : Kd) (r c : Nat) : (T.seen k r c).length ≤ 4 := by
  unfold Tr.seen
  refine Nat.le_trans (List.length_filterMap_le _ _) ?_
  simp [Tr.at4]
section
variable {P : Program} {w : World} {K : PySem.W.Frag} {mg : Str → Option Value} {fds : Str → FuncData} {base : Heap}
/-- what decides at a place, for each kind -/
def RowsV (H : Hp) (l : Addr) (F : Kd → List Dc) : Prop := ∃ f : Kd → Addr, H l = some (.lst [.ref (f .ink), .ref (f .ground), .ref (f .face)]) ∧ ∀ k, ∃ us, H (f k) = some (.lst us) ∧ Paired (DcAt H) us (F k)
abbrev s_rows_at : Stmt := top 25
abbrev N_rows_at : List Str := ["order", "trace", "row", "column", "kind"]
theorem sc_rows_at : FnScope N_rows_at ["order", "trace", "row", "column"] (defScope s_rows_at) := ⟨rfl, rfl, rfl, by decide +kernel, rfl, by decide +kernel, by decide +kernel⟩
def spRowsAt (K : PySem.W.Frag) : Sp := fun vs H Q _ => ∃ (od : Od) (t : Addr) (r c : Nat) (T : Tr) (n m : Nat) (H0 : Hp), vs = [.str od.s, .ref t, .int (r : Int), .int (c : Int)] ∧ TrIn K (TbN K) H0 H t T ∧ T.Wf n m ∧ r < n ∧ c < m ∧ ∀ H' l, Same H H' → H l = none → RowsV H' l (fun k => dec od (T.seen k r c)) → Q (.ref l) H'
theorem ok_rows_at (T : Txt K mg fds) : FnOk P w K mg base CX0 4 (He.ga K "rows_at") (fds "rows_at") ["order", "trace", "row", "column"] (spRowsAt K) := by
  refine T.d_rows_at.fn.ok sc_rows_at (fun vs H Q E h => ?_) (fun cdv A outer s H vs Q E hr h => ?_)
  · obtain ⟨od, t, r, c, T, n, m, H0, rfl, _⟩ := h; rfl
  · obtain ⟨od, t, r, c, Z, n, m, H0, rfl, hin, wf, hrn, hcm, k⟩ := h
    have nd := sc_rows_at.nd
    refine ⟨_, PSs.nox (pss_one (ps_ret (pe_lc (own := [("kind", 4)]) rfl nd (pi_tup (pe_glob (v := .ref (He.ga K "KINDS")) rfl T.m_KINDS rfl)) (blkOk_by (N := N_rows_at) (sc := (defScope s_rows_at)) (by decide +kernel)) (fun _ _ _ _ _ => (pg_name (i := 4) nd rfl (by first | exact Or.inl rfl | exact Or.inr rfl))) (fun _ _ _ _ _ => pts_nil) (fun _ _ _ _ _ => (pe_fn T.d_deciding_tellings (ok_deciding_tellings T) hr rfl (pa_cons (pv 0) (pa_cons (pe_mtK (K := K) rfl T.k_Trace T.h_tellings_at T.e_tellings_at (ok_tellings_at T (TbN K)) hr (pv 1) (pa_cons (pv 4) (pa_cons (pv 2) (pa_cons (pv 3) pa_nil)))) pa_nil))))))), ?_⟩
    rw [show L2.start N_rows_at [.str od.s, .ref t, .int (r : Int), .int (c : Int)] = [some (.str od.s), some (.ref t), some (.int (r : Int)), some (.int (c : Int)), none] from rfl]
    walk_at "g"
    refine tpT (T.t_KINDS _) ?_
    refine lc_map (n := 3) (G := fun H => SqT K H (He.ga K "KINDS") kvs3) (walk_tup (xs := kvs3)) (fun D i y H => ∃ a us, y = V.ref a ∧ a ≠ D ∧ H a = some (.lst us) ∧ Paired (DcAt H) us (dec od (Z.seen (kof i) r c))) (by decide) (fun D i y H H' acc hD g h => ?_) (fun D H _ _ => T.t_KINDS H) (fun D i x H2 H3 acc kk hD hi gr hacc y hk => ?_) fun D ys H2 hD gr hys hlen hall => ?_
    · obtain ⟨a, us, rfl, na, ha, hp⟩ := h
      exact ⟨a, us, rfl, na, g _ _ na ha, Paired.mapP hp fun _ _ z => z.stay (TupS.grow g fun xs z => by rw [hD] at z; cases z)⟩
    · obtain ⟨rfl, hix⟩ := y
      obtain ⟨_, rfl⟩ := kvs3_get hix
      have hin2 := hin.grow (gr.same hD)
      obtain ⟨o, ro, hx⟩ := hin2.x
      obtain ⟨dx, hob⟩ := hx.ob
      walk_at "n"
      refine ⟨trivial, mthI hob fsT_none ?_⟩
      walk_at "n"
      refine ⟨t, kof i, r, c, Z, n, m, H0, rfl, hin2, wf, hrn, hcm, fun H4 l4 us4 s4 n4 h4 p4 => ?_⟩
      walk_at "n"
      refine ⟨od, l4, us4, _, rfl, h4, p4, seen_len _ _ _ _, fun H5 l5 us5 s5 f5 h5 p5 => ?_⟩
      have n5 : H3 l5 = none := f5.elim (fun z => by rw [z]; exact n4) fun z => s4.free z
      refine hk _ H5 (s4.trans s5) ⟨l5, us5, rfl, fun z => ?_, h5, p5⟩
      rw [z, hacc] at n5
      cases n5
    · have get : ∀ i, i < 3 → ∃ a us, ys[i]? = some (V.ref a) ∧ H2 a = some (.lst us) ∧ Paired (DcAt H2) us (dec od (Z.seen (kof i) r c)) := fun i hi => by
        obtain ⟨a, us, e, _, ha, hp⟩ := hall i _ (List.getElem?_eq_getElem (by omega))
        exact ⟨a, us, by rw [← e]; exact List.getElem?_eq_getElem (by omega), ha, hp⟩
      obtain ⟨a0, u0, e0, b0, c0⟩ := get 0 (by decide)
      obtain ⟨a1, u1, e1, b1, c1⟩ := get 1 (by decide)
      obtain ⟨a2, u2, e2, b2, c2⟩ := get 2 (by decide)
      have ey : ys = [.ref a0, .ref a1, .ref a2] := by
        apply List.ext_getElem?
        intro j
        match j with
        | 0 => exact e0
        | 1 => exact e1
        | 2 => exact e2
        | j + 3 =>
          rw [List.getElem?_eq_none (by omega)]
          rfl
      refine k H2 D (gr.same hD) hD ⟨fun q => match q with | .ink => a0 | .ground => a1 | .face => a2, by rw [hys, ey], fun q => ?_⟩
      cases q
      · exact ⟨u0, b0, c0⟩
      · exact ⟨u1, b1, c1⟩
      · exact ⟨u2, b2, c2⟩
end

end Gr

namespace Gr
open PySem PySem.Spec PyProof.Rows L2
local macro_rules | `(tactic| walk_at "n") => `(tactic| try simp only [u_tVar, u_tC, u_tB, u_tTest, u_tAnd, u_tOr, u_tNot, u_tAndV, u_tOrV, u_tNotV, u_tIf, u_tNext, u_tSeq, u_tBreak, u_tCont, u_tDrop, u_tRet, u_tRetN, u_tIfS, u_tNever, u_gName, u_tAsg, u_tPar, u_gSub, u_tOp, u_tUn, u_tChain, u_tNil, u_tCons, u_tTup, u_tLst, u_tCB, u_tCall, u_tNoPart, u_tPart, u_tSl, u_tYes, u_iList', u_iTup', u_tLc, u_tDc, u_tFor, u_iRng1, u_iRng2, u_iEnum, u_iEnumT, u_iZip, u_iZip3, L2.wipe, u_sDPut', u_tDGet', u_tDNewK, u_tFld', u_sFld, u_gTup, u_gCons, u_gNil, u_tMeth, u_tCKw, u_tMake, u_tMethC, u_tNdefM, u_tCallL, u_tLstRg, v_rI0, v_rI, v_eqI, v_neI, v_eqS, v_neS, v_bl, v_int, v_ref, v_some, v_two, w_insert_tell, w_remove_tell, w_remove_insert, w_move_tell, w_move_insert, w_move_remove, w_copy_tell, w_copy_insert, w_copy_remove, w_copy_move, w_rows_table, w_columns_table, w_cells_table, w_rows_cells, w_columns_cells, w_columns_rows, w_cells_rows, w_cells_columns, w_rows_columns, w_table_cells, w_table_rows, w_table_columns, w_column_row, w_plain_like, w_like_plain, w_old_new, w_new_old, w_newest_nearest, w_nearest_newest, w_ink_ground, w_ink_face, w_ground_ink, w_ground_face, w_face_ink, w_face_ground, w_whole_lanes, w_whole_files, w_whole_spots, w_lanes_files, w_lanes_spots, w_files_spots, List.getElem?_cons_zero, List.getElem?_cons_succ, List.set_cons_zero, List.set_cons_succ, List.append_nil, Bool.not_true, Bool.not_false, eq_self, if_true, Bool.false_eq_true, if_false, decide_true, decide_false, v_max, v_min, v_intQ, v_isN, v_notN, reduceCtorEq, Nat.reduceAdd, Nat.zero_add, Int.cast_ofNat_Int, Int.reduceEq, Int.reduceLE, Int.reduceLT, Int.reduceAdd, List.cons_append, List.nil_append, List.map_cons, List.map_nil, Sc.vs, ov, De.vs, how, List.length_cons, List.length_nil])
local macro_rules | `(tactic| walk_at "x") => `(tactic| first | refine ixT (by assumption) rfl ?_ | refine ixL (by assumption) rfl ?_ | refine lenT (by assumption) rfl ?_ | refine lenL (by assumption) rfl ?_ | refine isi (.base (.int _)) kit_int_int ?_ | refine isi (.base (.int _)) kit_int_str ?_ | refine isi (.base (.int _)) kit_int_bool ?_ | refine isi (.base (.int _)) kit_int_tuple ?_ | refine isi (.base (.int _)) kit_int_list ?_ | refine isi (.base (.str _)) kit_str_int ?_ | refine isi (.base (.str _)) kit_str_str ?_ | refine isi (.base (.str _)) kit_str_bool ?_ | refine isi (.base (.str _)) kit_str_tuple ?_ | refine isi (.base (.str _)) kit_str_list ?_ | refine isi (.base (.bl _)) kit_bool_int ?_ | refine isi (.base (.bl _)) kit_bool_str ?_ | refine isi (.base (.bl _)) kit_bool_bool ?_ | refine isi (.base (.bl _)) kit_bool_tuple ?_ | refine isi (.base (.bl _)) kit_bool_list ?_ | refine isi (.base (.tup (by assumption))) kit_tuple_int ?_ | refine isi (.base (.tup (by assumption))) kit_tuple_str ?_ | refine isi (.base (.tup (by assumption))) kit_tuple_bool ?_ | refine isi (.base (.tup (by assumption))) kit_tuple_tuple ?_ | refine isi (.base (.tup (by assumption))) kit_tuple_list ?_ | refine isi (.base (.lst (by assumption))) kit_list_int ?_ | refine isi (.base (.lst (by assumption))) kit_list_str ?_ | refine isi (.base (.lst (by assumption))) kit_list_bool ?_ | refine isi (.base (.lst (by assumption))) kit_list_tuple ?_ | refine isi (.base (.lst (by assumption))) kit_list_list ?_ | refine isi (.base (.non)) kit_NoneType_int ?_ | refine isi (.base (.non)) kit_NoneType_str ?_ | refine isi (.base (.non)) kit_NoneType_bool ?_ | refine isi (.base (.non)) kit_NoneType_tuple ?_ | refine isi (.base (.non)) kit_NoneType_list ?_)
local macro_rules | `(tactic| walk_at "g") => `(tactic| (repeat (walk_at "n"; walk_at "x")); walk_at "n")

-- Gr6
/-! ### deciding tellings as data -/
def dcD : Dc → PyData
  | .cell r c => .tuple [.str "old", .tuple [.str "cells", .int (r : Int), .int (r : Int), .int (c : Int), .int (c : Int)]]
  | .lane n => .tuple [.str "old", .tuple [.str "rows", .int (n : Int), .int (n : Int)]]
  | .file n => .tuple [.str "old", .tuple [.str "columns", .int (n : Int), .int (n : Int)]]
  | .table => .tuple [.str "old", .tuple [.str "table"]]
  | .new v => .tuple [.str "new", .int (v : Int)]
theorem dcDp {K : PySem.W.Frag} {H : Hp} {v : V} {d : Dc} (h : DcAt H v d) : Dp K H v (dcD d) := by
  cases d with
  | cell r c =>
    obtain ⟨p, q, rfl, h1, h2⟩ := h
    exact .tup (SqT.of h1) (.cons (.str _) (.cons (.tup (SqT.of h2) (.cons (.str _) (.cons (.int _) (.cons (.int _) (.cons (.int _) (.cons (.int _) .nil)))))) .nil))
  | lane n =>
    obtain ⟨p, q, rfl, h1, h2⟩ := h
    exact .tup (SqT.of h1) (.cons (.str _) (.cons (.tup (SqT.of h2) (.cons (.str _) (.cons (.int _) (.cons (.int _) .nil)))) .nil))
  | file n =>
    obtain ⟨p, q, rfl, h1, h2⟩ := h
    exact .tup (SqT.of h1) (.cons (.str _) (.cons (.tup (SqT.of h2) (.cons (.str _) (.cons (.int _) (.cons (.int _) .nil)))) .nil))
  | table =>
    obtain ⟨p, q, rfl, h1, h2⟩ := h
    exact .tup (SqT.of h1) (.cons (.str _) (.cons (.tup (SqT.of h2) (.cons (.str _) .nil)) .nil))
  | new x =>
    obtain ⟨p, rfl, h1⟩ := h
    exact .tup (SqT.of h1) (.cons (.str _) (.cons (.int _) .nil))
theorem dcDpAll {K : PySem.W.Frag} {H : Hp} {vs : List V} {ds : List Dc} (h : Paired (DcAt H) vs ds) : DpAll K H vs (ds.map dcD) := by
  induction h with
  | nil => exact .nil
  | cons a b ih => exact .cons (dcDp a) ih
theorem dc_lay (d : Dc) : (dcD d).canLay0 = true := by
  have w1 : PyData.strOk (Str.ofString "old") = true := by decide +kernel
  have w2 : PyData.strOk (Str.ofString "new") = true := by decide +kernel
  have w3 : PyData.strOk (Str.ofString "cells") = true := by decide +kernel
  have w4 : PyData.strOk (Str.ofString "rows") = true := by decide +kernel
  have w5 : PyData.strOk (Str.ofString "columns") = true := by decide +kernel
  have w6 : PyData.strOk (Str.ofString "table") = true := by decide +kernel
  cases d <;> simp [dcD, PyData.canLay0, PyData.canLayAll0, w1, w2, w3, w4, w5, w6]
theorem dc_depth (d : Dc) : (dcD d).depth ≤ 4 := by
  cases d <;> simp [dcD, PyData.depth, PyData.depthAll]
theorem lay_all {ds : List PyData} (h : ∀ d ∈ ds, ∃ c, d = dcD c) : PyData.canLayAll0 ds = true ∧ PyData.depthAll ds ≤ 4 := by
  induction ds with
  | nil => exact ⟨by simp [PyData.canLayAll0], by simp [PyData.depthAll]⟩
  | cons d ds ih =>
    obtain ⟨c, rfl⟩ := h d List.mem_cons_self
    obtain ⟨h1, h2⟩ := ih fun e he => h e (List.mem_cons_of_mem _ he)
    have h3 := dc_depth c
    refine ⟨by simp [PyData.canLayAll0, dc_lay, h1], ?_⟩
    simp only [PyData.depthAll]
    omega
theorem list_shaped {ds : List PyData} (h : ∀ d ∈ ds, ∃ c, d = dcD c) : SeqAt.shaped (.list ds) = true := by
  obtain ⟨h1, h2⟩ := lay_all h
  have e1 : PyData.canLay0 (.list ds) = true := by simp [PyData.canLay0, h1]
  have e2 : PyData.depth (.list ds) ≤ 64 := by
    simp only [PyData.depth]
    omega
  unfold SeqAt.shaped
  rw [e1, decide_eq_true e2]
  rfl
theorem dc_shaped (c : Dc) : SeqAt.shaped (dcD c) = true := by
  have e2 := dc_depth c
  unfold SeqAt.shaped
  rw [dc_lay, decide_eq_true (by omega)]
  rfl
theorem mapD {ds : List Dc} : ∀ d ∈ ds.map dcD, ∃ c, d = dcD c := fun d hd => by
  obtain ⟨c, _, e⟩ := List.mem_map.mp hd
  exact ⟨c, e.symm⟩
theorem eqv_dc (a b : Dc) : PyData.eqv (dcD a) (dcD b) = decide (a = b) := by
  have w1 : (Str.ofString "old" == Str.ofString "new") = false := by decide +kernel
  have w2 : (Str.ofString "new" == Str.ofString "old") = false := by decide +kernel
  have w3 : (Str.ofString "cells" == Str.ofString "rows") = false := by decide +kernel
  have w4 : (Str.ofString "cells" == Str.ofString "columns") = false := by decide +kernel
  have w5 : (Str.ofString "cells" == Str.ofString "table") = false := by decide +kernel
  have w6 : (Str.ofString "rows" == Str.ofString "cells") = false := by decide +kernel
  have w7 : (Str.ofString "rows" == Str.ofString "columns") = false := by decide +kernel
  have w8 : (Str.ofString "rows" == Str.ofString "table") = false := by decide +kernel
  have w9 : (Str.ofString "columns" == Str.ofString "cells") = false := by decide +kernel
  have wa : (Str.ofString "columns" == Str.ofString "rows") = false := by decide +kernel
  have wb : (Str.ofString "columns" == Str.ofString "table") = false := by decide +kernel
  have wc : (Str.ofString "table" == Str.ofString "cells") = false := by decide +kernel
  have wd : (Str.ofString "table" == Str.ofString "rows") = false := by decide +kernel
  have we : (Str.ofString "table" == Str.ofString "columns") = false := by decide +kernel
  rw [Bool.eq_iff_iff]
  cases a <;> cases b <;> simp [dcD, PyData.eqv, PyData.eqvAll, w1, w2, w3, w4, w5, w6, w7, w8, w9, wa, wb, wc, wd, we] <;> omega
theorem eqv_all {as bs : List Dc} : PyData.eqvAll (as.map dcD) (bs.map dcD) = decide (as = bs) := by
  induction as generalizing bs with
  | nil => cases bs <;> simp [PyData.eqvAll]
  | cons a as ih =>
    cases bs with
    | nil => simp [PyData.eqvAll]
    | cons b bs => simp [PyData.eqvAll, ih, eqv_dc]
theorem eqv_self {ds : List PyData} (h : ∀ d ∈ ds, ∃ c, d = dcD c) : PyData.eqvAll ds ds = true := by
  induction ds with
  | nil => simp [PyData.eqvAll]
  | cons d ds ih =>
    obtain ⟨c, rfl⟩ := h d List.mem_cons_self
    simp [PyData.eqvAll, eqv_dc, ih fun e he => h e (List.mem_cons_of_mem _ he)]
/-- sorted deciding tellings -/
def sortD (ds : List Dc) : List PyData := (ds.map dcD).mergeSort (PySem.W.dataLe false id)
theorem ru74 {k : Nat} {A : Around} (r : Room k A) : A.units + 10 < cLine := by have := r.un; omega
/-- what sorting asks for -/
def SortOk (ds : List Dc) : Prop := PySem.W.AllAlike (ds.map dcD) ∧ PySem.W.Sortable (ds.map dcD)
theorem sortD_in {ds : List Dc} : ∀ d ∈ sortD ds, ∃ c, d = dcD c := fun d hd => mapD d ((List.mergeSort_perm _ _).mem_iff.mp hd)
theorem dp_of {H : Hp} {K : PySem.W.Frag} {ps : List (V × PyData)} (h : ∀ p ∈ ps, Dp K H p.1 p.2) : DpAll K H (ps.map Prod.fst) (ps.map Prod.snd) := by
  induction ps with
  | nil => exact .nil
  | cons p ps ih => exact .cons (h p List.mem_cons_self) (ih fun q hq => h q (List.mem_cons_of_mem _ hq))
theorem zip_dp {H : Hp} {us : List V} {xs : List Dc} (hp : Paired (DcAt H) us xs) : ∀ p ∈ us.zip (xs.map dcD), ∃ v c, p = (v, dcD c) ∧ DcAt H v c := by
  induction hp with
  | nil => intro p h; cases h
  | cons a b ih =>
    intro p h
    rcases List.mem_cons.mp (show p ∈ (_, _) :: _ from h) with e | e
    · exact ⟨_, _, e, a⟩
    · exact ih p e
theorem sort_go {K : PySem.W.Frag} {H : Hp} {Q : VK} {a : Addr} {us : List V} {xs : List Dc} (ha : H a = some (.lst us)) (hp : Paired (DcAt H) us xs) (hs : SortOk xs) (q : ∀ (l : Addr) (ps : List (V × PyData)), H l = none → (∀ p ∈ ps, ∃ v c, p = (v, dcD c) ∧ DcAt H v c) → ps.map Prod.snd = sortD xs → Q (.ref l) (upd H l (.lst (ps.map Prod.fst)))) : rSortD K [.ref a] H Q := by
  have hl := hp.length
  have z := zip_dp hp
  have e1 : (us.zip (xs.map dcD)).map Prod.fst = us := List.map_fst_zip (by rw [List.length_map]; omega)
  have e2 : (us.zip (xs.map dcD)).map Prod.snd = xs.map dcD := List.map_snd_zip (by rw [List.length_map]; omega)
  refine ⟨a, us.zip (xs.map dcD), rfl, by rw [e1]; exact SqL.of ha, fun p hp => ?_, by rw [e2]; exact hs.1, by rw [e2]; exact hs.2, fun p hp => ?_, fun l hl => q l _ hl (fun p hp => z p ((List.mergeSort_perm _ _).mem_iff.mp hp)) ?_⟩
  · obtain ⟨v, c, rfl, h⟩ := z p hp
    exact dcDp h
  · obtain ⟨v, c, rfl, h⟩ := z p hp
    have := dc_depth c
    show (dcD c).depth ≤ 8
    omega
  · unfold sortD
    exact (List.map_mergeSort (r := PySem.W.dataLe false Prod.snd) (s := PySem.W.dataLe false id) (f := Prod.snd) (fun _ _ _ _ => rfl)).trans (by rw [e2])
/-- two rows of tellings are told apart -/
def unl (od : Od) (as bs : List Dc) : Bool := match od with
  | .nearest => !decide (as = bs)
  | .newest => !PyData.eqv (.list (sortD as)) (.list (sortD bs))
theorem unl_self (od : Od) (as : List Dc) : unl od as as = false := by
  cases od with
  | nearest => simp [unl]
  | newest => simp [unl, PyData.eqv, eqv_self sortD_in]
section
variable {P : Program} {w : World} {K : PySem.W.Frag} {mg : Str → Option Value} {fds : Str → FuncData} {base : Heap}
abbrev s_is_unlike : Stmt := top 26
abbrev N_is_unlike : List Str := ["order", "one", "other"]
theorem sc_is_unlike : FnScope N_is_unlike ["order", "one", "other"] (defScope s_is_unlike) := ⟨rfl, rfl, rfl, by decide +kernel, rfl, by decide +kernel, by decide +kernel⟩
def spUnlike : Sp := fun vs H Q _ => ∃ (od : Od) (a b : Addr) (us ws : List V) (xs ys : List Dc), vs = [.str od.s, .ref a, .ref b] ∧ H a = some (.lst us) ∧ Paired (DcAt H) us xs ∧ H b = some (.lst ws) ∧ Paired (DcAt H) ws ys ∧ (od = .newest → SortOk xs ∧ SortOk ys) ∧ ∀ H', Same H H' → Q (.bl (unl od xs ys)) H'
theorem ok_is_unlike (T : Txt K mg fds) : FnOk P w K mg base CX0 1 (He.ga K "is_unlike") (fds "is_unlike") ["order", "one", "other"] spUnlike := by
  refine T.d_is_unlike.fn.ok sc_is_unlike (fun vs H Q E h => ?_) (fun cdv A outer s H vs Q E hr h => ?_)
  · obtain ⟨od, a, b, us, ws, xs, ys, rfl, _⟩ := h; rfl
  · obtain ⟨od, a, b, us, ws, xs, ys, rfl, ha, hpa, hb, hpb, hs, k⟩ := h
    refine ⟨_, PSs.nox (pss_cons (ps_if (pt_cmpR op_eq (pv 0) pe_str (nomark _))
        (pss_one (ps_ret (pe_cmpR (op_neD (ru64 hr)) (pv 1) (pv 2) (nomark _))))
        pss_nil)
      (pss_one (ps_ret (pe_cmpR (op_neD (ru64 hr)) (pe_callB (cr_sortD (ru74 hr)) (by rfl) T.g_sorted (by decide +kernel) (pa_cons (pv 1) pa_nil)) (pe_callB (cr_sortD (ru74 hr)) (by rfl) T.g_sorted (by decide +kernel) (pa_cons (pv 2) pa_nil)) (nomark _))))), ?_⟩
    rw [show L2.start N_is_unlike [.str od.s, .ref a, .ref b] = [some (.str od.s), some (.ref a), some (.ref b)] from rfl]
    cases od with
    | nearest =>
      walk_at "n"
      rw [show decide (Od.nearest.s = Str.ofString "nearest") = true by decide +kernel]
      walk_at "n"
      refine ⟨.list (xs.map dcD), .list (ys.map dcD), .lst (SqL.of ha) (dcDpAll hpa), .lst (SqL.of hb) (dcDpAll hpb), list_shaped mapD, list_shaped mapD, ?_⟩
      have e := k H (Same.refl H)
      rw [show unl Od.nearest xs ys = !PyData.eqv (.list (xs.map dcD)) (.list (ys.map dcD)) by simp [unl, PyData.eqv, eqv_all]] at e
      exact e
    | newest =>
      walk_at "n"
      rw [show decide (Od.newest.s = Str.ofString "nearest") = false by decide +kernel]
      walk_at "n"
      obtain ⟨hs1, hs2⟩ := hs rfl
      refine sort_go ha hpa hs1 fun l ps hl hps e1 => ?_
      have s1 := Same.upd (.lst (ps.map Prod.fst)) hl
      refine sort_go (s1 _ _ hb) (Paired.mapP hpb fun _ _ z => z.stay (TupS.of s1)) hs2 fun l2 qs hl2 hqs e2 => ?_
      have s2 := Same.upd (.lst (qs.map Prod.fst)) hl2
      refine ⟨.list (sortD xs), .list (sortD ys), .lst (SqL.of (s2 _ _ upd_same)) ?_, .lst (SqL.of upd_same) ?_, list_shaped sortD_in, list_shaped sortD_in, k _ (s1.trans s2)⟩
      · rw [← e1]
        refine dp_of fun p hp => ?_
        obtain ⟨v, c, rfl, h⟩ := hps p hp
        exact dcDp ((h.stay (TupS.of s1)).stay (TupS.of s2))
      · rw [← e2]
        refine dp_of fun p hp => ?_
        obtain ⟨v, c, rfl, h⟩ := hqs p hp
        exact dcDp (h.stay (TupS.of s2))
end

end Gr

namespace Gr
open PySem PySem.Spec PyProof.Rows L2
local macro_rules | `(tactic| walk_at "n") => `(tactic| try simp only [u_tVar, u_tC, u_tB, u_tTest, u_tAnd, u_tOr, u_tNot, u_tAndV, u_tOrV, u_tNotV, u_tIf, u_tNext, u_tSeq, u_tBreak, u_tCont, u_tDrop, u_tRet, u_tRetN, u_tIfS, u_tNever, u_gName, u_tAsg, u_tPar, u_gSub, u_tOp, u_tUn, u_tChain, u_tNil, u_tCons, u_tTup, u_tLst, u_tCB, u_tCall, u_tNoPart, u_tPart, u_tSl, u_tYes, u_iList', u_iTup', u_tLc, u_tDc, u_tFor, u_iRng1, u_iRng2, u_iEnum, u_iEnumT, u_iZip, u_iZip3, L2.wipe, u_sDPut', u_tDGet', u_tDNewK, u_tFld', u_sFld, u_gTup, u_gCons, u_gNil, u_tMeth, u_tCKw, u_tMake, u_tMethC, u_tNdefM, u_tCallL, u_tLstRg, v_rI0, v_rI, v_eqI, v_neI, v_eqS, v_neS, v_bl, v_int, v_ref, v_some, v_two, w_insert_tell, w_remove_tell, w_remove_insert, w_move_tell, w_move_insert, w_move_remove, w_copy_tell, w_copy_insert, w_copy_remove, w_copy_move, w_rows_table, w_columns_table, w_cells_table, w_rows_cells, w_columns_cells, w_columns_rows, w_cells_rows, w_cells_columns, w_rows_columns, w_table_cells, w_table_rows, w_table_columns, w_column_row, w_plain_like, w_like_plain, w_old_new, w_new_old, w_newest_nearest, w_nearest_newest, w_ink_ground, w_ink_face, w_ground_ink, w_ground_face, w_face_ink, w_face_ground, w_whole_lanes, w_whole_files, w_whole_spots, w_lanes_files, w_lanes_spots, w_files_spots, List.getElem?_cons_zero, List.getElem?_cons_succ, List.set_cons_zero, List.set_cons_succ, List.append_nil, Bool.not_true, Bool.not_false, eq_self, if_true, Bool.false_eq_true, if_false, decide_true, decide_false, v_max, v_min, v_intQ, v_isN, v_notN, reduceCtorEq, Nat.reduceAdd, Nat.zero_add, Int.cast_ofNat_Int, Int.reduceEq, Int.reduceLE, Int.reduceLT, Int.reduceAdd, List.cons_append, List.nil_append, List.map_cons, List.map_nil, Sc.vs, ov, De.vs, how, List.length_cons, List.length_nil])
local macro_rules | `(tactic| walk_at "x") => `(tactic| first | refine ixT (by assumption) rfl ?_ | refine ixL (by assumption) rfl ?_ | refine lenT (by assumption) rfl ?_ | refine lenL (by assumption) rfl ?_ | refine isi (.base (.int _)) kit_int_int ?_ | refine isi (.base (.int _)) kit_int_str ?_ | refine isi (.base (.int _)) kit_int_bool ?_ | refine isi (.base (.int _)) kit_int_tuple ?_ | refine isi (.base (.int _)) kit_int_list ?_ | refine isi (.base (.str _)) kit_str_int ?_ | refine isi (.base (.str _)) kit_str_str ?_ | refine isi (.base (.str _)) kit_str_bool ?_ | refine isi (.base (.str _)) kit_str_tuple ?_ | refine isi (.base (.str _)) kit_str_list ?_ | refine isi (.base (.bl _)) kit_bool_int ?_ | refine isi (.base (.bl _)) kit_bool_str ?_ | refine isi (.base (.bl _)) kit_bool_bool ?_ | refine isi (.base (.bl _)) kit_bool_tuple ?_ | refine isi (.base (.bl _)) kit_bool_list ?_ | refine isi (.base (.tup (by assumption))) kit_tuple_int ?_ | refine isi (.base (.tup (by assumption))) kit_tuple_str ?_ | refine isi (.base (.tup (by assumption))) kit_tuple_bool ?_ | refine isi (.base (.tup (by assumption))) kit_tuple_tuple ?_ | refine isi (.base (.tup (by assumption))) kit_tuple_list ?_ | refine isi (.base (.lst (by assumption))) kit_list_int ?_ | refine isi (.base (.lst (by assumption))) kit_list_str ?_ | refine isi (.base (.lst (by assumption))) kit_list_bool ?_ | refine isi (.base (.lst (by assumption))) kit_list_tuple ?_ | refine isi (.base (.lst (by assumption))) kit_list_list ?_ | refine isi (.base (.non)) kit_NoneType_int ?_ | refine isi (.base (.non)) kit_NoneType_str ?_ | refine isi (.base (.non)) kit_NoneType_bool ?_ | refine isi (.base (.non)) kit_NoneType_tuple ?_ | refine isi (.base (.non)) kit_NoneType_list ?_)
local macro_rules | `(tactic| walk_at "g") => `(tactic| (repeat (walk_at "n"; walk_at "x")); walk_at "n")

-- Gr6
/-! ### first_unlike -/
/-- None or a deciding telling -/
def OtAt (H : Hp) (v : V) : Prop := v = .non ∨ ∃ c, DcAt H v c
theorem OtAt.stay {H H' : Hp} {v : V} (h : OtAt H v) (e : TupS H H') : OtAt H' v := h.imp id fun ⟨c, h⟩ => ⟨c, h.stay e⟩
theorem take1 {H : Hp} {vs : List V} (h : ∀ v ∈ vs, OtAt H v) : ∃ x, (vs ++ [V.non]).take 1 = [x] ∧ OtAt H x := by
  cases vs with
  | nil => exact ⟨.non, rfl, .inl rfl⟩
  | cons v vs => exact ⟨v, rfl, h v List.mem_cons_self⟩
section
variable {P : Program} {w : World} {K : PySem.W.Frag} {mg : Str → Option Value} {fds : Str → FuncData} {base : Heap}
abbrev s_first_unlike : Stmt := top 27
abbrev N_first_unlike : List Str := ["one", "other", "first", "second", "size"]
theorem sc_first_unlike : FnScope N_first_unlike ["one", "other"] (defScope s_first_unlike) := ⟨rfl, rfl, rfl, by decide +kernel, rfl, by decide +kernel, by decide +kernel⟩
def spFirst : Sp := fun vs H Q _ => ∃ (a b : Addr) (us ws : List V) (xs ys : List Dc), vs = [.ref a, .ref b] ∧ H a = some (.lst us) ∧ Paired (DcAt H) us xs ∧ H b = some (.lst ws) ∧ Paired (DcAt H) ws ys ∧ us.length ≤ 10 ∧ ws.length ≤ 10 ∧ ∀ H' l x y, Same H H' → H' l = some (.lst [x, y]) → OtAt H' x → OtAt H' y → Q (.ref l) H'
theorem ok_first_unlike (T : Txt K mg fds) : FnOk P w K mg base CX0 1 (He.ga K "first_unlike") (fds "first_unlike") ["one", "other"] spFirst := by
  refine T.d_first_unlike.fn.ok sc_first_unlike (fun vs H Q E h => ?_) (fun cdv A outer s H vs Q E hr h => ?_)
  · obtain ⟨a, b, us, ws, xs, ys, rfl, _⟩ := h; rfl
  · obtain ⟨a, b, us, ws, xs, ys, rfl, ha, hpa, hb, hpb, hl1, hl2, k⟩ := h
    have nd := sc_first_unlike.nd
    refine ⟨_, PSs.nox (pss_cons (ps_for PassesOwn.never rfl (pi_zip (by rfl) T.g_zip (pa_cons (pv 0) (pa_cons (pv 1) pa_nil))) (pg_tup rfl (pgs_cons (pg_name (i := 2) nd rfl (by first | exact Or.inl rfl | exact Or.inr rfl)) (pgs_cons (pg_name (i := 3) nd rfl (by first | exact Or.inl rfl | exact Or.inr rfl)) pgs_nil)))
        (pss_one (ps_if (pt_cmpR (op_neD (ru64 hr)) (pv 2) (pv 3) (nomark _))
          (pss_one (ps_ret (pe_lst (pa_cons (pv 2) (pa_cons (pv 3) pa_nil)))))
          pss_nil)))
      (pss_cons (ps_set (i := 4) nd rfl (by first | exact Or.inl rfl | exact Or.inr rfl) (pe_callB (call_minQ rfl) (by rfl) T.g_min (by decide +kernel) (pa_cons (pe_callB call_lenQ (by rfl) T.g_len (by decide +kernel) (pa_cons (pv 0) pa_nil)) (pa_cons (pe_callB call_lenQ (by rfl) T.g_len (by decide +kernel) (pa_cons (pv 1) pa_nil)) pa_nil))))
      (pss_one (ps_ret (pe_op op_cat (pe_slice sl_list (pe_op op_cat (pe_slice sl_list (pv 0) (po_some (pv 4)) po_none) (pe_lst (pa_cons pe_non pa_nil))) po_none (po_some pe_int)) (pe_slice sl_list (pe_op op_cat (pe_slice sl_list (pv 1) (po_some (pv 4)) po_none) (pe_lst (pa_cons pe_non pa_nil))) po_none (po_some pe_int))))))), ?_⟩
    rw [show L2.start N_first_unlike [.ref a, .ref b] = [some (.ref a), some (.ref b), none, none, none] from rfl]
    walk_at "g"
    refine zpL ha hb ?_
    refine forW (walk_zip (K := K) (xs := us) (ys := ws) rfl) (fun i σ HH => ∃ (k2 k3 : Option V), σ = [some (.ref a), some (.ref b), k2, k3, none] ∧ Same H HH) ⟨none, none, rfl, Same.refl H⟩ (fun i σ HH _ h => by
      obtain ⟨_, _, _, s⟩ := h
      exact ⟨SqL.of (s _ _ ha), SqL.of (s _ _ hb)⟩) ?_ ?_
    · rintro i v σ H4 H5 hi ⟨k2, k3, rfl, s4⟩ ⟨T1, x1, y1, rfl, hT, rfl, e1, e2⟩
      obtain ⟨c1, _, hc1⟩ := paired_get hpa (show us[i]? = some x1 from e1)
      obtain ⟨c2, _, hc2⟩ := paired_get hpb (show ws[i]? = some y1 from e2)
      have s5 := s4.trans (Same.upd (.tup [x1, y1]) hT)
      have hc1 := hc1.stay (TupS.of s5)
      have hc2 := hc2.stay (TupS.of s5)
      walk_at "n"
      refine tupG upd_same rfl ?_
      walk_at "n"
      refine ⟨dcD c1, dcD c2, dcDp hc1, dcDp hc2, dc_shaped c1, dc_shaped c2, ?_⟩
      cases PyData.eqv (dcD c1) (dcD c2) with
      | true =>
        walk_at "n"
        exact ⟨_, _, rfl, s5⟩
      | false =>
        walk_at "n"
        refine ⟨by decide, fun l hl => ?_⟩
        have s6 := Same.upd (.lst [x1, y1]) hl
        exact k _ l x1 y1 (s5.trans s6) upd_same (.inr ⟨c1, hc1.stay (TupS.of s6)⟩) (.inr ⟨c2, hc2.stay (TupS.of s6)⟩)
    · rintro σ HH ⟨k2, k3, rfl, s4⟩
      have ha4 := s4 _ _ ha
      have hb4 := s4 _ _ hb
      have oa : ∀ v ∈ us, OtAt HH v := fun v hv => by
        obtain ⟨j, hj⟩ := List.mem_iff_getElem?.mp hv
        obtain ⟨c, _, hc⟩ := paired_get hpa hj
        exact .inr ⟨c, hc.stay (TupS.of s4)⟩
      have ob : ∀ v ∈ ws, OtAt HH v := fun v hv => by
        obtain ⟨j, hj⟩ := List.mem_iff_getElem?.mp hv
        obtain ⟨c, _, hc⟩ := paired_get hpb hj
        exact .inr ⟨c, hc.stay (TupS.of s4)⟩
      walk_at "n"
      refine lenL ha4 rfl ?_
      refine lenL hb4 rfl ?_
      walk_at "n"
      rw [show (if (us.length : Int) > (ws.length : Int) then (ws.length : Int) else (us.length : Int)) = ((min us.length ws.length : Nat) : Int) by split <;> omega]
      generalize min us.length ws.length = z
      obtain ⟨x1, hx1, ho1⟩ := take1 (vs := us.drop z) (H := HH) fun v hv => oa v (List.mem_of_mem_drop hv)
      obtain ⟨x2, hx2, ho2⟩ := take1 (vs := ws.drop z) (H := HH) fun v hv => ob v (List.mem_of_mem_drop hv)
      refine slL ha4 fun p1 hp1 => ?_
      rw [cutV_from]
      have t1 := Same.upd (.lst (us.drop z)) hp1
      walk_at "n"
      refine ⟨by decide, fun p2 hp2 => ?_⟩
      have t2 := Same.upd (.lst [V.non]) hp2
      refine catL (t2 _ _ upd_same) upd_same (by rw [List.length_drop, List.length_singleton]; omega) fun p3 hp3 => ?_
      have t3 := Same.upd (.lst (us.drop z ++ [V.non])) hp3
      rw [show (some (1 : Int)) = some ((1 : Nat) : Int) from rfl]
      refine slL upd_same fun p4 hp4 => ?_
      rw [cutV_to, hx1]
      have t4 := Same.upd (.lst [x1]) hp4
      have t14 := ((t1.trans t2).trans t3).trans t4
      have g4 : upd (upd (upd (upd HH p1 (.lst (us.drop z))) p2 (.lst [V.non])) p3 (.lst (us.drop z ++ [V.non]))) p4 (.lst [x1]) p4 = some (.lst [x1]) := upd_same
      generalize upd (upd (upd (upd HH p1 (.lst (us.drop z))) p2 (.lst [V.non])) p3 (.lst (us.drop z ++ [V.non]))) p4 (.lst [x1]) = H7 at t14 g4 ⊢
      refine slL (t14 _ _ hb4) fun q1 hq1 => ?_
      rw [cutV_from]
      have u1 := Same.upd (.lst (ws.drop z)) hq1
      walk_at "n"
      refine ⟨by decide, fun q2 hq2 => ?_⟩
      have u2 := Same.upd (.lst [V.non]) hq2
      refine catL (u2 _ _ upd_same) upd_same (by rw [List.length_drop, List.length_singleton]; omega) fun q3 hq3 => ?_
      have u3 := Same.upd (.lst (ws.drop z ++ [V.non])) hq3
      refine slL upd_same fun q4 hq4 => ?_
      rw [show cutV (List.drop z ws ++ [V.non]) none (some 1) = (List.drop z ws ++ [V.non]).take 1 from cutV_to _ 1, hx2]
      have u4 := Same.upd (.lst [x2]) hq4
      refine catL (u4 _ _ (u3 _ _ (u2 _ _ (u1 _ _ g4)))) upd_same (by show 1 + 1 ≤ 100000; decide) fun r hr' => ?_
      have u5 := Same.upd (.lst ([x1] ++ [x2])) hr'
      have fin := (((t14.trans u1).trans u2).trans u3).trans (u4.trans u5)
      exact k _ r x1 x2 (s4.trans fin) upd_same (ho1.stay (TupS.of fin)) (ho2.stay (TupS.of fin))
end

end Gr

namespace Gr
open PySem PySem.Spec PyProof.Rows L2
local macro_rules | `(tactic| walk_at "n") => `(tactic| try simp only [u_tVar, u_tC, u_tB, u_tTest, u_tAnd, u_tOr, u_tNot, u_tAndV, u_tOrV, u_tNotV, u_tIf, u_tNext, u_tSeq, u_tBreak, u_tCont, u_tDrop, u_tRet, u_tRetN, u_tIfS, u_tNever, u_gName, u_tAsg, u_tPar, u_gSub, u_tOp, u_tUn, u_tChain, u_tNil, u_tCons, u_tTup, u_tLst, u_tCB, u_tCall, u_tNoPart, u_tPart, u_tSl, u_tYes, u_iList', u_iTup', u_tLc, u_tDc, u_tFor, u_iRng1, u_iRng2, u_iEnum, u_iEnumT, u_iZip, u_iZip3, L2.wipe, u_sDPut', u_tDGet', u_tDNewK, u_tFld', u_sFld, u_gTup, u_gCons, u_gNil, u_tMeth, u_tCKw, u_tMake, u_tMethC, u_tNdefM, u_tCallL, u_tLstRg, v_rI0, v_rI, v_eqI, v_neI, v_eqS, v_neS, v_bl, v_int, v_ref, v_some, v_two, w_insert_tell, w_remove_tell, w_remove_insert, w_move_tell, w_move_insert, w_move_remove, w_copy_tell, w_copy_insert, w_copy_remove, w_copy_move, w_rows_table, w_columns_table, w_cells_table, w_rows_cells, w_columns_cells, w_columns_rows, w_cells_rows, w_cells_columns, w_rows_columns, w_table_cells, w_table_rows, w_table_columns, w_column_row, w_plain_like, w_like_plain, w_old_new, w_new_old, w_newest_nearest, w_nearest_newest, w_ink_ground, w_ink_face, w_ground_ink, w_ground_face, w_face_ink, w_face_ground, w_whole_lanes, w_whole_files, w_whole_spots, w_lanes_files, w_lanes_spots, w_files_spots, List.getElem?_cons_zero, List.getElem?_cons_succ, List.set_cons_zero, List.set_cons_succ, List.append_nil, Bool.not_true, Bool.not_false, eq_self, if_true, Bool.false_eq_true, if_false, decide_true, decide_false, v_max, v_min, v_intQ, v_isN, v_notN, reduceCtorEq, Nat.reduceAdd, Nat.zero_add, Int.cast_ofNat_Int, Int.reduceEq, Int.reduceLE, Int.reduceLT, Int.reduceAdd, List.cons_append, List.nil_append, List.map_cons, List.map_nil, Sc.vs, ov, De.vs, how, List.length_cons, List.length_nil])
local macro_rules | `(tactic| walk_at "x") => `(tactic| first | refine ixT (by assumption) rfl ?_ | refine ixL (by assumption) rfl ?_ | refine lenT (by assumption) rfl ?_ | refine lenL (by assumption) rfl ?_ | refine isi (.base (.int _)) kit_int_int ?_ | refine isi (.base (.int _)) kit_int_str ?_ | refine isi (.base (.int _)) kit_int_bool ?_ | refine isi (.base (.int _)) kit_int_tuple ?_ | refine isi (.base (.int _)) kit_int_list ?_ | refine isi (.base (.str _)) kit_str_int ?_ | refine isi (.base (.str _)) kit_str_str ?_ | refine isi (.base (.str _)) kit_str_bool ?_ | refine isi (.base (.str _)) kit_str_tuple ?_ | refine isi (.base (.str _)) kit_str_list ?_ | refine isi (.base (.bl _)) kit_bool_int ?_ | refine isi (.base (.bl _)) kit_bool_str ?_ | refine isi (.base (.bl _)) kit_bool_bool ?_ | refine isi (.base (.bl _)) kit_bool_tuple ?_ | refine isi (.base (.bl _)) kit_bool_list ?_ | refine isi (.base (.tup (by assumption))) kit_tuple_int ?_ | refine isi (.base (.tup (by assumption))) kit_tuple_str ?_ | refine isi (.base (.tup (by assumption))) kit_tuple_bool ?_ | refine isi (.base (.tup (by assumption))) kit_tuple_tuple ?_ | refine isi (.base (.tup (by assumption))) kit_tuple_list ?_ | refine isi (.base (.lst (by assumption))) kit_list_int ?_ | refine isi (.base (.lst (by assumption))) kit_list_str ?_ | refine isi (.base (.lst (by assumption))) kit_list_bool ?_ | refine isi (.base (.lst (by assumption))) kit_list_tuple ?_ | refine isi (.base (.lst (by assumption))) kit_list_list ?_ | refine isi (.base (.non)) kit_NoneType_int ?_ | refine isi (.base (.non)) kit_NoneType_str ?_ | refine isi (.base (.non)) kit_NoneType_bool ?_ | refine isi (.base (.non)) kit_NoneType_tuple ?_ | refine isi (.base (.non)) kit_NoneType_list ?_)
local macro_rules | `(tactic| walk_at "g") => `(tactic| (repeat (walk_at "n"; walk_at "x")); walk_at "n")

-- Gr6
/-! ### tells_for -/
section
variable {K : PySem.W.Frag} {H1 : Hp} {g : TG} {tt : TT} {te : TE} {σ : L2.St} {Q : VK} {vs : List Nat} {a : Addr} {us : List V}
theorem filt_lc {cs : List Dc} (p : Dc → Bool) (ha : H1 a = some (.lst us)) (hp : Paired (DcAt H1) us cs) (hl : us.length ≤ 100)
    (step : ∀ v c H (k : VK) (kn : Hp → Prop), DcAt H v c → Same H1 H → (p c = true → k v H) → (p c = false → kn H) → g v (wipe σ vs) H fun σ2 H2 => wipe σ2 vs = wipe σ vs ∧ tt σ2 H2 fun b H3 => if b = true then te σ2 H3 k else kn H3)
    (fin : ∀ D ys H, H1 D = none → Same H1 H → H D = some (.lst ys) → Paired (DcAt H) ys (cs.filter p) → Q (.ref D) H) : LcT (Itl K a) g tt te vs σ H1 Q := by
  refine lc_inv (walk_list (xs := us)) (fun D i acc H => Paired (DcAt H) acc ((cs.take i).filter p)) (by omega) (fun D i acc H h => ?_) (fun D hD => ?_) (fun D H hD g => SqL.of (g.same hD _ _ ha)) ?_ ?_
  · rw [h.length]
    refine Nat.le_trans (List.length_filter_le _ _) ?_
    rw [List.length_take]
    omega
  · rw [List.take_zero]
    exact .nil
  · rintro D i x H2 H3 acc k1 k2 hD hi gr hacc hI ⟨rfl, hxi⟩ hk1 hk2
    obtain ⟨c, hc, hca⟩ := paired_get hp hxi
    have s := gr.same hD
    rw [List.take_add_one, hc, List.filter_append] at hk1 hk2
    have ts : ∀ l : List V, TupS H3 (upd H3 D (.lst l)) := fun l => TupS.upd fun ys z => by rw [hacc] at z; cases z
    refine step x c H3 k1 k2 (hca.stay (TupS.of s)) s (fun e => hk1 _ _ (Same.refl _) ?_) fun e => hk2 _ (Same.refl _) ?_
    · simp [e]
      exact paired_app (Paired.mapP hI fun _ _ z => z.stay (ts _)) (.cons ((hca.stay (TupS.of s)).stay (ts _)) .nil)
    · simp [e]
      exact hI
  · intro D ys H hD gr hys hI
    rw [hp.length, List.take_length] at hI
    exact fin D ys H hD (gr.same hD) hys hI
theorem any_lc {J : It} {n : Nat} {G : Hp → Prop} {Y : Nat → Hp → V → Hp → Prop} (w : Walk J n G Y) (R : Hp → V → Prop) (st : ∀ H H' v, TupS H H' → R H v → R H' v) (hn : n ≤ 100) (hG : ∀ H, Same H1 H → G H)
    (step : ∀ i x H H' (k : VK) (kn : Hp → Prop), i < n → Same H1 H → Y i H x H' → (∀ y H3, Same H H3 → R H3 y → k y H3) → (∀ H3, Same H H3 → kn H3) → g x (wipe σ vs) H' fun σ2 H2 => wipe σ2 vs = wipe σ vs ∧ tt σ2 H2 fun b H3 => if b = true then te σ2 H3 k else kn H3)
    (fin : ∀ D ys H, H1 D = none → Same H1 H → H D = some (.lst ys) → ys.length ≤ n → (∀ y ∈ ys, R H y) → Q (.ref D) H) : LcT J g tt te vs σ H1 Q := by
  refine lc_inv w (fun D i acc H => acc.length ≤ i ∧ ∀ y ∈ acc, R H y) (by omega) (fun D i acc H h => h.1) (fun D hD => ⟨Nat.le_refl _, by simp⟩) (fun D H hD gr => hG H (gr.same hD)) ?_ ?_
  · rintro D i x H2 H3 acc k1 k2 hD hi gr hacc ⟨hl, hI⟩ y hk1 hk2
    refine step i x H2 H3 k1 k2 hi (gr.same hD) y (fun z H4 s4 r => hk1 z H4 s4 ⟨by rw [List.length_append, List.length_singleton]; omega, fun v hv => ?_⟩) fun H4 s4 => hk2 H4 s4 ⟨by omega, fun v hv => st _ _ _ (TupS.of s4) (hI v hv)⟩
    have ts : TupS H4 (upd H4 D (.lst (acc ++ [z]))) := TupS.upd fun ys e => by rw [s4 _ _ hacc] at e; cases e
    rcases List.mem_append.mp hv with q | q
    · exact st _ _ _ ts (st _ _ _ (TupS.of s4) (hI v q))
    · have : v = z := by simpa using q
      rw [this]
      exact st _ _ _ ts r
  · rintro D ys H hD gr hys ⟨hl, hI⟩
    exact fin D ys H hD (gr.same hD) hys hl hI
end
/-- not among -/
def nin (ys : List Dc) (c : Dc) : Bool := !(ys.map dcD).any fun z => PyData.eqv z (dcD c)
/-- its first two items -/
theorem dc_two {H : Hp} {v : V} {c : Dc} (h : DcAt H v c) : ∃ p x y, v = .ref p ∧ H p = some (.tup [.str x, y]) ∧ (x = Str.ofString "new" → ∃ n : Nat, y = .int (n : Int)) := by
  have w : Str.ofString "old" ≠ Str.ofString "new" := by decide +kernel
  cases c with
  | new x => obtain ⟨p, h1, h2⟩ := h; exact ⟨p, _, _, h1, h2, fun _ => ⟨x, rfl⟩⟩
  | cell r c => obtain ⟨p, q, h1, h2, _⟩ := h; exact ⟨p, _, _, h1, h2, fun e => absurd e w⟩
  | lane n => obtain ⟨p, q, h1, h2, _⟩ := h; exact ⟨p, _, _, h1, h2, fun e => absurd e w⟩
  | file n => obtain ⟨p, q, h1, h2, _⟩ := h; exact ⟨p, _, _, h1, h2, fun e => absurd e w⟩
  | table => obtain ⟨p, q, h1, h2, _⟩ := h; exact ⟨p, _, _, h1, h2, fun e => absurd e w⟩
theorem bl_list {ys : List V} (h : ∀ y ∈ ys, ∃ b, y = V.bl b) : ∃ bs : List Bool, ys = bs.map V.bl := by
  induction ys with
  | nil => exact ⟨[], rfl⟩
  | cons y ys ih =>
    obtain ⟨b, rfl⟩ := h y List.mem_cons_self
    obtain ⟨bs, rfl⟩ := ih fun z hz => h z (List.mem_cons_of_mem _ hz)
    exact ⟨b :: bs, rfl⟩
theorem int_flat {ys : List V} (h : ∀ y ∈ ys, ∃ n : Int, y = V.int n) : ys.all flatV = true := by
  rw [List.all_eq_true]
  intro y hy
  obtain ⟨n, rfl⟩ := h y hy
  rfl
section
variable {P : Program} {w : World} {K : PySem.W.Frag} {mg : Str → Option Value} {fds : Str → FuncData} {base : Heap}
abbrev s_tells_for : Stmt := top 28
abbrev N_tells_for : List Str := ["order", "kind", "one", "other", "some", "telling", "pair", "used", "free", "value", "old"]
theorem sc_tells_for : FnScope N_tells_for ["order", "kind", "one", "other"] (defScope s_tells_for) := ⟨rfl, rfl, rfl, by decide +kernel, rfl, by decide +kernel, by decide +kernel⟩
def spTells : Sp := fun vs H Q _ => ∃ (od : Od) (k : Kd) (a b : Addr) (us ws : List V) (xs ys : List Dc), vs = [.str od.s, .str k.s, .ref a, .ref b] ∧ H a = some (.lst us) ∧ Paired (DcAt H) us xs ∧ H b = some (.lst ws) ∧ Paired (DcAt H) ws ys ∧ us.length ≤ 10 ∧ ws.length ≤ 10 ∧ (od = .newest → xs.filter (nin ys) ++ ys.filter (nin xs) ≠ []) ∧ ∀ H' l, Same H H' → Q (.ref l) H'
theorem ok_tells_for (T : Txt K mg fds) : FnOk P w K mg base CX0 2 (He.ga K "tells_for") (fds "tells_for") ["order", "kind", "one", "other"] spTells := by
  refine T.d_tells_for.fn.ok sc_tells_for (fun vs H Q E h => ?_) (fun cdv A outer s H vs Q E hr h => ?_)
  · obtain ⟨od, kd, a, b, us, ws, xs, ys, rfl, _⟩ := h; rfl
  · obtain ⟨od, kd, a, b, us, ws, xs, ys, rfl, ha, hpa, hb, hpb, hl1, hl2, hne, k⟩ := h
    have nd := sc_tells_for.nd
    refine ⟨_, PSs.nox (pss_cons (ps_if (pt_cmpR op_eq (pv 0) pe_str (nomark _))
        (pss_cons (ps_setLc (i := 4) (own := [("telling", 5)]) rfl nd rfl rfl (sw_true rfl rfl rfl (by decide +kernel)) (pi_list (pv 2)) (blkOk_by (N := N_tells_for) (sc := (defScope s_tells_for)) (by decide +kernel)) (fun _ _ _ _ _ => (pg_name (i := 5) nd rfl (by first | exact Or.inl rfl | exact Or.inr rfl))) (fun _ _ _ _ _ => pts_one (pt_cmpR (op_notInDK (K := K) rfl (ru65 hr)) (pv 5) (pv 3) (by rfl))) (fun _ _ _ _ _ => (pv 5)))
        (pss_cons (ps_set (i := 4) nd rfl (by first | exact Or.inl rfl | exact Or.inr rfl) (pe_op op_cat (pv 4) (pe_lc (own := [("telling", 5)]) rfl nd (pi_list (pv 3)) (blkOk_by (N := N_tells_for) (sc := (defScope s_tells_for)) (by decide +kernel)) (fun _ _ _ _ _ => (pg_name (i := 5) nd rfl (by first | exact Or.inl rfl | exact Or.inr rfl))) (fun _ _ _ _ _ => pts_one (pt_cmpR (op_notInDK (K := K) rfl (ru65 hr)) (pv 5) (pv 2) (by rfl))) (fun _ _ _ _ _ => (pv 5)))))
        (pss_cons (ps_if (pt_val (pe_callB (cr_any rfl) (by rfl) T.g_any (by decide +kernel) (pa_cons (pe_lc (own := [("telling", 5)]) rfl nd (pi_list (pv 4)) (blkOk_by (N := N_tells_for) (sc := (defScope s_tells_for)) (by decide +kernel)) (fun _ _ _ _ _ => (pg_name (i := 5) nd rfl (by first | exact Or.inl rfl | exact Or.inr rfl))) (fun _ _ _ _ _ => pts_nil) (fun _ _ _ _ _ => (pe_cmpR op_eq (pe_ix (ix_tupK (K := K) rfl) (pv 5) pe_int (fun _ _ => rfl)) pe_str (nomark _)))) pa_nil)))
          (pss_one (ps_ret (pe_lst pa_nil)))
          pss_nil)
        (pss_one (ps_ret (pe_lst (pa_cons (pe_tup (pa_cons (pe_ix ix_tup (pe_ix ix_list (pv 4) pe_int (fun _ _ => rfl)) pe_int (fun _ _ => rfl)) (pa_cons (pv 1) (pa_cons pe_int pa_nil)))) pa_nil)))))))
        pss_nil)
      (pss_cons (ps_set (i := 6) nd rfl (by first | exact Or.inl rfl | exact Or.inr rfl) (pe_fn T.d_first_unlike (ok_first_unlike T) hr rfl (pa_cons (pv 2) (pa_cons (pv 3) pa_nil))))
      (pss_cons (ps_set (i := 7) nd rfl (by first | exact Or.inl rfl | exact Or.inr rfl) (pe_lc (own := [("telling", 5)]) rfl nd (pi_list (pv 6)) (blkOk_by (N := N_tells_for) (sc := (defScope s_tells_for)) (by decide +kernel)) (fun _ _ _ _ _ => (pg_name (i := 5) nd rfl (by first | exact Or.inl rfl | exact Or.inr rfl))) (fun _ _ _ _ _ => pts_one (PW.pt (pw_and (pt_cmpR op_notQ (pv 5) pe_non (nomark _)) (pw_and1 (pt_cmpR op_eq (pe_ix (ix_tupK (K := K) rfl) (pv 5) pe_int (fun _ _ => rfl)) pe_str (nomark _)))))) (fun _ _ _ _ _ => (pe_ix (ix_tupK (K := K) rfl) (pv 5) pe_int (fun _ _ => rfl)))))
      (pss_cons (ps_setLc (i := 8) (own := [("value", 9)]) rfl nd rfl rfl (sw_true rfl rfl rfl (by decide +kernel)) (pi_range1 (by rfl) T.g_range (pa_cons pe_int pa_nil)) (blkOk_by (N := N_tells_for) (sc := (defScope s_tells_for)) (by decide +kernel)) (fun _ _ _ _ _ => (pg_name (i := 9) nd rfl (by first | exact Or.inl rfl | exact Or.inr rfl))) (fun _ _ _ _ _ => pts_one (pt_cmpR (op_notInK (K := K) rfl) (pv 9) (pv 7) (by with_unfolding_all rfl))) (fun _ _ _ _ _ => (pv 9)))
      (pss_cons (ps_setLc (i := 10) (own := [("telling", 5)]) rfl nd rfl rfl (sw_true rfl rfl rfl (by decide +kernel)) (pi_list (pv 6)) (blkOk_by (N := N_tells_for) (sc := (defScope s_tells_for)) (by decide +kernel)) (fun _ _ _ _ _ => (pg_name (i := 5) nd rfl (by first | exact Or.inl rfl | exact Or.inr rfl))) (fun _ _ _ _ _ => pts_one (PW.pt (pw_and (pt_cmpR op_notQ (pv 5) pe_non (nomark _)) (pw_and1 (pt_cmpR op_eq (pe_ix (ix_tupK (K := K) rfl) (pv 5) pe_int (fun _ _ => rfl)) pe_str (nomark _)))))) (fun _ _ _ _ _ => (pv 5)))
      (pss_one (ps_ret (pe_lc (own := [("telling", 5), ("value", 9)]) rfl nd (pi_zip (by rfl) T.g_zip (pa_cons (pv 10) (pa_cons (pv 8) pa_nil))) (blkOk_by (N := N_tells_for) (sc := (defScope s_tells_for)) (by decide +kernel)) (fun _ _ _ _ _ => (pg_tupK (K := K) (n := 2) rfl rfl (pgs_cons (pg_name (i := 5) nd rfl (by first | exact Or.inl rfl | exact Or.inr rfl)) (pgs_cons (pg_name (i := 9) nd rfl (by first | exact Or.inl rfl | exact Or.inr rfl)) pgs_nil)))) (fun _ _ _ _ _ => pts_nil) (fun _ _ _ _ _ => (pe_tup (pa_cons (pe_ix (ix_tupK (K := K) rfl) (pv 5) pe_int (fun _ _ => rfl)) (pa_cons (pv 1) (pa_cons (pv 9) pa_nil))))))))))))), ?_⟩
    rw [show L2.start N_tells_for [.str od.s, .str kd.s, .ref a, .ref b] = [some (.str od.s), some (.str kd.s), some (.ref a), some (.ref b), none, none, none, none, none, none, none] from rfl]
    cases od with
    | newest =>
      walk_at "n"
      rw [show decide (Od.newest.s = Str.ofString "newest") = true by decide +kernel]
      walk_at "n"
      refine lsL ha ?_
      refine filt_lc (nin ys) ha hpa (by omega) (fun v c H2 k1 k2 hv s2 ht hf => ?_) fun D1 zs1 H2 hD1 s2 h1 p1 => ?_
      · walk_at "n"
        refine ⟨trivial, dcD c, ys.map dcD, dcDp hv, .lst (SqL.of (s2 _ _ hb)) (dcDpAll (Paired.mapP hpb fun _ _ z => z.stay (TupS.of s2))), dc_shaped c, list_shaped mapD, ?_⟩
        walk_at "n"
        show if nin ys c = true then k1 v H2 else k2 H2
        cases e : nin ys c with
        | true => exact ht e
        | false => exact hf e
      have hb2 := s2 _ _ hb
      have ha2 := s2 _ _ ha
      have hpb2 := Paired.mapP hpb fun _ _ z => z.stay (TupS.of s2)
      have hpa2 := Paired.mapP hpa fun _ _ z => z.stay (TupS.of s2)
      refine lsL hb2 ?_
      refine filt_lc (nin xs) hb2 hpb2 (by omega) (fun v c H3 k1 k2 hv s3 ht hf => ?_) fun D2 zs2 H3 hD2 s3 h2 p2 => ?_
      · walk_at "n"
        refine ⟨trivial, dcD c, xs.map dcD, dcDp hv, .lst (SqL.of (s3 _ _ ha2)) (dcDpAll (Paired.mapP hpa2 fun _ _ z => z.stay (TupS.of s3))), dc_shaped c, list_shaped mapD, ?_⟩
        walk_at "n"
        show if nin xs c = true then k1 v H3 else k2 H3
        cases e : nin xs c with
        | true => exact ht e
        | false => exact hf e
      have z1 : zs1.length ≤ 10 := by
        rw [p1.length]
        refine Nat.le_trans (List.length_filter_le _ _) ?_
        rw [← hpa.length]
        exact hl1
      have z2 : zs2.length ≤ 10 := by
        rw [p2.length]
        refine Nat.le_trans (List.length_filter_le _ _) ?_
        rw [← hpb.length]
        exact hl2
      refine catL (s3 _ _ h1) h2 (by omega) fun D3 hD3 => ?_
      have s4 := Same.upd (.lst (zs1 ++ zs2)) hD3
      have pz := paired_app (Paired.mapP p1 fun _ _ z => (z.stay (TupS.of s3)).stay (TupS.of s4)) (Paired.mapP p2 fun _ _ z => z.stay (TupS.of s4))
      have h3 : upd H3 D3 (.lst (zs1 ++ zs2)) D3 = some (.lst (zs1 ++ zs2)) := upd_same
      have s14 := (s2.trans s3).trans s4
      have zl : (zs1 ++ zs2).length ≤ 20 := by rw [List.length_append]; omega
      have zne : zs1 ++ zs2 ≠ [] := fun z => hne rfl (by
        have := pz.length
        rw [z] at this
        exact List.eq_nil_of_length_eq_zero this.symm)
      generalize upd H3 D3 (.lst (zs1 ++ zs2)) = H4 at s14 h3 pz ⊢
      generalize zs1 ++ zs2 = zs at h3 pz zl zne
      generalize xs.filter (nin ys) ++ ys.filter (nin xs) = cs at pz
      walk_at "n"
      refine lsL h3 ?_
      refine any_lc (walk_list (xs := zs)) (fun _ v => ∃ b, v = V.bl b) (fun _ _ _ _ h => h) (by omega) (fun H s => SqL.of (s _ _ h3)) (fun i x H5 H6 k1 k2 hi s5 y hk1 hk2 => ?_) fun D5 bs H5 hD5 s5 h5 hbl hball => ?_
      · obtain ⟨rfl, hxi⟩ := y
        obtain ⟨c, hc, hca⟩ := paired_get pz hxi
        obtain ⟨p, x0, y0, rfl, hpt, _⟩ := dc_two (hca.stay (TupS.of s5))
        walk_at "n"
        refine ⟨trivial, ixT hpt (at0 _ _) ?_⟩
        walk_at "n"
        exact hk1 _ _ (Same.refl _) ⟨_, rfl⟩
      · obtain ⟨bb, rfl⟩ := bl_list hball
        refine anyI h5 ?_
        walk_at "n"
        cases bb.any id with
        | true =>
          walk_at "n"
          exact ⟨by decide, fun p hp => k _ p ((s14.trans s5).trans (Same.upd _ hp))⟩
        | false =>
          walk_at "n"
          obtain ⟨v, hv⟩ : ∃ v, zs[0]? = some v := ⟨_, List.getElem?_eq_getElem (List.length_pos_iff.mpr zne)⟩
          obtain ⟨c, hc, hca⟩ := paired_get pz hv
          obtain ⟨p, x0, y0, rfl, hpt, _⟩ := dc_two (hca.stay (TupS.of s5))
          refine ixL (s5 _ _ h3) (show atI zs 0 = some (V.ref p) from atI_nat (j := 0) hv) ?_
          refine ixT hpt rfl ?_
          walk_at "n"
          exact ⟨by decide, fun p hp => ⟨by decide, fun q hq => k _ q ((s14.trans s5).trans ((Same.upd _ hp).trans (Same.upd _ hq)))⟩⟩
    | nearest =>
      walk_at "n"
      rw [show decide (Od.nearest.s = Str.ofString "newest") = false by decide +kernel]
      walk_at "n"
      refine ⟨a, b, us, ws, xs, ys, rfl, ha, hpa, hb, hpb, hl1, hl2, fun H2 l x y s2 hl ox oy => ?_⟩
      walk_at "n"
      have hot : ∀ (i : Nat) (v : V), ([x, y] : List V)[i]? = some v → OtAt H2 v := fun i v h => by
        rcases i with _ | _ | i
        · cases h
          exact ox
        · cases h
          exact oy
        · cases h
      refine lsL hl ?_
      refine any_lc (walk_list (xs := [x, y])) (fun _ v => ∃ n : Int, v = V.int n) (fun _ _ _ _ h => h) (by show 2 ≤ 100; decide) (fun H s => SqL.of (s _ _ hl)) (fun i v H3 H4 k1 k2 hi s3 q hk1 hk2 => ?_) fun D3 vs3 H3 hD3 s3 h3 hl3 hall3 => ?_
      · obtain ⟨rfl, hxi⟩ := q
        rcases (hot i v hxi).stay (TupS.of s3) with e | ⟨c, hca⟩
        · subst e
          walk_at "n"
          exact ⟨trivial, hk2 _ (Same.refl _)⟩
        · obtain ⟨p, x0, y0, rfl, hpt, hnew⟩ := dc_two hca
          walk_at "n"
          refine ⟨trivial, ixT hpt (at0 _ _) ?_⟩
          walk_at "n"
          by_cases e : x0 = Str.ofString "new"
          · obtain ⟨n, rfl⟩ := hnew e
            rw [decide_eq_true e]
            walk_at "n"
            refine ixT hpt rfl ?_
            exact hk1 _ _ (Same.refl _) ⟨_, rfl⟩
          · rw [decide_eq_false e]
            walk_at "n"
            exact hk2 _ (Same.refl _)
      have hl3' := s3 _ _ hl
      refine rg1 (by omega) (by omega) ?_
      refine any_lc (n := 10) walk_range (fun _ v => ∃ n : Int, v = V.int n) (fun _ _ _ _ h => h) (by decide) (fun _ _ => trivial) (fun i v H4 H5 k1 k2 hi s4 q hk1 hk2 => ?_) fun D4 vs4 H4 hD4 s4 h4 hl4 hall4 => ?_
      · obtain ⟨rfl, rfl⟩ := q
        walk_at "n"
        refine ⟨trivial, D3, vs3, rfl, .inl (SqL.of (s4 _ _ h3)), rfl, int_flat hall3, ?_⟩
        walk_at "n"
        split
        · exact hk1 _ _ (Same.refl _) ⟨_, rfl⟩
        · exact hk2 _ (Same.refl _)
      refine lsL (s4 _ _ hl3') ?_
      refine any_lc (walk_list (xs := [x, y])) (fun H v => ∃ c, DcAt H v c) (fun _ _ _ e h => h.imp fun c z => z.stay e) (by show 2 ≤ 100; decide) (fun H s => SqL.of (s _ _ (s4 _ _ hl3'))) (fun i v H5 H6 k1 k2 hi s5 q hk1 hk2 => ?_) fun D5 vs5 H5 hD5 s5 h5 hl5 hall5 => ?_
      · obtain ⟨rfl, hxi⟩ := q
        rcases (hot i v hxi).stay (TupS.of ((s3.trans s4).trans s5)) with e | ⟨c, hca⟩
        · subst e
          walk_at "n"
          exact ⟨trivial, hk2 _ (Same.refl _)⟩
        · obtain ⟨p, x0, y0, rfl, hpt, hnew⟩ := dc_two hca
          walk_at "n"
          refine ⟨trivial, ixT hpt (at0 _ _) ?_⟩
          walk_at "n"
          split
          · exact hk1 _ _ (Same.refl _) ⟨c, hca⟩
          · exact hk2 _ (Same.refl _)
      have h4' := s5 _ _ h4
      refine zpL h5 h4' ?_
      refine any_lc (walk_zip (K := K) (xs := vs5) (ys := vs4) rfl) (fun _ _ => True) (fun _ _ _ _ h => h) (by omega) (fun H s => ⟨SqL.of (s _ _ h5), SqL.of (s _ _ h4')⟩) (fun i v H6 H7 k1 k2 hi s6 q hk1 hk2 => ?_) fun D6 vs6 H6 hD6 s6 h6 hl6 hall6 => ?_
      · obtain ⟨T1, x1, y1, rfl, hT, rfl, e1, e2⟩ := q
        obtain ⟨c, hca⟩ := hall5 x1 (List.mem_of_getElem? (show vs5[i]? = some x1 from e1))
        have s7 := Same.upd (.tup [x1, y1]) hT
        obtain ⟨p, x0, y0, rfl, hpt, _⟩ := dc_two ((hca.stay (TupS.of s6)).stay (TupS.of s7))
        walk_at "n"
        refine tupG upd_same rfl ?_
        walk_at "n"
        refine ⟨trivial, ixT hpt rfl ?_⟩
        walk_at "n"
        refine ⟨by decide, fun p hp => hk1 _ _ (s7.trans (Same.upd _ hp)) trivial⟩
      · exact k _ D6 ((((s2.trans s3).trans s4).trans s5).trans s6)
end

end Gr

namespace Gr
open PySem PySem.Spec PyProof.Rows L2
local macro_rules | `(tactic| walk_at "n") => `(tactic| try simp only [u_tVar, u_tC, u_tB, u_tTest, u_tAnd, u_tOr, u_tNot, u_tAndV, u_tOrV, u_tNotV, u_tIf, u_tNext, u_tSeq, u_tBreak, u_tCont, u_tDrop, u_tRet, u_tRetN, u_tIfS, u_tNever, u_gName, u_tAsg, u_tPar, u_gSub, u_tOp, u_tUn, u_tChain, u_tNil, u_tCons, u_tTup, u_tLst, u_tCB, u_tCall, u_tNoPart, u_tPart, u_tSl, u_tYes, u_iList', u_iTup', u_tLc, u_tDc, u_tFor, u_iRng1, u_iRng2, u_iEnum, u_iEnumT, u_iZip, u_iZip3, L2.wipe, u_sDPut', u_tDGet', u_tDNewK, u_tFld', u_sFld, u_gTup, u_gCons, u_gNil, u_tMeth, u_tCKw, u_tMake, u_tMethC, u_tNdefM, u_tCallL, u_tLstRg, v_rI0, v_rI, v_eqI, v_neI, v_eqS, v_neS, v_bl, v_int, v_ref, v_some, v_two, w_insert_tell, w_remove_tell, w_remove_insert, w_move_tell, w_move_insert, w_move_remove, w_copy_tell, w_copy_insert, w_copy_remove, w_copy_move, w_rows_table, w_columns_table, w_cells_table, w_rows_cells, w_columns_cells, w_columns_rows, w_cells_rows, w_cells_columns, w_rows_columns, w_table_cells, w_table_rows, w_table_columns, w_column_row, w_plain_like, w_like_plain, w_old_new, w_new_old, w_newest_nearest, w_nearest_newest, w_ink_ground, w_ink_face, w_ground_ink, w_ground_face, w_face_ink, w_face_ground, w_whole_lanes, w_whole_files, w_whole_spots, w_lanes_files, w_lanes_spots, w_files_spots, List.getElem?_cons_zero, List.getElem?_cons_succ, List.set_cons_zero, List.set_cons_succ, List.append_nil, Bool.not_true, Bool.not_false, eq_self, if_true, Bool.false_eq_true, if_false, decide_true, decide_false, v_max, v_min, v_intQ, v_isN, v_notN, reduceCtorEq, Nat.reduceAdd, Nat.zero_add, Int.cast_ofNat_Int, Int.reduceEq, Int.reduceLE, Int.reduceLT, Int.reduceAdd, List.cons_append, List.nil_append, List.map_cons, List.map_nil, Sc.vs, ov, De.vs, how, List.length_cons, List.length_nil])
local macro_rules | `(tactic| walk_at "x") => `(tactic| first | refine ixT (by assumption) rfl ?_ | refine ixL (by assumption) rfl ?_ | refine lenT (by assumption) rfl ?_ | refine lenL (by assumption) rfl ?_ | refine isi (.base (.int _)) kit_int_int ?_ | refine isi (.base (.int _)) kit_int_str ?_ | refine isi (.base (.int _)) kit_int_bool ?_ | refine isi (.base (.int _)) kit_int_tuple ?_ | refine isi (.base (.int _)) kit_int_list ?_ | refine isi (.base (.str _)) kit_str_int ?_ | refine isi (.base (.str _)) kit_str_str ?_ | refine isi (.base (.str _)) kit_str_bool ?_ | refine isi (.base (.str _)) kit_str_tuple ?_ | refine isi (.base (.str _)) kit_str_list ?_ | refine isi (.base (.bl _)) kit_bool_int ?_ | refine isi (.base (.bl _)) kit_bool_str ?_ | refine isi (.base (.bl _)) kit_bool_bool ?_ | refine isi (.base (.bl _)) kit_bool_tuple ?_ | refine isi (.base (.bl _)) kit_bool_list ?_ | refine isi (.base (.tup (by assumption))) kit_tuple_int ?_ | refine isi (.base (.tup (by assumption))) kit_tuple_str ?_ | refine isi (.base (.tup (by assumption))) kit_tuple_bool ?_ | refine isi (.base (.tup (by assumption))) kit_tuple_tuple ?_ | refine isi (.base (.tup (by assumption))) kit_tuple_list ?_ | refine isi (.base (.lst (by assumption))) kit_list_int ?_ | refine isi (.base (.lst (by assumption))) kit_list_str ?_ | refine isi (.base (.lst (by assumption))) kit_list_bool ?_ | refine isi (.base (.lst (by assumption))) kit_list_tuple ?_ | refine isi (.base (.lst (by assumption))) kit_list_list ?_ | refine isi (.base (.non)) kit_NoneType_int ?_ | refine isi (.base (.non)) kit_NoneType_str ?_ | refine isi (.base (.non)) kit_NoneType_bool ?_ | refine isi (.base (.non)) kit_NoneType_tuple ?_ | refine isi (.base (.non)) kit_NoneType_list ?_)
local macro_rules | `(tactic| walk_at "g") => `(tactic| (repeat (walk_at "n"; walk_at "x")); walk_at "n")

-- Gr6
/-! ### parted_by: the plain part -/
def rank : Dc → Nat
  | .cell _ _ => 0
  | .lane _ => 1
  | .file _ => 2
  | .table => 3
  | .new _ => 4
theorem eq_of_rank : ∀ {xs ys : List Dc}, xs.Pairwise (fun a b => rank a < rank b) → ys.Pairwise (fun a b => rank a < rank b) → (∀ x ∈ xs, x ∈ ys) → (∀ y ∈ ys, y ∈ xs) → xs = ys
  | [], [], _, _, _, _ => rfl
  | [], y :: ys, _, _, _, h => absurd (h y List.mem_cons_self) (by simp)
  | x :: xs, [], _, _, h, _ => absurd (h x List.mem_cons_self) (by simp)
  | x :: xs, y :: ys, px, py, h1, h2 => by
    obtain ⟨a1, a2⟩ := List.pairwise_cons.mp px
    obtain ⟨b1, b2⟩ := List.pairwise_cons.mp py
    have e : x = y := by
      rcases List.mem_cons.mp (h1 x List.mem_cons_self) with z | z
      · exact z
      · rcases List.mem_cons.mp (h2 y List.mem_cons_self) with q | q
        · exact q.symm
        · have := a1 y q
          have := b1 x z
          omega
    subst e
    rw [eq_of_rank a2 b2 (fun z hz => ?_) fun z hz => ?_]
    · rcases List.mem_cons.mp (h1 z (List.mem_cons_of_mem _ hz)) with q | q
      · have := a1 z hz
        rw [q] at this
        omega
      · exact q
    · rcases List.mem_cons.mp (h2 z (List.mem_cons_of_mem _ hz)) with q | q
      · have := b1 z hz
        rw [q] at this
        omega
      · exact q
theorem seen_rank (T : Tr) (k : Kd) (r c : Nat) (h : ∀ d ∈ T.seen k r c, d.nw = none) : ((T.seen k r c).map Dd.dc).Pairwise (fun a b => rank a < rank b) := by
  unfold Tr.seen Tr.at4 at h ⊢
  generalize ((T.spots k).getD r []).getD c none = x0 at h ⊢
  generalize (T.lanes k).getD r none = x1 at h ⊢
  generalize (T.files k).getD c none = x2 at h ⊢
  generalize T.whole k = x3 at h ⊢
  rcases x0 with _ | (_ | _) <;> rcases x1 with _ | (_ | _) <;> rcases x2 with _ | (_ | _) <;> rcases x3 with _ | (_ | _) <;> simp [ofT, Dd.nw, Dd.dc, rank] at h ⊢
/-- with the newest order: all are old, or one new one -/
theorem decM_or (ds : List Dd) : (∃ v, decM ds = [.new v]) ∨ (decM ds = ds.map Dd.dc ∧ ∀ d ∈ ds, d.nw = none) := by
  unfold decM
  cases e : bestN (ds.filterMap Dd.nw) with
  | some p => exact .inl ⟨p.1, rfl⟩
  | none =>
    refine .inr ⟨rfl, fun d hd => ?_⟩
    have e2 := best_none.mp e
    cases hn : d.nw with
    | none => rfl
    | some q =>
      have hm : q ∈ ds.filterMap Dd.nw := List.mem_filterMap.mpr ⟨d, hd, hn⟩
      rw [e2] at hm
      cases hm
theorem decM_rank (T : Tr) (k : Kd) (r c : Nat) : (decM (T.seen k r c)).Pairwise (fun a b => rank a < rank b) := by
  rcases decM_or (T.seen k r c) with ⟨v, e⟩ | ⟨e, h⟩ <;> rw [e]
  · exact List.pairwise_singleton _ _
  · exact seen_rank T k r c h
theorem alike_old {a b : Dd} (ha : a.nw = none) (hb : b.nw = none) : PySem.W.alike (dcD a.dc) (dcD b.dc) = true := by
  cases a <;> cases b <;> first | (cases ha; done) | (cases hb; done) | simp [Dd.dc, dcD, PySem.W.alike, PySem.W.alikeAll]
theorem decM_sort (ds : List Dd) : SortOk (decM ds) := by
  refine ⟨?_, .inl fun d hd => ?_⟩
  · rcases decM_or ds with ⟨v, e⟩ | ⟨e, h⟩ <;> rw [e]
    · intro d hd d' hd'
      have e1 : d = dcD (.new v) := by simpa using hd
      have e2 : d' = dcD (.new v) := by simpa using hd'
      rw [e1, e2]
      simp [dcD, PySem.W.alike, PySem.W.alikeAll]
    · intro d hd d' hd'
      rw [List.map_map] at hd hd'
      obtain ⟨a, ha, rfl⟩ := List.mem_map.mp hd
      obtain ⟨b, hb, rfl⟩ := List.mem_map.mp hd'
      exact alike_old (h a ha) (h b hb)
  · obtain ⟨c, rfl⟩ := mapD d hd
    cases c <;> exact ⟨_, _, rfl⟩
theorem nin_iff {ys : List Dc} {c : Dc} : nin ys c = false ↔ c ∈ ys := by
  unfold nin
  simp [eqv_dc]
theorem tells_ne {T1 T2 : Tr} {k : Kd} {r c : Nat} (h : unl .newest (decM (T1.seen k r c)) (decM (T2.seen k r c)) = true) :
    (decM (T1.seen k r c)).filter (nin (decM (T2.seen k r c))) ++ (decM (T2.seen k r c)).filter (nin (decM (T1.seen k r c))) ≠ [] := fun e => by
  obtain ⟨e1, e2⟩ := List.append_eq_nil_iff.mp e
  rw [List.filter_eq_nil_iff] at e1 e2
  have q := eq_of_rank (decM_rank T1 k r c) (decM_rank T2 k r c) (fun x hx => nin_iff.mp (by simpa using e1 x hx)) (fun y hy => nin_iff.mp (by simpa using e2 y hy))
  rw [q, unl_self] at h
  cases h
/-- how far is looked -/
def shownOf (ds es : List De) : Nat := 18 + 3 * max ds.length es.length
/-- no place tells two rows of deeds apart -/
def Alk (od : Od) (ds es : List De) : Prop := ∀ r c k, r < shownOf ds es → c < shownOf ds es → unl od (dec od ((trOf ds (shownOf ds es)).seen k r c)) (dec od ((trOf es (shownOf ds es)).seen k r c)) = false

end Gr

namespace Gr
open PySem PySem.Spec PyProof.Rows L2
local macro_rules | `(tactic| walk_at "n") => `(tactic| try simp only [u_tVar, u_tC, u_tB, u_tTest, u_tAnd, u_tOr, u_tNot, u_tAndV, u_tOrV, u_tNotV, u_tIf, u_tNext, u_tSeq, u_tBreak, u_tCont, u_tDrop, u_tRet, u_tRetN, u_tIfS, u_tNever, u_gName, u_tAsg, u_tPar, u_gSub, u_tOp, u_tUn, u_tChain, u_tNil, u_tCons, u_tTup, u_tLst, u_tCB, u_tCall, u_tNoPart, u_tPart, u_tSl, u_tYes, u_iList', u_iTup', u_tLc, u_tDc, u_tFor, u_iRng1, u_iRng2, u_iEnum, u_iEnumT, u_iZip, u_iZip3, L2.wipe, u_sDPut', u_tDGet', u_tDNewK, u_tFld', u_sFld, u_gTup, u_gCons, u_gNil, u_tMeth, u_tCKw, u_tMake, u_tMethC, u_tNdefM, u_tCallL, u_tLstRg, v_rI0, v_rI, v_eqI, v_neI, v_eqS, v_neS, v_bl, v_int, v_ref, v_some, v_two, w_insert_tell, w_remove_tell, w_remove_insert, w_move_tell, w_move_insert, w_move_remove, w_copy_tell, w_copy_insert, w_copy_remove, w_copy_move, w_rows_table, w_columns_table, w_cells_table, w_rows_cells, w_columns_cells, w_columns_rows, w_cells_rows, w_cells_columns, w_rows_columns, w_table_cells, w_table_rows, w_table_columns, w_column_row, w_plain_like, w_like_plain, w_old_new, w_new_old, w_newest_nearest, w_nearest_newest, w_ink_ground, w_ink_face, w_ground_ink, w_ground_face, w_face_ink, w_face_ground, w_whole_lanes, w_whole_files, w_whole_spots, w_lanes_files, w_lanes_spots, w_files_spots, List.getElem?_cons_zero, List.getElem?_cons_succ, List.set_cons_zero, List.set_cons_succ, List.append_nil, Bool.not_true, Bool.not_false, eq_self, if_true, Bool.false_eq_true, if_false, decide_true, decide_false, v_max, v_min, v_intQ, v_isN, v_notN, reduceCtorEq, Nat.reduceAdd, Nat.zero_add, Int.cast_ofNat_Int, Int.reduceEq, Int.reduceLE, Int.reduceLT, Int.reduceAdd, List.cons_append, List.nil_append, List.map_cons, List.map_nil, Sc.vs, ov, De.vs, how, List.length_cons, List.length_nil])
local macro_rules | `(tactic| walk_at "x") => `(tactic| first | refine ixT (by assumption) rfl ?_ | refine ixL (by assumption) rfl ?_ | refine lenT (by assumption) rfl ?_ | refine lenL (by assumption) rfl ?_ | refine isi (.base (.int _)) kit_int_int ?_ | refine isi (.base (.int _)) kit_int_str ?_ | refine isi (.base (.int _)) kit_int_bool ?_ | refine isi (.base (.int _)) kit_int_tuple ?_ | refine isi (.base (.int _)) kit_int_list ?_ | refine isi (.base (.str _)) kit_str_int ?_ | refine isi (.base (.str _)) kit_str_str ?_ | refine isi (.base (.str _)) kit_str_bool ?_ | refine isi (.base (.str _)) kit_str_tuple ?_ | refine isi (.base (.str _)) kit_str_list ?_ | refine isi (.base (.bl _)) kit_bool_int ?_ | refine isi (.base (.bl _)) kit_bool_str ?_ | refine isi (.base (.bl _)) kit_bool_bool ?_ | refine isi (.base (.bl _)) kit_bool_tuple ?_ | refine isi (.base (.bl _)) kit_bool_list ?_ | refine isi (.base (.tup (by assumption))) kit_tuple_int ?_ | refine isi (.base (.tup (by assumption))) kit_tuple_str ?_ | refine isi (.base (.tup (by assumption))) kit_tuple_bool ?_ | refine isi (.base (.tup (by assumption))) kit_tuple_tuple ?_ | refine isi (.base (.tup (by assumption))) kit_tuple_list ?_ | refine isi (.base (.lst (by assumption))) kit_list_int ?_ | refine isi (.base (.lst (by assumption))) kit_list_str ?_ | refine isi (.base (.lst (by assumption))) kit_list_bool ?_ | refine isi (.base (.lst (by assumption))) kit_list_tuple ?_ | refine isi (.base (.lst (by assumption))) kit_list_list ?_ | refine isi (.base (.non)) kit_NoneType_int ?_ | refine isi (.base (.non)) kit_NoneType_str ?_ | refine isi (.base (.non)) kit_NoneType_bool ?_ | refine isi (.base (.non)) kit_NoneType_tuple ?_ | refine isi (.base (.non)) kit_NoneType_list ?_)
local macro_rules | `(tactic| walk_at "g") => `(tactic| (repeat (walk_at "n"; walk_at "x")); walk_at "n")

-- Gr6
/-! ### parted_by -/
theorem decN_len : ∀ ds : List Dd, (decN ds).length ≤ ds.length
  | [] => Nat.le_refl _
  | d :: ds => by
    rw [decN]
    split
    · simp
    · have := decN_len ds
      simp only [List.length_cons]
      omega
theorem dec_len (od : Od) (T : Tr) (k : Kd) (r c : Nat) : (dec od (T.seen k r c)).length ≤ 10 := by
  have h := seen_len T k r c
  cases od with
  | nearest =>
    have := decN_len (T.seen k r c)
    show (decN _).length ≤ 10
    omega
  | newest =>
    show (decM _).length ≤ 10
    rcases decM_or (T.seen k r c) with ⟨v, e⟩ | ⟨e, _⟩ <;> rw [e]
    · show 1 ≤ 10
      decide
    · rw [List.length_map]
      omega
theorem list3 {f : Kd → Addr} {i : Nat} {y : V} (h : [V.ref (f .ink), V.ref (f .ground), V.ref (f .face)][i]? = some y) : i < 3 ∧ y = V.ref (f (kof i)) := by
  rcases i with _ | _ | _ | i
  · exact ⟨by decide, (Option.some.inj h).symm⟩
  · exact ⟨by decide, (Option.some.inj h).symm⟩
  · exact ⟨by decide, (Option.some.inj h).symm⟩
  · cases h
section
variable {P : Program} {w : World} {K : PySem.W.Frag} {mg : Str → Option Value} {fds : Str → FuncData} {base : Heap}
abbrev s_parted_by : Stmt := top 29
abbrev N_parted_by : List Str := ["order", "one", "two", "shown", "first", "second", "row", "column", "here", "there", "kind", "some", "others"]
theorem sc_parted_by : FnScope N_parted_by ["order", "one", "two"] (defScope s_parted_by) := ⟨rfl, rfl, rfl, by decide +kernel, rfl, by decide +kernel, by decide +kernel⟩
def spParted (K : PySem.W.Frag) : Sp := fun vs H Q _ => ∃ (od : Od) (p q : Addr) (us ws : List V) (ds es : List De), vs = [.str od.s, .ref p, .ref q] ∧ SqT K H p us ∧ DsV H us ds ∧ SqT K H q ws ∧ DsV H ws es ∧ NdefX.TabsN (TbN K) H ∧
  ∀ H' v, Gx H H' → NdefX.TabsN (TbN K) H' → (v = .non ↔ Alk od ds es) → (v = .non ∨ ∃ a, v = .ref a) → Q v H'
theorem ok_parted_by (T : Txt K mg fds) (TC : TabsOk K mg base) : FnOk P w K mg base CX0 9 (He.ga K "parted_by") (fds "parted_by") ["order", "one", "two"] (spParted K) := by
  refine T.d_parted_by.fn.ok sc_parted_by (fun vs H Q E h => ?_) (fun cdv A outer s H vs Q E hr h => ?_)
  · obtain ⟨od, p, q, us, ws, ds, es, rfl, _⟩ := h; rfl
  · obtain ⟨od, p, q, us, ws, ds, es, rfl, hp, hds, hq, hes, tb, k⟩ := h
    have nd := sc_parted_by.nd
    refine ⟨_, PSs.nox (pss_cons (ps_set (i := 3) nd rfl (by first | exact Or.inl rfl | exact Or.inr rfl) (pe_fn T.d_reach_of (ok_reach_of T) hr rfl (pa_cons (pe_callB (call_maxQ rfl) (by rfl) T.g_max (by decide +kernel) (pa_cons (pe_callB call_lenQ (by rfl) T.g_len (by decide +kernel) (pa_cons (pv 1) pa_nil)) (pa_cons (pe_callB call_lenQ (by rfl) T.g_len (by decide +kernel) (pa_cons (pv 2) pa_nil)) pa_nil))) pa_nil)))
      (pss_cons (ps_par (i := 4) (j := 5) (by rfl) nd rfl rfl (by decide) rfl rfl (pa_cons (pe_fn T.d_traced (ok_traced T TC) hr rfl (pa_cons (pv 1) (pa_cons (pv 3) pa_nil))) (pa_cons (pe_fn T.d_traced (ok_traced T TC) hr rfl (pa_cons (pv 2) (pa_cons (pv 3) pa_nil))) pa_nil)) (by rfl))
      (pss_cons (ps_for PassesOwn.never rfl (pi_range1 (by rfl) T.g_range (pa_cons (pv 3) pa_nil)) (pg_name (i := 6) nd rfl (by first | exact Or.inl rfl | exact Or.inr rfl))
        (pss_one (ps_for PassesOwn.never rfl (pi_range1 (by rfl) T.g_range (pa_cons (pv 3) pa_nil)) (pg_name (i := 7) nd rfl (by first | exact Or.inl rfl | exact Or.inr rfl))
          (pss_cons (ps_par (i := 8) (j := 9) (by rfl) nd rfl rfl (by decide) rfl rfl (pa_cons (pe_fn T.d_rows_at (ok_rows_at T) hr rfl (pa_cons (pv 0) (pa_cons (pv 4) (pa_cons (pv 6) (pa_cons (pv 7) pa_nil))))) (pa_cons (pe_fn T.d_rows_at (ok_rows_at T) hr rfl (pa_cons (pv 0) (pa_cons (pv 5) (pa_cons (pv 6) (pa_cons (pv 7) pa_nil))))) pa_nil)) (by rfl))
          (pss_one (ps_for PassesOwn.never rfl (pi_zip3 (by rfl) T.g_zip (pa_cons (pe_glob (v := .ref (He.ga K "KINDS")) rfl T.m_KINDS rfl) (pa_cons (pv 8) (pa_cons (pv 9) pa_nil)))) (pg_tup rfl (pgs_cons (pg_name (i := 10) nd rfl (by first | exact Or.inl rfl | exact Or.inr rfl)) (pgs_cons (pg_name (i := 11) nd rfl (by first | exact Or.inl rfl | exact Or.inr rfl)) (pgs_cons (pg_name (i := 12) nd rfl (by first | exact Or.inl rfl | exact Or.inr rfl)) pgs_nil))))
            (pss_one (ps_if (pt_val (pe_fn T.d_is_unlike (ok_is_unlike T) hr rfl (pa_cons (pv 0) (pa_cons (pv 11) (pa_cons (pv 12) pa_nil)))))
              (pss_one (ps_ret (pe_tup (pa_cons (pe_tup (pa_cons (pv 6) (pa_cons (pv 7) pa_nil))) (pa_cons (pe_fn T.d_tells_for (ok_tells_for T) hr rfl (pa_cons (pv 0) (pa_cons (pv 10) (pa_cons (pv 11) (pa_cons (pv 12) pa_nil))))) pa_nil)))))
              pss_nil))))))))
      (pss_one (ps_ret pe_non))))), ?_⟩
    rw [show L2.start N_parted_by [.str od.s, .ref p, .ref q] = [some (.str od.s), some (.ref p), some (.ref q), none, none, none, none, none, none, none, none, none, none] from rfl]
    walk_at "g"
    refine lenSq hp rfl ?_
    refine lenSq hq rfl ?_
    walk_at "n"
    have hu := hds.1.length
    have hw := hes.1.length
    have h6 := hds.2.2
    have h7 := hes.2.2
    rw [show (if (ws.length : Int) > (us.length : Int) then (ws.length : Int) else (us.length : Int)) = ((max ds.length es.length : Nat) : Int) by split <;> omega]
    refine ⟨max ds.length es.length, rfl, by omega, ?_⟩
    have hz : 18 + 3 * max ds.length es.length = shownOf ds es := rfl
    have hz2 : shownOf ds es ≤ 36 := by omega
    have dz : ds = [] ∨ 19 ≤ shownOf ds es := by
      cases ds with
      | nil => exact .inl rfl
      | cons d ds => exact .inr (by simp only [List.length_cons] at hz; omega)
    have ez : es = [] ∨ 19 ≤ shownOf ds es := by
      cases es with
      | nil => exact .inl rfl
      | cons d es => exact .inr (by simp only [List.length_cons] at hz; omega)
    have key : (∀ r c k, r < shownOf ds es → c < shownOf ds es → unl od (dec od ((trOf ds (shownOf ds es)).seen k r c)) (dec od ((trOf es (shownOf ds es)).seen k r c)) = false) ↔ Alk od ds es := Iff.rfl
    rw [hz]
    generalize shownOf ds es = z at hz2 dz ez key ⊢
    refine ⟨p, us, ds, z, rfl, hp, hds, dz, by omega, tb, fun H1 t1 h1 => ?_⟩
    have hds1 : DsV H1 us ds := hds.same h1.gx.tups
    have hes1 : DsV H1 ws es := hes.same h1.gx.tups
    walk_at "n"
    refine ⟨q, ws, es, z, rfl, sqt_gx hq h1.gx, hes1, ez, by omega, h1.tb, fun H2 t2 h2 => ?_⟩
    have h1' := h1.grow2 h2.gx h2.tb
    obtain ⟨n1, m1, wf1, a1, a2, a3, a4⟩ := trN_wf hds.2.1 dz ds.length (Nat.le_refl _)
    obtain ⟨n2, m2, wf2, b1, b2, b3, b4⟩ := trN_wf hes.2.1 ez es.length (Nat.le_refl _)
    walk_at "n"
    refine rg1 (by omega) (by omega) ?_
    rw [Int.toNat_natCast]
    refine forW (n := z) (G := fun _ => True) walk_range (fun r σ HH => ∃ (k6 k7 k8 k9 k10 k11 k12 : Option V), σ = [some (.str od.s), some (.ref p), some (.ref q), some (.int (z : Int)), some (.ref t1), some (.ref t2), k6, k7, k8, k9, k10, k11, k12] ∧ Same H2 HH ∧ ∀ r' c k, r' < r → c < z → unl od (dec od ((trOf ds z).seen k r' c)) (dec od ((trOf es z).seen k r' c)) = false) ?_ (fun _ _ _ _ _ => trivial) ?_ ?_
    · exact ⟨none, none, none, none, none, none, none, rfl, Same.refl _, fun _ _ _ h => by omega⟩
    · rintro r x σ H3 HH hr0 ⟨k6, k7, k8, k9, k10, k11, k12, rfl, s3, hall⟩ ⟨rfl, rfl⟩
      walk_at "n"
      rw [show (0 : Int) + (r : Int) = (r : Int) by omega]
      refine rg1 (by omega) (by omega) ?_
      rw [Int.toNat_natCast]
      refine forW (n := z) (G := fun _ => True) walk_range (fun c σ HH => ∃ (k7 k8 k9 k10 k11 k12 : Option V), σ = [some (.str od.s), some (.ref p), some (.ref q), some (.int (z : Int)), some (.ref t1), some (.ref t2), some (.int (r : Int)), k7, k8, k9, k10, k11, k12] ∧ Same H2 HH ∧ ∀ c' k, c' < c → unl od (dec od ((trOf ds z).seen k r c')) (dec od ((trOf es z).seen k r c')) = false) ?_ (fun _ _ _ _ _ => trivial) ?_ ?_
      · exact ⟨k7, k8, k9, k10, k11, k12, rfl, s3, fun _ _ h => by omega⟩
      · rintro c x σ H3 HH hc0 ⟨k7, k8, k9, k10, k11, k12, rfl, s4, hcol⟩ ⟨rfl, rfl⟩
        walk_at "n"
        rw [show (0 : Int) + (c : Int) = (c : Int) by omega]
        have i1 := h1'.grow s4
        have i2 := h2.grow s4
        refine ⟨od, t1, r, c, _, n1, m1, H, rfl, i1, wf1, by omega, by omega, fun H5 l5 s5 n5 r5 => ?_⟩
        walk_at "n"
        refine ⟨od, t2, r, c, _, n2, m2, H1, rfl, i2.grow s5, wf2, by omega, by omega, fun H6 l6 s6 n6 r6 => ?_⟩
        obtain ⟨f1, e5, g1⟩ := r5
        obtain ⟨f2, e6, g2⟩ := r6
        have e5' := s6 _ _ e5
        walk_at "n"
        refine zp3 (T.t_KINDS _) e5' e6 ?_
        have s46 := (s4.trans s5).trans s6
        refine forW (n := 3) (walk_zip3 (K := K) (xs := kvs3) (ys := [.ref (f1 .ink), .ref (f1 .ground), .ref (f1 .face)]) (zs := [.ref (f2 .ink), .ref (f2 .ground), .ref (f2 .face)]) rfl rfl rfl) (fun i σ HH => ∃ (k10 k11 k12 : Option V), σ = [some (.str od.s), some (.ref p), some (.ref q), some (.int (z : Int)), some (.ref t1), some (.ref t2), some (.int (r : Int)), some (.int (c : Int)), some (.ref l5), some (.ref l6), k10, k11, k12] ∧ Same H6 HH ∧ ∀ k, kx k < i → unl od (dec od ((trOf ds z).seen k r c)) (dec od ((trOf es z).seen k r c)) = false) ⟨k10, k11, k12, rfl, Same.refl _, fun _ h => by omega⟩ (fun i σ HH _ h => by
          obtain ⟨_, _, _, _, s, _⟩ := h
          exact ⟨T.t_KINDS _, SqL.of (s _ _ e5'), SqL.of (s _ _ e6)⟩) ?_ ?_
        · rintro i v σ H7 H8 hi ⟨k10, k11, k12, rfl, s7, hkd⟩ ⟨T1, x1, y1, w1, rfl, hT, rfl, q1, q2, q3⟩
          obtain ⟨_, rfl⟩ := kvs3_get q1
          obtain ⟨_, rfl⟩ := list3 q2
          obtain ⟨_, rfl⟩ := list3 q3
          obtain ⟨u1, hu1, pu1⟩ := g1 (kof i)
          obtain ⟨u2, hu2, pu2⟩ := g2 (kof i)
          have s8 := s7.trans (Same.upd (.tup [.str (kof i).s, .ref (f1 (kof i)), .ref (f2 (kof i))]) hT)
          have lu1 : u1.length ≤ 10 := by rw [pu1.length]; exact dec_len _ _ _ _ _
          have lu2 : u2.length ≤ 10 := by rw [pu2.length]; exact dec_len _ _ _ _ _
          have s68 := s6.trans s8
          walk_at "n"
          refine tupG upd_same rfl ?_
          walk_at "n"
          refine ⟨od, f1 (kof i), f2 (kof i), u1, u2, _, _, rfl, s68 _ _ hu1, Paired.mapP pu1 fun _ _ z => z.stay (TupS.of s68), s8 _ _ hu2, Paired.mapP pu2 fun _ _ z => z.stay (TupS.of s8), fun e => by subst e; exact ⟨decM_sort _, decM_sort _⟩, fun H9 s9 => ?_⟩
          cases hb : unl od (dec od ((trOf ds z).seen (kof i) r c)) (dec od ((trOf es z).seen (kof i) r c)) with
          | true =>
            walk_at "n"
            refine ⟨by decide, fun p1 hp1 => ?_⟩
            have s10 := s9.trans (Same.upd (.tup [.int (r : Int), .int (c : Int)]) hp1)
            have s610 := s68.trans s10
            have s810 := s8.trans s10
            refine ⟨od, kof i, f1 (kof i), f2 (kof i), u1, u2, _, _, rfl, s610 _ _ hu1, Paired.mapP pu1 fun _ _ z => z.stay (TupS.of s610), s810 _ _ hu2, Paired.mapP pu2 fun _ _ z => z.stay (TupS.of s810), lu1, lu2, fun e => ?_, fun H11 l s11 => ?_⟩
            · subst e
              exact tells_ne hb
            · walk_at "n"
              refine ⟨by decide, fun p2 hp2 => ?_⟩
              have sfin := (s46.trans (s810.trans s11)).trans (Same.upd (.tup [.ref p1, .ref l]) hp2)
              refine k _ _ ((h1.gx.trans h2.gx).trans (Gx.of sfin)) (h2.tb.ext sfin) ⟨fun e => (by cases e), fun e => ?_⟩ (.inr ⟨_, rfl⟩)
              have := key.mpr e r c (kof i) hr0 hc0
              rw [hb] at this
              cases this
          | false =>
            walk_at "n"
            refine ⟨_, _, _, rfl, s8.trans s9, fun k hk => ?_⟩
            rcases lt_succ_kx hi hk with e | ⟨_, e⟩
            · rw [e]
              exact hb
            · exact hkd k e
        · rintro σ HH ⟨k10, k11, k12, rfl, s7, hkd⟩
          refine ⟨_, _, _, _, _, _, rfl, s46.trans s7, fun c' k h => ?_⟩
          rcases Nat.lt_succ_iff_lt_or_eq.mp h with e | e
          · exact hcol c' k e
          · rw [e]
            exact hkd k (kx_lt k)
      · rintro σ HH ⟨k7, k8, k9, k10, k11, k12, rfl, s4, hcol⟩
        exact ⟨_, _, _, _, _, _, _, rfl, s4, fun r' c k h hc => by
          rcases Nat.lt_succ_iff_lt_or_eq.mp h with e | e
          · exact hall r' c k e hc
          · rw [e]
            exact hcol c k hc⟩
    · rintro σ HH ⟨k6, k7, k8, k9, k10, k11, k12, rfl, s3, hall⟩
      walk_at "n"
      exact k HH .non ((h1.gx.trans h2.gx).trans (Gx.of s3)) (h2.tb.ext s3) ⟨fun _ => key.mp fun r c k h1 h2 => hall r c k h1 h2, fun _ => rfl⟩ (.inl rfl)
end

end Gr

namespace Gr
open PySem PySem.Spec PyProof.Rows L2
local macro_rules | `(tactic| walk_at "n") => `(tactic| try simp only [u_tVar, u_tC, u_tB, u_tTest, u_tAnd, u_tOr, u_tNot, u_tAndV, u_tOrV, u_tNotV, u_tIf, u_tNext, u_tSeq, u_tBreak, u_tCont, u_tDrop, u_tRet, u_tRetN, u_tIfS, u_tNever, u_gName, u_tAsg, u_tPar, u_gSub, u_tOp, u_tUn, u_tChain, u_tNil, u_tCons, u_tTup, u_tLst, u_tCB, u_tCall, u_tNoPart, u_tPart, u_tSl, u_tYes, u_iList', u_iTup', u_tLc, u_tDc, u_tFor, u_iRng1, u_iRng2, u_iEnum, u_iEnumT, u_iZip, u_iZip3, L2.wipe, u_sDPut', u_tDGet', u_tDNewK, u_tFld', u_sFld, u_gTup, u_gCons, u_gNil, u_tMeth, u_tCKw, u_tMake, u_tMethC, u_tNdefM, u_tCallL, u_tLstRg, v_rI0, v_rI, v_eqI, v_neI, v_eqS, v_neS, v_bl, v_int, v_ref, v_some, v_two, w_insert_tell, w_remove_tell, w_remove_insert, w_move_tell, w_move_insert, w_move_remove, w_copy_tell, w_copy_insert, w_copy_remove, w_copy_move, w_rows_table, w_columns_table, w_cells_table, w_rows_cells, w_columns_cells, w_columns_rows, w_cells_rows, w_cells_columns, w_rows_columns, w_table_cells, w_table_rows, w_table_columns, w_column_row, w_plain_like, w_like_plain, w_old_new, w_new_old, w_newest_nearest, w_nearest_newest, w_ink_ground, w_ink_face, w_ground_ink, w_ground_face, w_face_ink, w_face_ground, w_whole_lanes, w_whole_files, w_whole_spots, w_lanes_files, w_lanes_spots, w_files_spots, List.getElem?_cons_zero, List.getElem?_cons_succ, List.set_cons_zero, List.set_cons_succ, List.append_nil, Bool.not_true, Bool.not_false, eq_self, if_true, Bool.false_eq_true, if_false, decide_true, decide_false, v_max, v_min, v_intQ, v_isN, v_notN, reduceCtorEq, Nat.reduceAdd, Nat.zero_add, Int.cast_ofNat_Int, Int.reduceEq, Int.reduceLE, Int.reduceLT, Int.reduceAdd, List.cons_append, List.nil_append, List.map_cons, List.map_nil, Sc.vs, ov, De.vs, how, List.length_cons, List.length_nil])
local macro_rules | `(tactic| walk_at "x") => `(tactic| first | refine ixT (by assumption) rfl ?_ | refine ixL (by assumption) rfl ?_ | refine lenT (by assumption) rfl ?_ | refine lenL (by assumption) rfl ?_ | refine isi (.base (.int _)) kit_int_int ?_ | refine isi (.base (.int _)) kit_int_str ?_ | refine isi (.base (.int _)) kit_int_bool ?_ | refine isi (.base (.int _)) kit_int_tuple ?_ | refine isi (.base (.int _)) kit_int_list ?_ | refine isi (.base (.str _)) kit_str_int ?_ | refine isi (.base (.str _)) kit_str_str ?_ | refine isi (.base (.str _)) kit_str_bool ?_ | refine isi (.base (.str _)) kit_str_tuple ?_ | refine isi (.base (.str _)) kit_str_list ?_ | refine isi (.base (.bl _)) kit_bool_int ?_ | refine isi (.base (.bl _)) kit_bool_str ?_ | refine isi (.base (.bl _)) kit_bool_bool ?_ | refine isi (.base (.bl _)) kit_bool_tuple ?_ | refine isi (.base (.bl _)) kit_bool_list ?_ | refine isi (.base (.tup (by assumption))) kit_tuple_int ?_ | refine isi (.base (.tup (by assumption))) kit_tuple_str ?_ | refine isi (.base (.tup (by assumption))) kit_tuple_bool ?_ | refine isi (.base (.tup (by assumption))) kit_tuple_tuple ?_ | refine isi (.base (.tup (by assumption))) kit_tuple_list ?_ | refine isi (.base (.lst (by assumption))) kit_list_int ?_ | refine isi (.base (.lst (by assumption))) kit_list_str ?_ | refine isi (.base (.lst (by assumption))) kit_list_bool ?_ | refine isi (.base (.lst (by assumption))) kit_list_tuple ?_ | refine isi (.base (.lst (by assumption))) kit_list_list ?_ | refine isi (.base (.non)) kit_NoneType_int ?_ | refine isi (.base (.non)) kit_NoneType_str ?_ | refine isi (.base (.non)) kit_NoneType_bool ?_ | refine isi (.base (.non)) kit_NoneType_tuple ?_ | refine isi (.base (.non)) kit_NoneType_list ?_)
local macro_rules | `(tactic| walk_at "g") => `(tactic| (repeat (walk_at "n"; walk_at "x")); walk_at "n")

-- Gr6
/-! ### parted, same_for_all; comprehensions whose items run defs -/
theorem lc_gx {H1 : Hp} {g : TG} {tt : TT} {te : TE} {σ : L2.St} {Q : VK} {vs : List Nat} {J : It} {n : Nat} {G : Hp → Prop} {Y : Nat → Hp → V → Hp → Prop} (w : Walk J n G Y) (Iv : Addr → Nat → List V → Hp → Prop) (hn : n ≤ 1000)
    (len : ∀ D i acc H, Iv D i acc H → acc.length ≤ i) (h0 : ∀ D, H1 D = none → Iv D 0 [] (upd H1 D (.lst []))) (hG : ∀ H, Gx H1 H → G H)
    (step : ∀ D i x H H' acc (k : VK) (kn : Hp → Prop), H1 D = none → i < n → Gx H1 H → H D = some (.lst acc) → Iv D i acc H → Y i H x H' → (∀ y H3, Gx H H3 → Iv D (i + 1) (acc ++ [y]) (upd H3 D (.lst (acc ++ [y]))) → k y H3) → (∀ H3, Gx H H3 → Iv D (i + 1) acc H3 → kn H3) →
      g x (wipe σ vs) H' fun σ2 H2 => wipe σ2 vs = wipe σ vs ∧ tt σ2 H2 fun b H3 => if b = true then te σ2 H3 k else kn H3)
    (fin : ∀ D ys H, H1 D = none → Gx H1 H → H D = some (.lst ys) → Iv D n ys H → Q (.ref D) H) : LcT J g tt te vs σ H1 Q := fun D hD => by
  refine lc_it w (fun i H => Gx H1 H ∧ ∃ acc, H D = some (.lst acc) ∧ Iv D i acc H) ⟨(Gx.refl H1).upd hD _, [], upd_same, h0 D hD⟩ (fun i H _ p => hG H p.1) ?_ ?_
  · rintro i x H H' hi ⟨gr, acc, hacc, hI⟩ y
    have hl := len D i acc H hI
    refine step D i x H H' acc _ _ hD hi gr hacc hI y (fun z H3 s1 i1 => ?_) fun H3 s1 i1 => ?_
    · exact ⟨acc, s1.lst hacc, by have := (by decide : 1000 < sizeLine); omega, (gr.trans s1).upd hD _, _, upd_same, i1⟩
    · exact ⟨gr.trans s1, acc, s1.lst hacc, i1⟩
  · rintro H ⟨gr, acc, hacc, hI⟩
    exact fin D acc H hD gr hacc hI
section
variable {P : Program} {w : World} {K : PySem.W.Frag} {mg : Str → Option Value} {fds : Str → FuncData} {base : Heap}
theorem fsD_get (t : Addr) : (fsD t).lookup ("deeds" : Str) = some (.ref t) := by simp [fsD, putF]
theorem DsAt.gx {H H' : Hp} {v : V} {ds : List De} (h : DsAt K H v ds) (g : Gx H H') : DsAt K H' v ds := by
  obtain ⟨x, dx, t, us, e, h1, h2, h3⟩ := h
  exact ⟨x, dx, t, us, e, g.ins h1, g.tup h2, h3.same g.tups⟩
abbrev s_parted : Stmt := top 30
abbrev N_parted : List Str := ["order", "one", "two"]
theorem sc_parted : FnScope N_parted ["order", "one", "two"] (defScope s_parted) := ⟨rfl, rfl, rfl, by decide +kernel, rfl, by decide +kernel, by decide +kernel⟩
def spPart (K : PySem.W.Frag) : Sp := fun vs H Q _ => ∃ (od : Od) (v w : V) (ds es : List De), vs = [.str od.s, v, w] ∧ DsAt K H v ds ∧ DsAt K H w es ∧ NdefX.TabsN (TbN K) H ∧
  ∀ H' v, Gx H H' → NdefX.TabsN (TbN K) H' → (v = .non ↔ Alk od ds es) → (v = .non ∨ ∃ a, v = .ref a) → Q v H'
theorem ok_parted (T : Txt K mg fds) (TC : TabsOk K mg base) : FnOk P w K mg base CX0 10 (He.ga K "parted") (fds "parted") ["order", "one", "two"] (spPart K) := by
  refine T.d_parted.fn.ok sc_parted (fun vs H Q E h => ?_) (fun cdv A outer s H vs Q E hr h => ?_)
  · obtain ⟨od, v, w, ds, es, rfl, _⟩ := h; rfl
  · obtain ⟨od, v, w, ds, es, rfl, ⟨x, dx, t, us, rfl, h1, h2, h3⟩, ⟨x', dx', t', us', rfl, h1', h2', h3'⟩, tb, k⟩ := h
    refine ⟨_, PSs.nox (pss_cons (ps_expr (pe_fn T.d_check_order (ok_check_order T) hr rfl (pa_cons (pv 0) pa_nil)))
      (pss_one (ps_ret (pe_fn T.d_parted_by (ok_parted_by T TC) hr rfl (pa_cons (pv 0) (pa_cons (pe_fld (pv 1) rfl) (pa_cons (pe_fld (pv 2) rfl) pa_nil))))))), ?_⟩
    rw [show L2.start N_parted [.str od.s, .ref x, .ref x'] = [some (.str od.s), some (.ref x), some (.ref x')] from rfl]
    walk_at "n"
    refine ⟨od, rfl, ?_⟩
    walk_at "n"
    refine fldG h1 T.k_Deeds T.n_deeds (fsD_get t) ?_
    walk_at "n"
    refine fldG h1' T.k_Deeds T.n_deeds (fsD_get t') ?_
    walk_at "n"
    exact ⟨od, t, t', us, us', ds, es, rfl, SqT.of h2, h3, SqT.of h2', h3', tb, k⟩
abbrev s_same_for_all : Stmt := top 31
abbrev N_same_for_all : List Str := ["order", "one", "two"]
theorem sc_same_for_all : FnScope N_same_for_all ["order", "one", "two"] (defScope s_same_for_all) := ⟨rfl, rfl, rfl, by decide +kernel, rfl, by decide +kernel, by decide +kernel⟩
def spSame (K : PySem.W.Frag) : Sp := fun vs H Q _ => ∃ (od : Od) (v w : V) (ds es : List De), vs = [.str od.s, v, w] ∧ DsAt K H v ds ∧ DsAt K H w es ∧ NdefX.TabsN (TbN K) H ∧ ∀ H' b, Gx H H' → NdefX.TabsN (TbN K) H' → (b = true ↔ Alk od ds es) → Q (.bl b) H'
theorem ok_same_for_all (T : Txt K mg fds) (TC : TabsOk K mg base) : FnOk P w K mg base CX0 11 (He.ga K "same_for_all") (fds "same_for_all") ["order", "one", "two"] (spSame K) := by
  refine T.d_same_for_all.fn.ok sc_same_for_all (fun vs H Q E h => ?_) (fun cdv A outer s H vs Q E hr h => ?_)
  · obtain ⟨od, v, w, ds, es, rfl, _⟩ := h; rfl
  · obtain ⟨od, v, w, ds, es, rfl, h1, h2, tb, k⟩ := h
    refine ⟨_, PSs.nox (pss_one (ps_ret (pe_cmpR op_isQ (pe_fn T.d_parted (ok_parted T TC) hr rfl (pa_cons (pv 0) (pa_cons (pv 1) (pa_cons (pv 2) pa_nil)))) pe_non (nomark _)))), ?_⟩
    rw [show L2.start N_same_for_all [.str od.s, v, w] = [some (.str od.s), some v, some w] from rfl]
    walk_at "n"
    refine ⟨od, v, w, ds, es, rfl, h1, h2, tb, fun H' u g tb' hiff hform => ?_⟩
    walk_at "n"
    refine k H' _ g tb' ?_
    rcases hform with q | ⟨a, q⟩
    · rw [← hiff, q]
      simp
    · rw [← hiff, q]
      simp
end

end Gr

namespace Gr
open PySem PySem.Spec PyProof.Rows L2
local macro_rules | `(tactic| walk_at "n") => `(tactic| try simp only [u_tVar, u_tC, u_tB, u_tTest, u_tAnd, u_tOr, u_tNot, u_tAndV, u_tOrV, u_tNotV, u_tIf, u_tNext, u_tSeq, u_tBreak, u_tCont, u_tDrop, u_tRet, u_tRetN, u_tIfS, u_tNever, u_gName, u_tAsg, u_tPar, u_gSub, u_tOp, u_tUn, u_tChain, u_tNil, u_tCons, u_tTup, u_tLst, u_tCB, u_tCall, u_tNoPart, u_tPart, u_tSl, u_tYes, u_iList', u_iTup', u_tLc, u_tDc, u_tFor, u_iRng1, u_iRng2, u_iEnum, u_iEnumT, u_iZip, u_iZip3, L2.wipe, u_sDPut', u_tDGet', u_tDNewK, u_tFld', u_sFld, u_gTup, u_gCons, u_gNil, u_tMeth, u_tCKw, u_tMake, u_tMethC, u_tNdefM, u_tCallL, u_tLstRg, v_rI0, v_rI, v_eqI, v_neI, v_eqS, v_neS, v_bl, v_int, v_ref, v_some, v_two, w_insert_tell, w_remove_tell, w_remove_insert, w_move_tell, w_move_insert, w_move_remove, w_copy_tell, w_copy_insert, w_copy_remove, w_copy_move, w_rows_table, w_columns_table, w_cells_table, w_rows_cells, w_columns_cells, w_columns_rows, w_cells_rows, w_cells_columns, w_rows_columns, w_table_cells, w_table_rows, w_table_columns, w_column_row, w_plain_like, w_like_plain, w_old_new, w_new_old, w_newest_nearest, w_nearest_newest, w_ink_ground, w_ink_face, w_ground_ink, w_ground_face, w_face_ink, w_face_ground, w_whole_lanes, w_whole_files, w_whole_spots, w_lanes_files, w_lanes_spots, w_files_spots, List.getElem?_cons_zero, List.getElem?_cons_succ, List.set_cons_zero, List.set_cons_succ, List.append_nil, Bool.not_true, Bool.not_false, eq_self, if_true, Bool.false_eq_true, if_false, decide_true, decide_false, v_max, v_min, v_intQ, v_isN, v_notN, reduceCtorEq, Nat.reduceAdd, Nat.zero_add, Int.cast_ofNat_Int, Int.reduceEq, Int.reduceLE, Int.reduceLT, Int.reduceAdd, List.cons_append, List.nil_append, List.map_cons, List.map_nil, Sc.vs, ov, De.vs, how, List.length_cons, List.length_nil])
local macro_rules | `(tactic| walk_at "x") => `(tactic| first | refine ixT (by assumption) rfl ?_ | refine ixL (by assumption) rfl ?_ | refine lenT (by assumption) rfl ?_ | refine lenL (by assumption) rfl ?_ | refine isi (.base (.int _)) kit_int_int ?_ | refine isi (.base (.int _)) kit_int_str ?_ | refine isi (.base (.int _)) kit_int_bool ?_ | refine isi (.base (.int _)) kit_int_tuple ?_ | refine isi (.base (.int _)) kit_int_list ?_ | refine isi (.base (.str _)) kit_str_int ?_ | refine isi (.base (.str _)) kit_str_str ?_ | refine isi (.base (.str _)) kit_str_bool ?_ | refine isi (.base (.str _)) kit_str_tuple ?_ | refine isi (.base (.str _)) kit_str_list ?_ | refine isi (.base (.bl _)) kit_bool_int ?_ | refine isi (.base (.bl _)) kit_bool_str ?_ | refine isi (.base (.bl _)) kit_bool_bool ?_ | refine isi (.base (.bl _)) kit_bool_tuple ?_ | refine isi (.base (.bl _)) kit_bool_list ?_ | refine isi (.base (.tup (by assumption))) kit_tuple_int ?_ | refine isi (.base (.tup (by assumption))) kit_tuple_str ?_ | refine isi (.base (.tup (by assumption))) kit_tuple_bool ?_ | refine isi (.base (.tup (by assumption))) kit_tuple_tuple ?_ | refine isi (.base (.tup (by assumption))) kit_tuple_list ?_ | refine isi (.base (.lst (by assumption))) kit_list_int ?_ | refine isi (.base (.lst (by assumption))) kit_list_str ?_ | refine isi (.base (.lst (by assumption))) kit_list_bool ?_ | refine isi (.base (.lst (by assumption))) kit_list_tuple ?_ | refine isi (.base (.lst (by assumption))) kit_list_list ?_ | refine isi (.base (.non)) kit_NoneType_int ?_ | refine isi (.base (.non)) kit_NoneType_str ?_ | refine isi (.base (.non)) kit_NoneType_bool ?_ | refine isi (.base (.non)) kit_NoneType_tuple ?_ | refine isi (.base (.non)) kit_NoneType_list ?_)
local macro_rules | `(tactic| walk_at "g") => `(tactic| (repeat (walk_at "n"; walk_at "x")); walk_at "n")

-- Gr6
/-! ### needless -/
theorem slA {K : PySem.W.Frag} {H : Hp} {Q : VK} {a : Addr} {xs : List V} {lo hi : Option Int} (h : SqT K H a xs) (q : ∀ H' p, Same H H' → SqT K H' p (cutV xs lo hi) → Q (.ref p) H') : rSlA K (.ref a) lo hi H Q := by
  refine ⟨a, xs, rfl, h, fun ⟨e1, e2⟩ => q H a (Same.refl H) ?_, fun _ p hp => q _ p (Same.upd _ hp) (SqT.of upd_same)⟩
  have e : cutV xs lo hi = xs := by
    unfold cutV
    rw [e1, e2, List.drop_zero, Nat.sub_zero, List.take_length]
  rw [e]
  exact h
theorem catA {K : PySem.W.Frag} {H : Hp} {Q : VK} {a b : Addr} {xs ys : List V} (h : SqT K H a xs) (h2 : SqT K H b ys) (n : xs.length + ys.length ≤ 1000) (q : ∀ H' p, Same H H' → SqT K H' p (xs ++ ys) → Q (.ref p) H') : rCatA K (.ref a) (.ref b) H Q := by
  refine ⟨a, b, xs, ys, rfl, rfl, h, h2, by have := (by decide : 1000 < sizeLine); omega, fun e => q H b (Same.refl H) ?_, fun _ e => q H a (Same.refl H) ?_, fun _ _ p hp => q _ p (Same.upd _ hp) (SqT.of upd_same)⟩
  · rw [e]
    exact h2
  · rw [e, List.append_nil]
    exact h
theorem sqt_same {K : PySem.W.Frag} {H H' : Hp} {a : Addr} {xs : List V} (h : SqT K H a xs) (g : Same H H') : SqT K H' a xs := sqt_gx h (Gx.of g)
/-- without the i-th -/
def without (ds : List De) (i : Nat) : List De := ds.take i ++ ds.drop (i + 1)
theorem dsv_without {H : Hp} {us : List V} {ds : List De} (h : DsV H us ds) (i : Nat) : DsV H (us.take i ++ us.drop (i + 1)) (without ds i) := by
  refine ⟨paired_app (paired_take h.1 _) (paired_drop h.1 _), fun d hd => ?_, ?_⟩
  · rcases List.mem_append.mp hd with z | z
    · exact h.2.1 d (List.mem_of_mem_take z)
    · exact h.2.1 d (List.mem_of_mem_drop z)
  · have := h.2.2
    unfold without
    rw [List.length_append, List.length_take, List.length_drop]
    omega
section
variable {P : Program} {w : World} {K : PySem.W.Frag} {mg : Str → Option Value} {fds : Str → FuncData} {base : Heap}
abbrev s_needless : Stmt := top 32
abbrev N_needless : List Str := ["order", "deeds", "rows", "at"]
theorem sc_needless : FnScope N_needless ["order", "deeds"] (defScope s_needless) := ⟨rfl, rfl, rfl, by decide +kernel, rfl, by decide +kernel, by decide +kernel⟩
def spNeedless (K : PySem.W.Frag) : Sp := fun vs H Q _ => ∃ (od : Od) (v : V) (ds : List De), vs = [.str od.s, v] ∧ DsAt K H v ds ∧ NdefX.TabsN (TbN K) H ∧ ∀ H' l (p : Nat → Bool), Gx H H' → NdefX.TabsN (TbN K) H' → H l = none → H' l = some (.lst (((List.range ds.length).filter p).map fun i => V.int ((i : Nat) : Int))) → (∀ i, p i = true ↔ Alk od ds (without ds i)) → Q (.ref l) H'
theorem ok_needless (T : Txt K mg fds) (TC : TabsOk K mg base) : FnOk P w K mg base CX0 10 (He.ga K "needless") (fds "needless") ["order", "deeds"] (spNeedless K) := by
  refine T.d_needless.fn.ok sc_needless (fun vs H Q E h => ?_) (fun cdv A outer s H vs Q E hr h => ?_)
  · obtain ⟨od, v, ds, rfl, _⟩ := h; rfl
  · obtain ⟨od, v, ds, rfl, ⟨x, dx, t, us, rfl, h1, h2, h3⟩, tb, k⟩ := h
    have nd := sc_needless.nd
    refine ⟨_, PSs.nox (pss_cons (ps_expr (pe_fn T.d_check_order (ok_check_order T) hr rfl (pa_cons (pv 0) pa_nil)))
      (pss_cons (ps_set (i := 2) nd rfl (by first | exact Or.inl rfl | exact Or.inr rfl) (pe_fld (pv 1) rfl))
      (pss_one (ps_ret (pe_lc (own := [("at", 3)]) rfl nd (pi_range1 (by rfl) T.g_range (pa_cons (pe_callB call_lenQ (by rfl) T.g_len (by decide +kernel) (pa_cons (pv 2) pa_nil)) pa_nil)) (blkOk_by (N := N_needless) (sc := (defScope s_needless)) (by decide +kernel)) (fun _ _ _ _ _ => (pg_name (i := 3) nd rfl (by first | exact Or.inl rfl | exact Or.inr rfl))) (fun _ _ _ _ _ => pts_one (pt_cmpR op_isQ (pe_fn T.d_parted_by (ok_parted_by T TC) hr rfl (pa_cons (pv 0) (pa_cons (pv 2) (pa_cons (pe_op (op_catAK (K := K) rfl) (pe_slice (sl_tupAK (K := K) rfl) (pv 2) po_none (po_some (pv 3))) (pe_slice (sl_tupAK (K := K) rfl) (pv 2) (po_some (pe_op op_add (pv 3) pe_int)) po_none)) pa_nil)))) pe_non (nomark _))) (fun _ _ _ _ _ => (pv 3))))))), ?_⟩
    rw [show L2.start N_needless [.str od.s, .ref x] = [some (.str od.s), some (.ref x), none, none] from rfl]
    walk_at "n"
    refine ⟨od, rfl, ?_⟩
    walk_at "n"
    refine fldG h1 T.k_Deeds T.n_deeds (fsD_get t) ?_
    walk_at "n"
    have hul := h3.1.length
    have h6 := h3.2.2
    refine lenT h2 rfl ?_
    refine rg1 (by omega) (by omega) ?_
    rw [Int.toNat_natCast, hul]
    obtain ⟨p, hpp⟩ : ∃ p : Nat → Bool, ∀ i, p i = true ↔ Alk od ds (without ds i) := ⟨fun i => @decide _ (Classical.propDecidable (Alk od ds (without ds i))), fun i => ⟨fun h => @of_decide_eq_true _ (Classical.propDecidable _) h, fun h => @decide_eq_true _ (Classical.propDecidable _) h⟩⟩
    refine lc_gx (n := ds.length) (G := fun _ => True) walk_range (fun D i acc H => acc = (((List.range i).filter p).map fun i => V.int ((i : Nat) : Int)) ∧ NdefX.TabsN (TbN K) H) (by omega) (fun D i acc H h => ?_) (fun D hD => ⟨rfl, tb.ext (Same.upd _ hD)⟩) (fun _ _ => trivial) (fun D i v H2 H3 acc k1 k2 hD hi gr hacc hI y hk1 hk2 => ?_) fun D ys H2 hD gr hys hI => ?_
    · rw [h.1, List.length_map]
      refine Nat.le_trans (List.length_filter_le _ _) ?_
      rw [List.length_range]
      exact Nat.le_refl _
    · obtain ⟨rfl, rfl⟩ := y
      obtain ⟨hI1, hI2⟩ := hI
      walk_at "n"
      rw [show (0 : Int) + (i : Int) = (i : Int) by omega]
      have ht3 : SqT K H3 t us := sqt_gx (SqT.of h2) gr
      have hd3 : DsV H3 us ds := h3.same gr.tups
      refine ⟨trivial, slA ht3 fun H4 p4 s4 q4 => ?_⟩
      rw [show (i : Int) + 1 = ((i + 1 : Nat) : Int) by omega]
      refine slA (sqt_same ht3 s4) fun H5 p5 s5 q5 => ?_
      rw [cutV_to] at q4
      rw [cutV_from] at q5
      refine catA (sqt_same q4 s5) q5 (by rw [List.length_take, List.length_drop]; omega) fun H6 p6 s6 q6 => ?_
      have s36 := (s4.trans s5).trans s6
      have hd6 := hd3.same (TupS.of s36)
      refine ⟨od, t, p6, us, _, ds, without ds i, rfl, sqt_same ht3 s36, hd6, q6, dsv_without hd6 i, hI2.ext s36, fun H7 u g7 tb7 hiff hform => ?_⟩
      have g := (Gx.of s36).trans g7
      rw [List.range_succ, List.filter_append, List.map_append] at hk1 hk2
      cases hp1 : p i with
      | true =>
        rw [hiff.mpr ((hpp i).mp hp1)]
        walk_at "n"
        refine hk1 _ _ g ⟨by simp [hp1, hI1], tabs_upd tb7 (fun ps z => ?_) fun φ z => ?_⟩
        · rw [g.lst hacc] at z
          cases z
        · rw [g.lst hacc] at z
          cases z
      | false =>
        have hn : ¬ Alk od ds (without ds i) := fun z => by
          rw [(hpp i).mpr z] at hp1
          cases hp1
        rcases hform with e | ⟨a, e⟩
        · exact absurd (hiff.mp e) hn
        · rw [e]
          walk_at "n"
          exact hk2 _ g ⟨by simp [hp1, hI1], tb7⟩
    · rw [hI.1] at hys
      exact k H2 D p gr hI.2 hD hys hpp
end

end Gr

namespace Gr
open PySem PySem.Spec PyProof.Rows L2
local macro_rules | `(tactic| walk_at "n") => `(tactic| try simp only [u_tVar, u_tC, u_tB, u_tTest, u_tAnd, u_tOr, u_tNot, u_tAndV, u_tOrV, u_tNotV, u_tIf, u_tNext, u_tSeq, u_tBreak, u_tCont, u_tDrop, u_tRet, u_tRetN, u_tIfS, u_tNever, u_gName, u_tAsg, u_tPar, u_gSub, u_tOp, u_tUn, u_tChain, u_tNil, u_tCons, u_tTup, u_tLst, u_tCB, u_tCall, u_tNoPart, u_tPart, u_tSl, u_tYes, u_iList', u_iTup', u_tLc, u_tDc, u_tFor, u_iRng1, u_iRng2, u_iEnum, u_iEnumT, u_iZip, u_iZip3, L2.wipe, u_sDPut', u_tDGet', u_tDNewK, u_tFld', u_sFld, u_gTup, u_gCons, u_gNil, u_tMeth, u_tCKw, u_tMake, u_tMethC, u_tNdefM, u_tCallL, u_tLstRg, v_rI0, v_rI, v_eqI, v_neI, v_eqS, v_neS, v_bl, v_int, v_ref, v_some, v_two, w_insert_tell, w_remove_tell, w_remove_insert, w_move_tell, w_move_insert, w_move_remove, w_copy_tell, w_copy_insert, w_copy_remove, w_copy_move, w_rows_table, w_columns_table, w_cells_table, w_rows_cells, w_columns_cells, w_columns_rows, w_cells_rows, w_cells_columns, w_rows_columns, w_table_cells, w_table_rows, w_table_columns, w_column_row, w_plain_like, w_like_plain, w_old_new, w_new_old, w_newest_nearest, w_nearest_newest, w_ink_ground, w_ink_face, w_ground_ink, w_ground_face, w_face_ink, w_face_ground, w_whole_lanes, w_whole_files, w_whole_spots, w_lanes_files, w_lanes_spots, w_files_spots, List.getElem?_cons_zero, List.getElem?_cons_succ, List.set_cons_zero, List.set_cons_succ, List.append_nil, Bool.not_true, Bool.not_false, eq_self, if_true, Bool.false_eq_true, if_false, decide_true, decide_false, v_max, v_min, v_intQ, v_isN, v_notN, reduceCtorEq, Nat.reduceAdd, Nat.zero_add, Int.cast_ofNat_Int, Int.reduceEq, Int.reduceLE, Int.reduceLT, Int.reduceAdd, List.cons_append, List.nil_append, List.map_cons, List.map_nil, Sc.vs, ov, De.vs, how, List.length_cons, List.length_nil])
local macro_rules | `(tactic| walk_at "x") => `(tactic| first | refine ixT (by assumption) rfl ?_ | refine ixL (by assumption) rfl ?_ | refine lenT (by assumption) rfl ?_ | refine lenL (by assumption) rfl ?_ | refine isi (.base (.int _)) kit_int_int ?_ | refine isi (.base (.int _)) kit_int_str ?_ | refine isi (.base (.int _)) kit_int_bool ?_ | refine isi (.base (.int _)) kit_int_tuple ?_ | refine isi (.base (.int _)) kit_int_list ?_ | refine isi (.base (.str _)) kit_str_int ?_ | refine isi (.base (.str _)) kit_str_str ?_ | refine isi (.base (.str _)) kit_str_bool ?_ | refine isi (.base (.str _)) kit_str_tuple ?_ | refine isi (.base (.str _)) kit_str_list ?_ | refine isi (.base (.bl _)) kit_bool_int ?_ | refine isi (.base (.bl _)) kit_bool_str ?_ | refine isi (.base (.bl _)) kit_bool_bool ?_ | refine isi (.base (.bl _)) kit_bool_tuple ?_ | refine isi (.base (.bl _)) kit_bool_list ?_ | refine isi (.base (.tup (by assumption))) kit_tuple_int ?_ | refine isi (.base (.tup (by assumption))) kit_tuple_str ?_ | refine isi (.base (.tup (by assumption))) kit_tuple_bool ?_ | refine isi (.base (.tup (by assumption))) kit_tuple_tuple ?_ | refine isi (.base (.tup (by assumption))) kit_tuple_list ?_ | refine isi (.base (.lst (by assumption))) kit_list_int ?_ | refine isi (.base (.lst (by assumption))) kit_list_str ?_ | refine isi (.base (.lst (by assumption))) kit_list_bool ?_ | refine isi (.base (.lst (by assumption))) kit_list_tuple ?_ | refine isi (.base (.lst (by assumption))) kit_list_list ?_ | refine isi (.base (.non)) kit_NoneType_int ?_ | refine isi (.base (.non)) kit_NoneType_str ?_ | refine isi (.base (.non)) kit_NoneType_bool ?_ | refine isi (.base (.non)) kit_NoneType_tuple ?_ | refine isi (.base (.non)) kit_NoneType_list ?_)
local macro_rules | `(tactic| walk_at "g") => `(tactic| (repeat (walk_at "n"; walk_at "x")); walk_at "n")

-- Gr6
/-! ### swaps -/
def swapD (ds : List De) (i : Nat) : List De := match ds[i + 1]?, ds[i]? with
  | some a, some b => ds.take i ++ [a, b] ++ ds.drop (i + 2)
  | _, _ => ds
theorem dsv_swap {H : Hp} {us : List V} {ds : List De} (h : DsV H us ds) {i : Nat} {x y : V} (hx : us[i + 1]? = some x) (hy : us[i]? = some y) : DsV H (us.take i ++ [x, y] ++ us.drop (i + 2)) (swapD ds i) := by
  obtain ⟨a, ha, pa⟩ := paired_get h.1 hx
  obtain ⟨b, hb, pb⟩ := paired_get h.1 hy
  have e : swapD ds i = ds.take i ++ [a, b] ++ ds.drop (i + 2) := by
    unfold swapD
    rw [ha, hb]
  rw [e]
  refine ⟨paired_app (paired_app (paired_take h.1 _) (.cons pa (.cons pb .nil))) (paired_drop h.1 _), fun d hd => ?_, ?_⟩
  · rcases List.mem_append.mp hd with z | z
    · rcases List.mem_append.mp z with z | z
      · exact h.2.1 d (List.mem_of_mem_take z)
      · rcases List.mem_cons.mp z with q | q
        · rw [q]
          exact h.2.1 a (List.mem_of_getElem? ha)
        · rw [List.mem_singleton.mp q]
          exact h.2.1 b (List.mem_of_getElem? hb)
    · exact h.2.1 d (List.mem_of_mem_drop z)
  · have := h.2.2
    have hl := (List.getElem?_eq_some_iff.mp ha).1
    rw [List.length_append, List.length_append, List.length_take, List.length_drop]
    simp only [List.length_cons, List.length_nil]
    omega
section
variable {P : Program} {w : World} {K : PySem.W.Frag} {mg : Str → Option Value} {fds : Str → FuncData} {base : Heap}
abbrev s_swaps : Stmt := top 33
abbrev N_swaps : List Str := ["order", "deeds", "rows", "found", "at", "other"]
theorem sc_swaps : FnScope N_swaps ["order", "deeds"] (defScope s_swaps) := ⟨rfl, rfl, rfl, by decide +kernel, rfl, by decide +kernel, by decide +kernel⟩
def spSwaps (K : PySem.W.Frag) : Sp := fun vs H Q _ => ∃ (od : Od) (v : V) (ds : List De), vs = [.str od.s, v] ∧ DsAt K H v ds ∧ NdefX.TabsN (TbN K) H ∧ ∀ H' l (p : Nat → Bool), Gx H H' → NdefX.TabsN (TbN K) H' → H l = none → H' l = some (.lst (((List.range (ds.length - 1)).filter p).map fun i => V.int ((i : Nat) : Int))) → (∀ i, p i = true ↔ Alk od ds (swapD ds i)) → Q (.ref l) H'
theorem ok_swaps (T : Txt K mg fds) (TC : TabsOk K mg base) : FnOk P w K mg base CX0 10 (He.ga K "swaps") (fds "swaps") ["order", "deeds"] (spSwaps K) := by
  refine T.d_swaps.fn.ok sc_swaps (fun vs H Q E h => ?_) (fun cdv A outer s H vs Q E hr h => ?_)
  · obtain ⟨od, v, ds, rfl, _⟩ := h; rfl
  · obtain ⟨od, v, ds, rfl, ⟨x, dx, t, us, rfl, h1, h2, h3⟩, tb, k⟩ := h
    have nd := sc_swaps.nd
    refine ⟨_, PSs.nox (pss_cons (ps_expr (pe_fn T.d_check_order (ok_check_order T) hr rfl (pa_cons (pv 0) pa_nil)))
      (pss_cons (ps_set (i := 2) nd rfl (by first | exact Or.inl rfl | exact Or.inr rfl) (pe_fld (pv 1) rfl))
      (pss_cons (ps_set (i := 3) nd rfl (by first | exact Or.inl rfl | exact Or.inr rfl) (pe_lst pa_nil))
      (pss_cons (ps_for PassesOwn.never rfl (pi_range1 (by rfl) T.g_range (pa_cons (pe_op op_sub (pe_callB call_lenQ (by rfl) T.g_len (by decide +kernel) (pa_cons (pv 2) pa_nil)) pe_int) pa_nil)) (pg_name (i := 4) nd rfl (by first | exact Or.inl rfl | exact Or.inr rfl))
        (pss_cons (ps_set (i := 5) nd rfl (by first | exact Or.inl rfl | exact Or.inr rfl) (pe_op op_catA (pe_op op_catA (pe_slice sl_tupA (pv 2) po_none (po_some (pv 4))) (pe_tup (pa_cons (pe_ix ix_tup (pv 2) (pe_op op_add (pv 4) pe_int) (fun _ _ => rfl)) (pa_cons (pe_ix ix_tup (pv 2) (pv 4) (fun _ _ => rfl)) pa_nil)))) (pe_slice sl_tupA (pv 2) (po_some (pe_op op_add (pv 4) pe_int)) po_none)))
        (pss_one (ps_if (pt_cmpR op_isQ (pe_fn T.d_parted_by (ok_parted_by T TC) hr rfl (pa_cons (pv 0) (pa_cons (pv 2) (pa_cons (pv 5) pa_nil)))) pe_non (nomark _))
          (pss_one (ps_expr (pe_bm PySem.F.plainAttrs_list PySem.F.slot_list_append PySem.F.type_list_append mt_append (pv 3) (pa_cons (pv 4) pa_nil))))
          pss_nil))))
      (pss_one (ps_ret (pv 3))))))), ?_⟩
    rw [show L2.start N_swaps [.str od.s, .ref x] = [some (.str od.s), some (.ref x), none, none, none, none] from rfl]
    walk_at "n"
    refine ⟨od, rfl, ?_⟩
    walk_at "n"
    refine fldG h1 T.k_Deeds T.n_deeds (fsD_get t) ?_
    walk_at "n"
    have hul := h3.1.length
    have h6 := h3.2.2
    refine ⟨by decide, fun fD hfD => ?_⟩
    have s0 := Same.upd (.lst []) hfD
    refine lenT (s0 _ _ h2) rfl ?_
    walk_at "n"
    refine ⟨_, rfl, by omega, by omega, ?_⟩
    rw [show ((us.length : Int) - 1).toNat = ds.length - 1 by omega]
    obtain ⟨p, hpp⟩ : ∃ p : Nat → Bool, ∀ i, p i = true ↔ Alk od ds (swapD ds i) := ⟨fun i => @decide _ (Classical.propDecidable (Alk od ds (swapD ds i))), fun i => ⟨fun h => @of_decide_eq_true _ (Classical.propDecidable _) h, fun h => @decide_eq_true _ (Classical.propDecidable _) h⟩⟩
    refine forW (n := ds.length - 1) (G := fun _ => True) walk_range (fun i σ HH => ∃ k4 k5 : Option V, σ = [some (.str od.s), some (.ref x), some (.ref t), some (.ref fD), k4, k5] ∧ Gx H HH ∧ NdefX.TabsN (TbN K) HH ∧ HH fD = some (.lst (((List.range i).filter p).map fun i => V.int ((i : Nat) : Int)))) ⟨none, none, rfl, Gx.of s0, tb.ext s0, upd_same⟩ (fun _ _ _ _ _ => trivial) ?_ ?_
    · rintro i v σ H2 H3 hi ⟨k4, k5, rfl, gr, tb3, hacc⟩ ⟨rfl, rfl⟩
      have ht3 : SqT K H3 t us := sqt_gx (SqT.of h2) gr
      have ht3' := gr.tup h2
      have hd3 : DsV H3 us ds := h3.same gr.tups
      obtain ⟨y1, hy1⟩ : ∃ y, us[i + 1]? = some y := ⟨_, List.getElem?_eq_getElem (by omega)⟩
      obtain ⟨y2, hy2⟩ : ∃ y, us[i]? = some y := ⟨_, List.getElem?_eq_getElem (by omega)⟩
      walk_at "n"
      rw [show (0 : Int) + (i : Int) = (i : Int) by omega]
      refine slA ht3 fun H4 p4 s4 q4 => ?_
      rw [show (i : Int) + 1 = ((i + 1 : Nat) : Int) by omega, show (i : Int) + 2 = ((i + 2 : Nat) : Int) by omega]
      refine ixT (s4 _ _ ht3') (atI_nat hy1) ?_
      refine ixT (s4 _ _ ht3') (atI_nat hy2) ?_
      refine ⟨by decide, fun p5 hp5 => ?_⟩
      have s5 := s4.trans (Same.upd (.tup [y1, y2]) hp5)
      rw [cutV_to] at q4
      refine catA (sqt_same q4 (Same.upd _ hp5)) (SqT.of upd_same) (by rw [List.length_take]; simp only [List.length_cons, List.length_nil]; omega) fun H6 p6 s6 q6 => ?_
      refine slA (sqt_same ht3 (s5.trans s6)) fun H7 p7 s7 q7 => ?_
      rw [cutV_from] at q7
      refine catA (sqt_same q6 s7) q7 (by rw [List.length_append, List.length_take, List.length_drop]; simp only [List.length_cons, List.length_nil]; omega) fun H8 p8 s8 q8 => ?_
      have s38 := ((s5.trans s6).trans s7).trans s8
      have hd8 := hd3.same (TupS.of s38)
      walk_at "n"
      refine ⟨od, t, p8, us, _, ds, swapD ds i, rfl, sqt_same ht3 s38, hd8, q8, dsv_swap hd8 hy1 hy2, tb3.ext s38, fun H9 u g9 tb9 hiff hform => ?_⟩
      have g := (Gx.of s38).trans g9
      have ha9 := g.lst hacc
      cases hp1 : p i with
      | true =>
        rw [hiff.mpr ((hpp i).mp hp1)]
        walk_at "n"
        refine ⟨V.ref fD, rfl, .inl ⟨rfl, _, SqL.of ha9⟩, ?_⟩
        walk_at "n"
        refine ⟨fD, _, _, rfl, rfl, ha9, ?_, ?_⟩
        · have := (by decide : 1000 < sizeLine)
          have h9 := List.length_filter_le p (List.range i)
          rw [List.length_range] at h9
          rw [List.length_map]
          omega
        · refine ⟨_, _, rfl, (gr.trans g).upd hfD _, tabs_upd tb9 (fun ps z => by rw [ha9] at z; cases z) (fun φ z => by rw [ha9] at z; cases z), ?_⟩
          rw [upd_same, List.range_succ, List.filter_append, List.map_append]
          simp [hp1]
      | false =>
        have hn : ¬ Alk od ds (swapD ds i) := fun z => by
          rw [(hpp i).mpr z] at hp1
          cases hp1
        rcases hform with e | ⟨a, e⟩
        · exact absurd (hiff.mp e) hn
        · rw [e]
          walk_at "n"
          refine ⟨_, _, rfl, gr.trans g, tb9, ?_⟩
          rw [ha9, List.range_succ, List.filter_append]
          simp [hp1]
    · rintro σ HH ⟨k4, k5, rfl, gr, tb3, hacc⟩
      walk_at "n"
      exact k HH fD p gr tb3 hfD hacc hpp
end

end Gr

namespace Gr
open PySem PySem.Spec PyProof.Rows L2
local macro_rules | `(tactic| walk_at "n") => `(tactic| try simp only [u_tVar, u_tC, u_tB, u_tTest, u_tAnd, u_tOr, u_tNot, u_tAndV, u_tOrV, u_tNotV, u_tIf, u_tNext, u_tSeq, u_tBreak, u_tCont, u_tDrop, u_tRet, u_tRetN, u_tIfS, u_tNever, u_gName, u_tAsg, u_tPar, u_gSub, u_tOp, u_tUn, u_tChain, u_tNil, u_tCons, u_tTup, u_tLst, u_tCB, u_tCall, u_tNoPart, u_tPart, u_tSl, u_tYes, u_iList', u_iTup', u_tLc, u_tDc, u_tFor, u_iRng1, u_iRng2, u_iEnum, u_iEnumT, u_iZip, u_iZip3, L2.wipe, u_sDPut', u_tDGet', u_tDNewK, u_tFld', u_sFld, u_gTup, u_gCons, u_gNil, u_tMeth, u_tCKw, u_tMake, u_tMethC, u_tNdefM, u_tCallL, u_tLstRg, v_rI0, v_rI, v_eqI, v_neI, v_eqS, v_neS, v_bl, v_int, v_ref, v_some, v_two, w_insert_tell, w_remove_tell, w_remove_insert, w_move_tell, w_move_insert, w_move_remove, w_copy_tell, w_copy_insert, w_copy_remove, w_copy_move, w_rows_table, w_columns_table, w_cells_table, w_rows_cells, w_columns_cells, w_columns_rows, w_cells_rows, w_cells_columns, w_rows_columns, w_table_cells, w_table_rows, w_table_columns, w_column_row, w_plain_like, w_like_plain, w_old_new, w_new_old, w_newest_nearest, w_nearest_newest, w_ink_ground, w_ink_face, w_ground_ink, w_ground_face, w_face_ink, w_face_ground, w_whole_lanes, w_whole_files, w_whole_spots, w_lanes_files, w_lanes_spots, w_files_spots, List.getElem?_cons_zero, List.getElem?_cons_succ, List.set_cons_zero, List.set_cons_succ, List.append_nil, Bool.not_true, Bool.not_false, eq_self, if_true, Bool.false_eq_true, if_false, decide_true, decide_false, v_max, v_min, v_intQ, v_isN, v_notN, reduceCtorEq, Nat.reduceAdd, Nat.zero_add, Int.cast_ofNat_Int, Int.reduceEq, Int.reduceLE, Int.reduceLT, Int.reduceAdd, List.cons_append, List.nil_append, List.map_cons, List.map_nil, Sc.vs, ov, De.vs, how, List.length_cons, List.length_nil])
local macro_rules | `(tactic| walk_at "x") => `(tactic| first | refine ixT (by assumption) rfl ?_ | refine ixL (by assumption) rfl ?_ | refine lenT (by assumption) rfl ?_ | refine lenL (by assumption) rfl ?_ | refine isi (.base (.int _)) kit_int_int ?_ | refine isi (.base (.int _)) kit_int_str ?_ | refine isi (.base (.int _)) kit_int_bool ?_ | refine isi (.base (.int _)) kit_int_tuple ?_ | refine isi (.base (.int _)) kit_int_list ?_ | refine isi (.base (.str _)) kit_str_int ?_ | refine isi (.base (.str _)) kit_str_str ?_ | refine isi (.base (.str _)) kit_str_bool ?_ | refine isi (.base (.str _)) kit_str_tuple ?_ | refine isi (.base (.str _)) kit_str_list ?_ | refine isi (.base (.bl _)) kit_bool_int ?_ | refine isi (.base (.bl _)) kit_bool_str ?_ | refine isi (.base (.bl _)) kit_bool_bool ?_ | refine isi (.base (.bl _)) kit_bool_tuple ?_ | refine isi (.base (.bl _)) kit_bool_list ?_ | refine isi (.base (.tup (by assumption))) kit_tuple_int ?_ | refine isi (.base (.tup (by assumption))) kit_tuple_str ?_ | refine isi (.base (.tup (by assumption))) kit_tuple_bool ?_ | refine isi (.base (.tup (by assumption))) kit_tuple_tuple ?_ | refine isi (.base (.tup (by assumption))) kit_tuple_list ?_ | refine isi (.base (.lst (by assumption))) kit_list_int ?_ | refine isi (.base (.lst (by assumption))) kit_list_str ?_ | refine isi (.base (.lst (by assumption))) kit_list_bool ?_ | refine isi (.base (.lst (by assumption))) kit_list_tuple ?_ | refine isi (.base (.lst (by assumption))) kit_list_list ?_ | refine isi (.base (.non)) kit_NoneType_int ?_ | refine isi (.base (.non)) kit_NoneType_str ?_ | refine isi (.base (.non)) kit_NoneType_bool ?_ | refine isi (.base (.non)) kit_NoneType_tuple ?_ | refine isi (.base (.non)) kit_NoneType_list ?_)
local macro_rules | `(tactic| walk_at "g") => `(tactic| (repeat (walk_at "n"; walk_at "x")); walk_at "n")

-- Gr6
/-! ### choices -/
def chs : Nat → List Nat → List (List Nat)
  | 0, _ => [[]]
  | m + 1, xs => (List.range xs.length).flatMap fun i => (chs m (xs.drop (i + 1))).map (xs.getD i 0 :: ·)
def nV (xs : List Nat) : List V := xs.map fun i => V.int ((i : Nat) : Int)
def TupN (K : PySem.W.Frag) (H : Hp) (v : V) (ns : List Nat) : Prop := ∃ a, v = .ref a ∧ SqT K H a (nV ns)
theorem TupN.same {K : PySem.W.Frag} {H H' : Hp} {v : V} {ns : List Nat} (h : TupN K H v ns) (g : Same H H') : TupN K H' v ns := by
  obtain ⟨a, e, q⟩ := h
  exact ⟨a, e, sqt_same q g⟩
theorem flat_len {β : Type} {f : Nat → List β} {b : Nat} : ∀ {is : List Nat}, (∀ i ∈ is, (f i).length ≤ b) → (is.flatMap f).length ≤ is.length * b
  | [], _ => by simp
  | i :: is, h => by
    have h1 := h i List.mem_cons_self
    have h2 := flat_len (b := b) fun j hj => h j (List.mem_cons_of_mem i hj)
    rw [List.flatMap_cons, List.length_append, List.length_cons, Nat.add_mul]
    omega
theorem chs_len : ∀ (m : Nat) (xs : List Nat), xs.length ≤ 6 → (chs m xs).length ≤ 6 ^ m
  | 0, _, _ => by simp [chs]
  | m + 1, xs, h => by
    rw [chs]
    refine Nat.le_trans (flat_len (b := 6 ^ m) fun i _ => ?_) ?_
    · rw [List.length_map]
      exact chs_len m _ (by rw [List.length_drop]; omega)
    · rw [List.length_range, Nat.pow_succ, Nat.mul_comm]
      exact Nat.mul_le_mul_left _ h
theorem chs_item : ∀ (m : Nat) (xs ns : List Nat), ns ∈ chs m xs → ns.length = m
  | 0, _, ns, h => by
    rw [chs] at h
    rw [List.mem_singleton.mp h]
    rfl
  | m + 1, xs, ns, h => by
    rw [chs] at h
    obtain ⟨i, _, hi⟩ := List.mem_flatMap.mp h
    obtain ⟨r, hr, rfl⟩ := List.mem_map.mp hi
    rw [List.length_cons, chs_item m _ r hr]
section
variable {P : Program} {w : World} {K : PySem.W.Frag} {mg : Str → Option Value} {fds : Str → FuncData} {base : Heap}
theorem ok_False {ps : List Str} {f : Addr} {fd : FuncData} {k : Nat} : FnOk P w K mg base CX0 k f fd ps (fun _ _ _ _ => False) := ⟨fun _ _ _ _ h => h.elim, fun _ _ _ _ _ _ _ _ _ _ _ _ _ h => h.elim⟩
def spChoices (K : PySem.W.Frag) (m : Nat) : Sp := fun vs H Q _ => ∃ (a : Addr) (xs : List Nat), vs = [.ref a, .int (m : Int)] ∧ H a = some (.lst (nV xs)) ∧ xs.length ≤ 6 ∧ ∀ H' l us, Same H H' → H l = none → H' l = some (.lst us) → Paired (TupN K H') us (chs m xs) → Q (.ref l) H'
abbrev s_choices : Stmt := top 34
abbrev N_choices : List Str := ["things", "many", "found", "at", "thing", "rest"]
theorem sc_choices : FnScope N_choices ["things", "many"] (defScope s_choices) := ⟨rfl, rfl, rfl, by decide +kernel, rfl, by decide +kernel, by decide +kernel⟩
theorem choices_step (T : Txt K mg fds) (k m : Nat) (sp : Sp) (F : FnOk P w K mg base CX0 k (He.ga K "choices") (fds "choices") ["things", "many"] sp) (hm : m ≤ 6) (hsp : ∀ n, m = n + 1 → sp = spChoices K n) : FnOk P w K mg base CX0 (k + 1) (He.ga K "choices") (fds "choices") ["things", "many"] (spChoices K m) := by
  refine T.d_choices.fn.ok sc_choices (fun vs H Q E h => ?_) (fun cdv A outer s H vs Q E hr h => ?_)
  · obtain ⟨a, xs, rfl, _⟩ := h; rfl
  · obtain ⟨a, xs, rfl, ha, hxs, kk⟩ := h
    have nd := sc_choices.nd
    refine ⟨_, PSs.nox (pss_cons (ps_if (pt_cmpR op_eq (pv 1) pe_int (nomark _))
        (pss_one (ps_ret (pe_lst (pa_cons (pe_tup pa_nil) pa_nil))))
        pss_nil)
      (pss_cons (ps_set (i := 2) nd rfl (by first | exact Or.inl rfl | exact Or.inr rfl) (pe_lst pa_nil))
      (pss_cons (ps_for PassesOwn.never rfl (pi_enum (by rfl) T.g_enumerate (pa_cons (pv 0) pa_nil)) (pg_tup rfl (pgs_cons (pg_name (i := 3) nd rfl (by first | exact Or.inl rfl | exact Or.inr rfl)) (pgs_cons (pg_name (i := 4) nd rfl (by first | exact Or.inl rfl | exact Or.inr rfl)) pgs_nil)))
        (pss_one (ps_for PassesOwn.never rfl (pi_list (pe_fn T.d_choices F hr rfl (pa_cons (pe_slice sl_list (pv 0) (po_some (pe_op op_add (pv 3) pe_int)) po_none) (pa_cons (pe_op op_sub (pv 1) pe_int) pa_nil)) (Nat.le_refl _))) (pg_name (i := 5) nd rfl (by first | exact Or.inl rfl | exact Or.inr rfl))
          (pss_one (ps_expr (pe_bm PySem.F.plainAttrs_list PySem.F.slot_list_append PySem.F.type_list_append mt_append (pv 2) (pa_cons (pe_op op_catA (pe_tup (pa_cons (pv 4) pa_nil)) (pv 5)) pa_nil)))))))
      (pss_one (ps_ret (pv 2)))))), ?_⟩
    rw [show L2.start N_choices [.ref a, .int (m : Int)] = [some (.ref a), some (.int (m : Int)), none, none, none, none] from rfl]
    walk_at "n"
    cases m with
    | zero =>
      rw [show decide (((0 : Nat) : Int) = 0) = true by decide]
      walk_at "n"
      exact ⟨by decide, fun p hp => ⟨by decide, fun q hq => kk _ q [.ref p] ((Same.upd _ hp).trans (Same.upd _ hq)) (Same.free (Same.upd _ hp) hq) upd_same (.cons ⟨p, rfl, SqT.of (Same.upd _ hq _ _ upd_same)⟩ .nil)⟩⟩
    | succ m =>
      rw [show decide (((m + 1 : Nat) : Int) = 0) = false from decide_eq_false (by omega)]
      walk_at "n"
      rw [hsp m rfl]
      refine ⟨by decide, fun fD hfD => ?_⟩
      have s0 := Same.upd (.lst []) hfD
      refine enL (s0 _ _ ha) ?_
      have wk := walk_enum (K := K) (a := a) (xs := nV xs)
      rw [show (nV xs).length = xs.length by simp [nV]] at wk
      refine forW (n := xs.length) wk (fun i σ HH => ∃ (k3 k4 k5 : Option V) (us : List V), σ = [some (.ref a), some (.int ((m + 1 : Nat) : Int)), some (.ref fD), k3, k4, k5] ∧ HH fD = some (.lst us) ∧ Paired (TupN K HH) us ((List.range i).flatMap fun i => (chs m (xs.drop (i + 1))).map (xs.getD i 0 :: ·)) ∧ Grow fD H HH) ⟨none, none, none, [], rfl, upd_same, .nil, Grow.upd _⟩ (fun i σ HH _ h => by
        obtain ⟨_, _, _, _, _, _, _, g⟩ := h
        exact SqL.of (g.same hfD _ _ ha)) ?_ ?_
      · rintro i v σ H2 H3 hi ⟨k3, k4, k5, us, rfl, hf, hp, g⟩ ⟨T1, x1, y1, rfl, hT, rfl, e1, e2⟩
        cases e1
        have e2 : (nV xs)[i]? = some y1 := e2
        have ey : y1 = .int ((xs.getD i 0 : Nat) : Int) := by
          unfold nV at e2
          rw [List.getElem?_map, List.getElem?_eq_getElem hi] at e2
          cases e2
          rw [List.getD_eq_getElem?_getD, List.getElem?_eq_getElem hi]
          rfl
        subst ey
        have s3 := Same.upd (.tup [.int (i : Nat), .int ((xs.getD i 0 : Nat) : Int)]) hT
        have g3 := g.trans (Grow.of s3)
        have ha3 := g3.same hfD _ _ ha
        have hf3 := s3 _ _ hf
        have hp3 := Paired.mapP hp fun _ _ z => z.same s3
        walk_at "n"
        refine tupG upd_same rfl ?_
        walk_at "n"
        rw [show (i : Int) + 1 = ((i + 1 : Nat) : Int) by omega]
        refine slL ha3 fun p1 hp1 => ?_
        rw [cutV_from, show (nV xs).drop (i + 1) = nV (xs.drop (i + 1)) by unfold nV; rw [List.map_drop]]
        have s4 := Same.upd (.lst (nV (xs.drop (i + 1)))) hp1
        walk_at "n"
        rw [show ((m + 1 : Nat) : Int) - 1 = (m : Int) by omega]
        refine ⟨p1, xs.drop (i + 1), rfl, upd_same, by rw [List.length_drop]; omega, fun H5 l5 us5 s5 n5 h5 p5 => ?_⟩
        have s35 := s4.trans s5
        walk_at "n"
        refine lsL h5 ?_
        have wk5 := walk_list (K := K) (a := l5) (xs := us5)
        have hul5 := p5.length
        have c5 := chs_len m (xs.drop (i + 1)) (by rw [List.length_drop]; omega)
        have lfD : l5 ≠ fD := fun z => by
          rw [z, s4 _ _ hf3] at n5
          cases n5
        generalize hpre : (List.range i).flatMap (fun i => (chs m (xs.drop (i + 1))).map (xs.getD i 0 :: ·)) = pre at hp3
        have prel : pre.length ≤ i * 6 ^ m := by
          rw [← hpre]
          refine Nat.le_trans (flat_len (b := 6 ^ m) fun j _ => ?_) (by rw [List.length_range]; exact Nat.le_refl _)
          rw [List.length_map]
          exact chs_len m _ (by rw [List.length_drop]; omega)
        have six : 6 ^ m ≤ 6 ^ 5 := Nat.pow_le_pow_right (by decide) (by omega)
        have im : i * 6 ^ m ≤ 6 * 6 ^ 5 := Nat.mul_le_mul (by omega) six
        have g5 := g3.trans (Grow.of s35)
        refine forW wk5 (fun j σ HH => ∃ (k5 : Option V) (fs : List V), σ = [some (.ref a), some (.int ((m + 1 : Nat) : Int)), some (.ref fD), some (.int (i : Nat)), some (.int ((xs.getD i 0 : Nat) : Int)), k5] ∧ HH fD = some (.lst fs) ∧ Paired (TupN K HH) fs (pre ++ ((chs m (xs.drop (i + 1))).take j).map (xs.getD i 0 :: ·)) ∧ Grow fD H5 HH) ?_ (fun j σ HH _ h => ?_) ?_ ?_
        · exact ⟨k5, us, rfl, s35 _ _ hf3, by rw [List.take_zero, List.map_nil, List.append_nil]; exact Paired.mapP hp3 fun _ _ z => z.same s35, Grow.refl _ _⟩
        · obtain ⟨_, _, _, _, _, g⟩ := h
          exact SqL.of (g _ _ lfD h5)
        · rintro j v σ H6 H7 hj ⟨k5', fs, rfl, hf6, hp6, g6⟩ ⟨rfl, hv⟩
          obtain ⟨ns, hns, b, rfl, hb⟩ := paired_get p5 hv
          have hb7 : SqT K H7 b (nV ns) := hb.elim (fun h => .inl (h.elim (fun h => .inl (g6 _ _ (fun z => by rw [z, s35 _ _ hf3] at h; cases h) h)) fun ⟨o, h⟩ => .inr ⟨o, g6 _ _ (fun z => by rw [z, s35 _ _ hf3] at h; cases h) h⟩)) fun h => .inr h
          have fl := hp6.length
          rw [List.length_append, List.length_map, List.length_take] at fl
          walk_at "n"
          refine ⟨V.ref fD, rfl, .inl ⟨rfl, fs, SqL.of hf6⟩, ?_⟩
          walk_at "n"
          refine ⟨by decide, fun p8 hp8 => ?_⟩
          have s8 := Same.upd (.tup [V.int ((xs.getD i 0 : Nat) : Int)]) hp8
          refine catA (SqT.of upd_same) (sqt_same hb7 s8) (by
            have := chs_item m _ _ (List.mem_of_getElem? hns)
            simp only [nV, List.length_map, List.length_cons, List.length_nil]
            omega) fun H9 p9 s9 q9 => ?_
          have s89 := s8.trans s9
          walk_at "n"
          have hf9 := s89 _ _ hf6
          refine ⟨fD, fs, _, rfl, rfl, hf9, by have := (by decide : 100000 < sizeLine); omega, ?_⟩
          have gu : Grow fD H7 (upd H9 fD (.lst (fs ++ [.ref p9]))) := (Grow.of s89).trans (Grow.upd _)
          have tn : ∀ {u : V} {l : List Nat}, TupN K H9 u l → TupN K (upd H9 fD (.lst (fs ++ [.ref p9]))) u l := fun ⟨c, e, h⟩ => ⟨c, e, h.elim (fun h => .inl (h.elim (fun h => .inl (by rw [upd_ne (ne_of h hf9 (by intro z; cases z))]; exact h)) fun ⟨o, h⟩ => .inr ⟨o, by rw [upd_ne (ne_of h hf9 (by intro z; cases z))]; exact h⟩)) fun h => .inr h⟩
          refine ⟨_, _, rfl, upd_same, ?_, g6.trans gu⟩
          rw [List.take_add_one, hns, List.map_append, ← List.append_assoc]
          exact paired_app (Paired.mapP hp6 fun _ _ z => tn (z.same s89)) (.cons (tn ⟨p9, rfl, q9⟩) .nil)
        · rintro σ HH ⟨k5', fs, rfl, hf6, hp6, g6⟩
          refine ⟨_, _, _, fs, rfl, hf6, ?_, g5.trans g6⟩
          rw [hul5, List.take_length] at hp6
          rw [List.range_succ, List.flatMap_append, hpre]
          simpa using hp6
      · rintro σ HH ⟨k3, k4, k5, us, rfl, hf, hp, g⟩
        walk_at "n"
        exact kk HH fD us (g.same hfD) hfD hf hp
theorem ok_choices (T : Txt K mg fds) : ∀ m, m ≤ 6 → FnOk P w K mg base CX0 (m + 1) (He.ga K "choices") (fds "choices") ["things", "many"] (spChoices K m)
  | 0, h => choices_step T 0 0 _ ok_False h fun n e => by omega
  | m + 1, h => choices_step T (m + 1) (m + 1) _ (ok_choices T m (by omega)) h fun n e => by
    have : m = n := by omega
    rw [this]
/-- for every number of things up to six -/
def spChoicesA (K : PySem.W.Frag) : Sp := fun vs H Q E => ∃ m, m ≤ 6 ∧ spChoices K m vs H Q E
theorem ok_choicesA (T : Txt K mg fds) : FnOk P w K mg base CX0 7 (He.ga K "choices") (fds "choices") ["things", "many"] (spChoicesA K) :=
  ⟨fun vs H Q E ⟨m, hm, h⟩ => (ok_choices (P := P) (w := w) (base := base) T m hm).len vs H Q E h, fun A outer s H args us vs Q E hr e0 hb hv ⟨m, hm, h⟩ => ((ok_choices T m hm).mono (by omega)).run A outer s H args us vs Q E hr e0 hb hv h⟩
end

end Gr

namespace Gr
open PySem PySem.Spec PyProof.Rows L2
local macro_rules | `(tactic| walk_at "n") => `(tactic| try simp only [u_tVar, u_tC, u_tB, u_tTest, u_tAnd, u_tOr, u_tNot, u_tAndV, u_tOrV, u_tNotV, u_tIf, u_tNext, u_tSeq, u_tBreak, u_tCont, u_tDrop, u_tRet, u_tRetN, u_tIfS, u_tNever, u_gName, u_tAsg, u_tPar, u_gSub, u_tOp, u_tUn, u_tChain, u_tNil, u_tCons, u_tTup, u_tLst, u_tCB, u_tCall, u_tNoPart, u_tPart, u_tSl, u_tYes, u_iList', u_iTup', u_tLc, u_tDc, u_tFor, u_iRng1, u_iRng2, u_iEnum, u_iEnumT, u_iZip, u_iZip3, L2.wipe, u_sDPut', u_tDGet', u_tDNewK, u_tFld', u_sFld, u_gTup, u_gCons, u_gNil, u_tMeth, u_tCKw, u_tMake, u_tMethC, u_tNdefM, u_tCallL, u_tLstRg, v_rI0, v_rI, v_eqI, v_neI, v_eqS, v_neS, v_bl, v_int, v_ref, v_some, v_two, w_insert_tell, w_remove_tell, w_remove_insert, w_move_tell, w_move_insert, w_move_remove, w_copy_tell, w_copy_insert, w_copy_remove, w_copy_move, w_rows_table, w_columns_table, w_cells_table, w_rows_cells, w_columns_cells, w_columns_rows, w_cells_rows, w_cells_columns, w_rows_columns, w_table_cells, w_table_rows, w_table_columns, w_column_row, w_plain_like, w_like_plain, w_old_new, w_new_old, w_newest_nearest, w_nearest_newest, w_ink_ground, w_ink_face, w_ground_ink, w_ground_face, w_face_ink, w_face_ground, w_whole_lanes, w_whole_files, w_whole_spots, w_lanes_files, w_lanes_spots, w_files_spots, List.getElem?_cons_zero, List.getElem?_cons_succ, List.set_cons_zero, List.set_cons_succ, List.append_nil, Bool.not_true, Bool.not_false, eq_self, if_true, Bool.false_eq_true, if_false, decide_true, decide_false, v_max, v_min, v_intQ, v_isN, v_notN, reduceCtorEq, Nat.reduceAdd, Nat.zero_add, Int.cast_ofNat_Int, Int.reduceEq, Int.reduceLE, Int.reduceLT, Int.reduceAdd, List.cons_append, List.nil_append, List.map_cons, List.map_nil, Sc.vs, ov, De.vs, how, List.length_cons, List.length_nil])
local macro_rules | `(tactic| walk_at "x") => `(tactic| first | refine ixT (by assumption) rfl ?_ | refine ixL (by assumption) rfl ?_ | refine lenT (by assumption) rfl ?_ | refine lenL (by assumption) rfl ?_ | refine isi (.base (.int _)) kit_int_int ?_ | refine isi (.base (.int _)) kit_int_str ?_ | refine isi (.base (.int _)) kit_int_bool ?_ | refine isi (.base (.int _)) kit_int_tuple ?_ | refine isi (.base (.int _)) kit_int_list ?_ | refine isi (.base (.str _)) kit_str_int ?_ | refine isi (.base (.str _)) kit_str_str ?_ | refine isi (.base (.str _)) kit_str_bool ?_ | refine isi (.base (.str _)) kit_str_tuple ?_ | refine isi (.base (.str _)) kit_str_list ?_ | refine isi (.base (.bl _)) kit_bool_int ?_ | refine isi (.base (.bl _)) kit_bool_str ?_ | refine isi (.base (.bl _)) kit_bool_bool ?_ | refine isi (.base (.bl _)) kit_bool_tuple ?_ | refine isi (.base (.bl _)) kit_bool_list ?_ | refine isi (.base (.tup (by assumption))) kit_tuple_int ?_ | refine isi (.base (.tup (by assumption))) kit_tuple_str ?_ | refine isi (.base (.tup (by assumption))) kit_tuple_bool ?_ | refine isi (.base (.tup (by assumption))) kit_tuple_tuple ?_ | refine isi (.base (.tup (by assumption))) kit_tuple_list ?_ | refine isi (.base (.lst (by assumption))) kit_list_int ?_ | refine isi (.base (.lst (by assumption))) kit_list_str ?_ | refine isi (.base (.lst (by assumption))) kit_list_bool ?_ | refine isi (.base (.lst (by assumption))) kit_list_tuple ?_ | refine isi (.base (.lst (by assumption))) kit_list_list ?_ | refine isi (.base (.non)) kit_NoneType_int ?_ | refine isi (.base (.non)) kit_NoneType_str ?_ | refine isi (.base (.non)) kit_NoneType_bool ?_ | refine isi (.base (.non)) kit_NoneType_tuple ?_ | refine isi (.base (.non)) kit_NoneType_list ?_)
local macro_rules | `(tactic| walk_at "g") => `(tactic| (repeat (walk_at "n"; walk_at "x")); walk_at "n")

-- Gr6
/-! ### cores -/
def pick (ds : List De) (ns : List Nat) : List De := ns.filterMap fun i => ds[i]?
def firstNE : List (List (List Nat)) → List (List Nat)
  | [] => []
  | x :: xs => if x.isEmpty = true then firstNE xs else x
def coresOf (p : List Nat → Bool) (n : Nat) : List (List Nat) := firstNE ((List.range (n + 1)).map fun m => (chs m (List.range n)).filter p)
theorem firstNE_at : ∀ {xss : List (List (List Nat))} {m : Nat} {x : List (List Nat)}, xss[m]? = some x → x ≠ [] → (∀ j y, j < m → xss[j]? = some y → y = []) → firstNE xss = x
  | [], _, _, h, _, _ => by cases h
  | a :: xss, 0, x, h, hx, _ => by
    cases h
    unfold firstNE
    rw [if_neg (by simpa using hx)]
  | a :: xss, m + 1, x, h, hx, hj => by
    have e := hj 0 a (by omega) rfl
    subst e
    unfold firstNE
    rw [if_pos (by rfl)]
    exact firstNE_at (by simpa using h) hx fun j y hjm hy => hj (j + 1) y (by omega) (by simpa using hy)
theorem firstNE_none : ∀ {xss : List (List (List Nat))}, (∀ x ∈ xss, x = []) → firstNE xss = []
  | [], _ => rfl
  | a :: xss, h => by
    have e := h a List.mem_cons_self
    subst e
    unfold firstNE
    rw [if_pos (by rfl)]
    exact firstNE_none fun x hx => h x (List.mem_cons_of_mem _ hx)
theorem cores_at {p : List Nat → Bool} {n m : Nat} (hm : m ≤ n) (hx : (chs m (List.range n)).filter p ≠ []) (hj : ∀ j, j < m → (chs j (List.range n)).filter p = []) : coresOf p n = (chs m (List.range n)).filter p := by
  refine firstNE_at (m := m) ?_ hx fun j y hjm hy => ?_
  · rw [List.getElem?_map, List.getElem?_range (by omega)]
    rfl
  · rw [List.getElem?_map, List.getElem?_range (by omega)] at hy
    cases hy
    exact hj j hjm
theorem cores_none {p : List Nat → Bool} {n : Nat} (hj : ∀ j, j < n + 1 → (chs j (List.range n)).filter p = []) : coresOf p n = [] := by
  refine firstNE_none fun x hx => ?_
  obtain ⟨j, h1, rfl⟩ := List.mem_map.mp hx
  exact hj j (List.mem_range.mp h1)
theorem chs_mem : ∀ (m : Nat) (xs ns : List Nat), ns ∈ chs m xs → ∀ n ∈ ns, n ∈ xs
  | 0, xs, ns, h, n, hn => by
    rw [chs] at h
    rw [List.mem_singleton.mp h] at hn
    cases hn
  | m + 1, xs, ns, h, n, hn => by
    rw [chs] at h
    obtain ⟨i, hi, h2⟩ := List.mem_flatMap.mp h
    obtain ⟨r, hr, rfl⟩ := List.mem_map.mp h2
    have hlt := List.mem_range.mp hi
    rcases List.mem_cons.mp hn with e | e
    · rw [e, List.getD_eq_getElem?_getD, List.getElem?_eq_getElem hlt]
      exact List.getElem_mem _
    · exact List.mem_of_mem_drop (chs_mem m _ r hr n e)
theorem pick_len {ds : List De} : ∀ {ns : List Nat}, (pick ds ns).length ≤ ns.length
  | ns => List.length_filterMap_le _ _
theorem pick_paired {F : V → De → Prop} {us : List V} {ds : List De} (h : Paired F us ds) : ∀ {ns : List Nat} {ys : List V}, ys.length = ns.length → (∀ (i : Nat) y, ys[i]? = some y → ∃ j, ns[i]? = some j ∧ us[j]? = some y) → Paired F ys (pick ds ns)
  | [], [], _, _ => .nil
  | [], _ :: _, hl, _ => by cases hl
  | _ :: _, [], hl, _ => by cases hl
  | n :: ns, y :: ys, hl, hr => by
    obtain ⟨j, e1, e2⟩ := hr 0 y rfl
    have e1 : n = j := by simpa using e1
    subst e1
    obtain ⟨d, hd, fd⟩ := paired_get h e2
    have e : pick ds (n :: ns) = d :: pick ds ns := by
      unfold pick
      rw [List.filterMap_cons, hd]
    rw [e]
    refine .cons fd (pick_paired h (by simpa using hl) fun i y hy => ?_)
    obtain ⟨j, q1, q2⟩ := hr (i + 1) y (by simpa using hy)
    exact ⟨j, by simpa using q1, q2⟩
theorem dsv_pick {H : Hp} {us : List V} {ds : List De} (h : DsV H us ds) {ns : List Nat} {ys : List V} (hn : ns.length ≤ 6) (hl : ys.length = ns.length) (hr : ∀ (i : Nat) y, ys[i]? = some y → ∃ j, ns[i]? = some j ∧ us[j]? = some y) : DsV H ys (pick ds ns) := by
  refine ⟨pick_paired h.1 hl hr, fun d hd => ?_, Nat.le_trans pick_len hn⟩
  obtain ⟨i, _, e⟩ := List.mem_filterMap.mp hd
  exact h.2.1 d (List.mem_of_getElem? e)
theorem TupN.gx {K : PySem.W.Frag} {H H' : Hp} {v : V} {ns : List Nat} (h : TupN K H v ns) (g : Gx H H') : TupN K H' v ns := by
  obtain ⟨a, e, q⟩ := h
  exact ⟨a, e, sqt_gx q g⟩
theorem sqt_app {K : PySem.W.Frag} {H : Hp} {a b : Addr} {xs ys zs : List V} (hb : H b = some (.lst ys)) (h : SqT K H a xs) : SqT K (upd H b (.lst zs)) a xs :=
  h.elim (fun h => .inl (h.elim (fun h => .inl (by rw [upd_ne (ne_of h hb (by intro z; cases z))]; exact h)) fun ⟨o, h⟩ => .inr ⟨o, by rw [upd_ne (ne_of h hb (by intro z; cases z))]; exact h⟩)) fun h => .inr h
theorem TupN.app {K : PySem.W.Frag} {H : Hp} {b : Addr} {ys zs : List V} {v : V} {ns : List Nat} (hb : H b = some (.lst ys)) (h : TupN K H v ns) : TupN K (upd H b (.lst zs)) v ns := by
  obtain ⟨a, e, q⟩ := h
  exact ⟨a, e, sqt_app hb q⟩
theorem tabs_app {Tb : List NdefX.NTab} {H : Hp} {b : Addr} {ys zs : List V} (hb : H b = some (.lst ys)) (h : NdefX.TabsN Tb H) : NdefX.TabsN Tb (upd H b (.lst zs)) := tabs_upd h (fun ps z => by rw [hb] at z; cases z) fun φ z => by rw [hb] at z; cases z
theorem class_dec {α : Type} (q : α → Prop) : ∃ p : α → Bool, ∀ i, p i = true ↔ q i := ⟨fun i => @decide _ (Classical.propDecidable (q i)), fun i => ⟨fun h => @of_decide_eq_true _ (Classical.propDecidable _) h, fun h => @decide_eq_true _ (Classical.propDecidable _) h⟩⟩
theorem chs_small {n m : Nat} (h : n ≤ 6) (hm : m ≤ 6) : (chs m (List.range n)).length ≤ 46656 := by
  refine Nat.le_trans (chs_len m _ (by rw [List.length_range]; exact h)) (Nat.le_trans (Nat.pow_le_pow_right (by decide) hm) (by decide))
section
variable {P : Program} {w : World} {K : PySem.W.Frag} {mg : Str → Option Value} {fds : Str → FuncData} {base : Heap}
abbrev s_cores : Stmt := top 35
abbrev N_cores : List Str := ["order", "deeds", "rows", "many", "found", "some", "at"]
theorem sc_cores : FnScope N_cores ["order", "deeds"] (defScope s_cores) := ⟨rfl, rfl, rfl, by decide +kernel, rfl, by decide +kernel, by decide +kernel⟩
def spCores (K : PySem.W.Frag) : Sp := fun vs H Q _ => ∃ (od : Od) (v : V) (ds : List De), vs = [.str od.s, v] ∧ DsAt K H v ds ∧ NdefX.TabsN (TbN K) H ∧ ∀ H' l us (p : List Nat → Bool), Gx H H' → NdefX.TabsN (TbN K) H' → H l = none → H' l = some (.lst us) → Paired (TupN K H') us (coresOf p ds.length) → (∀ ns, p ns = true ↔ Alk od ds (pick ds ns)) → Q (.ref l) H'
theorem ok_cores (T : Txt K mg fds) (TC : TabsOk K mg base) : FnOk P w K mg base CX0 10 (He.ga K "cores") (fds "cores") ["order", "deeds"] (spCores K) := by
  refine T.d_cores.fn.ok sc_cores (fun vs H Q E h => ?_) (fun cdv A outer s H vs Q E hr h => ?_)
  · obtain ⟨od, v, ds, rfl, _⟩ := h; rfl
  · obtain ⟨od, v, ds, rfl, ⟨x, dx, t, us, rfl, h1, h2, h3⟩, tb, k⟩ := h
    have nd := sc_cores.nd
    refine ⟨_, PSs.nox (pss_cons (ps_expr (pe_fn T.d_check_order (ok_check_order T) hr rfl (pa_cons (pv 0) pa_nil)))
      (pss_cons (ps_set (i := 2) nd rfl (by first | exact Or.inl rfl | exact Or.inr rfl) (pe_fld (pv 1) rfl))
      (pss_cons (ps_for PassesOwn.never rfl (pi_range1 (by rfl) T.g_range (pa_cons (pe_op op_add (pe_callB call_lenQ (by rfl) T.g_len (by decide +kernel) (pa_cons (pv 2) pa_nil)) pe_int) pa_nil)) (pg_name (i := 3) nd rfl (by first | exact Or.inl rfl | exact Or.inr rfl))
        (pss_cons (ps_set (i := 4) nd rfl (by first | exact Or.inl rfl | exact Or.inr rfl) (pe_lst pa_nil))
        (pss_cons (ps_for PassesOwn.never rfl (pi_list (pe_fn T.d_choices (ok_choicesA T) hr rfl (pa_cons (pe_listRg rfl (by rfl) T.g_list (prg_1 (by rfl) T.g_range (pe_callB call_lenQ (by rfl) T.g_len (by decide +kernel) (pa_cons (pv 2) pa_nil)))) (pa_cons (pv 3) pa_nil)))) (pg_name (i := 5) nd rfl (by first | exact Or.inl rfl | exact Or.inr rfl))
          (pss_one (ps_if (pt_cmpR op_isQ (pe_fn T.d_parted_by (ok_parted_by T TC) hr rfl (pa_cons (pv 0) (pa_cons (pv 2) (pa_cons (pe_callTy call_tupQ (by rfl) T.g_tuple (by decide +kernel) (pa_cons (pe_lc (own := [("at", 6)]) rfl nd (pi_tup (pv 5)) (blkOk_by (N := N_cores) (sc := (defScope s_cores)) (by decide +kernel)) (fun _ _ _ _ _ => (pg_name (i := 6) nd rfl (by first | exact Or.inl rfl | exact Or.inr rfl))) (fun _ _ _ _ _ => pts_nil) (fun _ _ _ _ _ => (pe_ix (ix_tupK (K := K) rfl) (pv 2) (pv 6) (fun _ _ => rfl)))) pa_nil)) pa_nil)))) pe_non (nomark _))
            (pss_one (ps_expr (pe_bm PySem.F.plainAttrs_list PySem.F.slot_list_append PySem.F.type_list_append mt_append (pv 4) (pa_cons (pv 5) pa_nil))))
            pss_nil)))
        (pss_one (ps_if (pt_truth (pv 4) (by intro _; rfl))
          (pss_one (ps_ret (pv 4)))
          pss_nil)))))
      (pss_one (ps_ret (pe_lst pa_nil)))))), ?_⟩
    rw [show L2.start N_cores [.str od.s, .ref x] = [some (.str od.s), some (.ref x), none, none, none, none, none] from rfl]
    walk_at "n"
    refine ⟨od, rfl, ?_⟩
    walk_at "n"
    refine fldG h1 T.k_Deeds T.n_deeds (fsD_get t) ?_
    walk_at "n"
    have hul := h3.1.length
    have h6 := h3.2.2
    refine lenT h2 rfl ?_
    walk_at "n"
    refine rg1 (by omega) (by omega) ?_
    rw [show ((us.length : Int) + 1).toNat = ds.length + 1 by omega]
    obtain ⟨p, hpp⟩ := class_dec fun ns => Alk od ds (pick ds ns)
    refine forW (n := ds.length + 1) (G := fun _ => True) walk_range (fun m σ HH => ∃ k3 k4 k5 k6 : Option V, σ = [some (.str od.s), some (.ref x), some (.ref t), k3, k4, k5, k6] ∧ Gx H HH ∧ NdefX.TabsN (TbN K) HH ∧ ∀ j, j < m → (chs j (List.range ds.length)).filter p = []) ⟨none, none, none, none, rfl, Gx.refl H, tb, fun j h => by omega⟩ (fun _ _ _ _ _ => trivial) ?_ ?_
    · rintro m v σ H2 H3 hm ⟨k3, k4, k5, k6, rfl, gr, tb3, hnone⟩ ⟨rfl, rfl⟩
      walk_at "n"
      rw [show (0 : Int) + (m : Int) = (m : Int) by omega]
      refine ⟨by decide, fun fD hfD => ?_⟩
      have s0 := Same.upd (.lst []) hfD
      have hfH := gr.mono _ hfD
      have g1 := gr.trans (Gx.of s0)
      have tb1 := tb3.ext s0
      have hf1 : upd H3 fD (.lst []) fD = some (.lst []) := upd_same
      generalize upd H3 fD (.lst []) = H4 at g1 tb1 hf1 s0 ⊢
      refine lenT (g1.tup h2) rfl ?_
      rw [show (us.length : Int) = ((ds.length : Nat) : Int) by omega]
      refine lsRg (by omega) fun q hq => ?_
      have s1 := Same.upd (.lst ((List.range ds.length).map fun i => V.int ((i : Nat) : Int))) hq
      walk_at "n"
      refine ⟨m, by omega, q, List.range ds.length, rfl, upd_same, by rw [List.length_range]; omega, fun H5 l5 us5 s5 n5 h5 p5 => ?_⟩
      have s15 := s1.trans s5
      have g5 := g1.trans (Gx.of s15)
      have tb5 := tb1.ext s15
      have hf5 := s15 _ _ hf1
      have hcl := chs_small (n := ds.length) (m := m) h6 (by omega)
      have hul5 := p5.length
      have lf : l5 ≠ fD := fun z => by
        rw [z, s1 _ _ hf1] at n5
        cases n5
      walk_at "n"
      refine lsL h5 ?_
      generalize hcs : chs m (List.range ds.length) = cs at p5 hcl hul5 ⊢
      refine forW (walk_list (K := K) (a := l5) (xs := us5)) (fun j σ HH => ∃ (k5 k6 : Option V) (fs : List V), σ = [some (.str od.s), some (.ref x), some (.ref t), some (.int (m : Int)), some (.ref fD), k5, k6] ∧ Gx H HH ∧ NdefX.TabsN (TbN K) HH ∧ HH l5 = some (.lst us5) ∧ Paired (TupN K HH) us5 cs ∧ HH fD = some (.lst fs) ∧ Paired (TupN K HH) fs ((cs.take j).filter p)) ⟨k5, k6, [], rfl, g5, tb5, h5, p5, hf5, by rw [List.take_zero]; exact .nil⟩ (fun j σ HH _ h => by
        obtain ⟨_, _, _, _, _, _, h, _⟩ := h
        exact SqL.of h) ?_ ?_
      · rintro j v σ H6 H7 hj ⟨k5', k6', fs, rfl, g6, tb6, h6', p6, hf6, pf6⟩ ⟨rfl, hv⟩
        obtain ⟨ns, hns, b, rfl, hb⟩ := paired_get p6 hv
        have hnm := List.mem_of_getElem? hns
        rw [← hcs] at hnm
        have hnl := chs_item m _ _ hnm
        have hnin := chs_mem m _ _ hnm
        have ht6 : SqT K H7 t us := sqt_gx (SqT.of h2) g6
        have hd6 := h3.same g6.tups
        walk_at "n"
        refine tpT hb ?_
        refine lc_map (n := ns.length) (G := fun HH => SqT K HH b (nV ns)) (by rw [show ns.length = (nV ns).length by simp [nV]]; exact walk_tup) (fun _ i y _ => ∃ j, ns[i]? = some j ∧ us[j]? = some y) (by omega) (fun _ _ _ _ _ _ _ _ r => r) (fun D HH hD g => sqt_same hb (g.same hD)) (fun D i y H8 H9 acc kk hD hi gg hacc yy hkk => ?_) (fun D ys H8 hD gg hys hlen hall => ?_)
        · obtain ⟨rfl, hy⟩ := yy
          have hi2 : ns[i]? = some ns[i] := List.getElem?_eq_getElem hi
          have hy2 : y = .int ((ns[i] : Nat) : Int) := by
            have hy : (nV ns)[i]? = some y := hy
            unfold nV at hy
            rw [List.getElem?_map, hi2] at hy
            cases hy
            rfl
          subst hy2
          have hlt : ns[i] < us.length := by
            have := List.mem_range.mp (hnin _ (List.getElem_mem hi))
            omega
          have hu := List.getElem?_eq_getElem hlt
          walk_at "n"
          refine ⟨trivial, ⟨t, us, _, _, rfl, rfl, sqt_same ht6 (gg.same hD), atI_nat hu, hkk _ _ (Same.refl _) ⟨_, hi2, hu⟩⟩⟩
        · have s8 := gg.same hD
          refine tupL hys fun p9 hp9 => ?_
          have s9 := s8.trans (Same.upd (.tup ys) hp9)
          have hd9 := hd6.same (TupS.of s9)
          walk_at "n"
          refine ⟨od, t, p9, us, ys, ds, pick ds ns, rfl, sqt_same ht6 s9, hd9, SqT.of upd_same, dsv_pick hd9 (by omega) hlen hall, tb6.ext s9, fun H10 u g10 tb10 hiff hform => ?_⟩
          have g := (Gx.of s9).trans g10
          have hf10 := g.lst hf6
          have fl := pf6.length
          have fl2 := List.length_filter_le p (cs.take j)
          rw [List.length_take] at fl2
          cases hp1 : p ns with
          | true =>
            rw [hiff.mpr ((hpp ns).mp hp1)]
            walk_at "n"
            refine ⟨V.ref fD, rfl, .inl ⟨rfl, _, SqL.of hf10⟩, ?_⟩
            walk_at "n"
            refine ⟨fD, _, _, rfl, rfl, hf10, by have := (by decide : 100000 < sizeLine); omega, ?_⟩
            refine ⟨_, _, _, rfl, (g6.trans g).upd hfH _, tabs_app hf10 tb10, ?_, ?_, upd_same, ?_⟩
            · rw [upd_ne lf]
              exact g.lst h6'
            · exact Paired.mapP p6 fun _ _ z => (z.gx g).app hf10
            · rw [List.take_add_one, hns, List.filter_append]
              refine paired_app (Paired.mapP pf6 fun _ _ z => (z.gx g).app hf10) ?_
              rw [show (Option.some ns).toList = [ns] from rfl, List.filter_cons_of_pos hp1]
              exact .cons ((TupN.gx (show TupN K H7 (.ref b) ns from ⟨b, rfl, hb⟩) g).app hf10) .nil
          | false =>
            have hn : ¬ Alk od ds (pick ds ns) := fun z => by
              rw [(hpp ns).mpr z] at hp1
              cases hp1
            rcases hform with e | ⟨a, e⟩
            · exact absurd (hiff.mp e) hn
            · rw [e]
              walk_at "n"
              refine ⟨_, _, _, rfl, g6.trans g, tb10, g.lst h6', Paired.mapP p6 fun _ _ z => z.gx g, hf10, ?_⟩
              rw [List.take_add_one, hns, List.filter_append, show (Option.some ns).toList = [ns] from rfl, List.filter_cons_of_neg (by simp [hp1])]
              simp only [List.filter_nil, List.append_nil]
              exact Paired.mapP pf6 fun _ _ z => z.gx g
      · rintro σ HH ⟨k5', k6', fs, rfl, g6, tb6, h6', p6, hf6, pf6⟩
        rw [hul5, List.take_length] at pf6
        walk_at "n"
        refine ⟨_, trL hf6, ?_⟩
        cases fs with
        | nil =>
          walk_at "n"
          refine ⟨_, _, _, _, rfl, g6, tb6, fun j hj => ?_⟩
          rcases Nat.lt_succ_iff_lt_or_eq.mp hj with e | e
          · exact hnone j e
          · rw [e, hcs]
            exact List.length_eq_zero_iff.mp pf6.length.symm
        | cons f fs =>
          rw [show (!(f :: fs).isEmpty) = true from rfl]
          walk_at "n"
          refine k HH fD _ p g6 tb6 hfH hf6 ?_ hpp
          rw [cores_at (m := m) (by omega) (fun z => ?_) hnone, hcs]
          · exact pf6
          · rw [hcs] at z
            rw [z] at pf6
            cases pf6
    · rintro σ HH ⟨k3, k4, k5, k6, rfl, gr, tb3, hnone⟩
      walk_at "n"
      refine ⟨by decide, fun q hq => ?_⟩
      refine k _ q [] p (gr.trans (Gx.of (Same.upd _ hq))) (tb3.ext (Same.upd _ hq)) (gr.mono _ hq) upd_same ?_ hpp
      rw [cores_none hnone]
      exact .nil
end

end Gr

namespace Gr
open PySem PySem.Spec PyProof.Rows L2
local macro_rules | `(tactic| walk_at "n") => `(tactic| try simp only [u_tVar, u_tC, u_tB, u_tTest, u_tAnd, u_tOr, u_tNot, u_tAndV, u_tOrV, u_tNotV, u_tIf, u_tNext, u_tSeq, u_tBreak, u_tCont, u_tDrop, u_tRet, u_tRetN, u_tIfS, u_tNever, u_gName, u_tAsg, u_tPar, u_gSub, u_tOp, u_tUn, u_tChain, u_tNil, u_tCons, u_tTup, u_tLst, u_tCB, u_tCall, u_tNoPart, u_tPart, u_tSl, u_tYes, u_iList', u_iTup', u_tLc, u_tDc, u_tFor, u_iRng1, u_iRng2, u_iEnum, u_iEnumT, u_iZip, u_iZip3, L2.wipe, u_sDPut', u_tDGet', u_tDNewK, u_tFld', u_sFld, u_gTup, u_gCons, u_gNil, u_tMeth, u_tCKw, u_tMake, u_tMethC, u_tNdefM, u_tCallL, u_tLstRg, v_rI0, v_rI, v_eqI, v_neI, v_eqS, v_neS, v_bl, v_int, v_ref, v_some, v_two, w_insert_tell, w_remove_tell, w_remove_insert, w_move_tell, w_move_insert, w_move_remove, w_copy_tell, w_copy_insert, w_copy_remove, w_copy_move, w_rows_table, w_columns_table, w_cells_table, w_rows_cells, w_columns_cells, w_columns_rows, w_cells_rows, w_cells_columns, w_rows_columns, w_table_cells, w_table_rows, w_table_columns, w_column_row, w_plain_like, w_like_plain, w_old_new, w_new_old, w_newest_nearest, w_nearest_newest, w_ink_ground, w_ink_face, w_ground_ink, w_ground_face, w_face_ink, w_face_ground, w_whole_lanes, w_whole_files, w_whole_spots, w_lanes_files, w_lanes_spots, w_files_spots, List.getElem?_cons_zero, List.getElem?_cons_succ, List.set_cons_zero, List.set_cons_succ, List.append_nil, Bool.not_true, Bool.not_false, eq_self, if_true, Bool.false_eq_true, if_false, decide_true, decide_false, v_max, v_min, v_intQ, v_isN, v_notN, reduceCtorEq, Nat.reduceAdd, Nat.zero_add, Int.cast_ofNat_Int, Int.reduceEq, Int.reduceLE, Int.reduceLT, Int.reduceAdd, List.cons_append, List.nil_append, List.map_cons, List.map_nil, Sc.vs, ov, De.vs, how, List.length_cons, List.length_nil])
local macro_rules | `(tactic| walk_at "x") => `(tactic| first | refine ixT (by assumption) rfl ?_ | refine ixL (by assumption) rfl ?_ | refine lenT (by assumption) rfl ?_ | refine lenL (by assumption) rfl ?_ | refine isi (.base (.int _)) kit_int_int ?_ | refine isi (.base (.int _)) kit_int_str ?_ | refine isi (.base (.int _)) kit_int_bool ?_ | refine isi (.base (.int _)) kit_int_tuple ?_ | refine isi (.base (.int _)) kit_int_list ?_ | refine isi (.base (.str _)) kit_str_int ?_ | refine isi (.base (.str _)) kit_str_str ?_ | refine isi (.base (.str _)) kit_str_bool ?_ | refine isi (.base (.str _)) kit_str_tuple ?_ | refine isi (.base (.str _)) kit_str_list ?_ | refine isi (.base (.bl _)) kit_bool_int ?_ | refine isi (.base (.bl _)) kit_bool_str ?_ | refine isi (.base (.bl _)) kit_bool_bool ?_ | refine isi (.base (.bl _)) kit_bool_tuple ?_ | refine isi (.base (.bl _)) kit_bool_list ?_ | refine isi (.base (.tup (by assumption))) kit_tuple_int ?_ | refine isi (.base (.tup (by assumption))) kit_tuple_str ?_ | refine isi (.base (.tup (by assumption))) kit_tuple_bool ?_ | refine isi (.base (.tup (by assumption))) kit_tuple_tuple ?_ | refine isi (.base (.tup (by assumption))) kit_tuple_list ?_ | refine isi (.base (.lst (by assumption))) kit_list_int ?_ | refine isi (.base (.lst (by assumption))) kit_list_str ?_ | refine isi (.base (.lst (by assumption))) kit_list_bool ?_ | refine isi (.base (.lst (by assumption))) kit_list_tuple ?_ | refine isi (.base (.lst (by assumption))) kit_list_list ?_ | refine isi (.base (.non)) kit_NoneType_int ?_ | refine isi (.base (.non)) kit_NoneType_str ?_ | refine isi (.base (.non)) kit_NoneType_bool ?_ | refine isi (.base (.non)) kit_NoneType_tuple ?_ | refine isi (.base (.non)) kit_NoneType_list ?_)
local macro_rules | `(tactic| walk_at "g") => `(tactic| (repeat (walk_at "n"; walk_at "x")); walk_at "n")

-- Gr6
/-! ### draws -/
/-- the state of the draws at L -/
def DrAt (H : Hp) (L : Addr) : Prop := ∃ (S : Addr) (ns : List Int) (i : Nat) (b st : Int), H L = some (.lst [.ref S, .int (i : Int), .int b, .int st]) ∧ H S = some (.lst (ns.map V.int)) ∧ i ≤ ns.length ∧ ns.length ≤ 1000 ∧ 0 ≤ b
theorem int_ne {ns : List Int} {S : Addr} {r : List V} (h : ns.map V.int = .ref S :: r) : False := by
  cases ns with
  | nil => cases h
  | cons a ns => cases h
theorem dr_ne {H : Hp} {L S : Addr} {ns : List Int} {r : List V} (h : H L = some (.lst (.ref S :: r))) (h2 : H S = some (.lst (ns.map V.int))) : S ≠ L := fun e => by
  rw [e, h] at h2
  exact int_ne (HO.lst.inj (Option.some.inj h2)).symm
theorem DrAt.same {H H' : Hp} {L : Addr} (h : DrAt H L) (e : Same H H') : DrAt H' L := by
  obtain ⟨S, ns, i, b, st, h1, h2, h3⟩ := h
  exact ⟨S, ns, i, b, st, e _ _ h1, e _ _ h2, h3⟩
theorem DrAt.gx {H H' : Hp} {L : Addr} (h : DrAt H L) (e : Gx H H') : DrAt H' L := by
  obtain ⟨S, ns, i, b, st, h1, h2, h3⟩ := h
  exact ⟨S, ns, i, b, st, e.lst h1, e.lst h2, h3⟩
theorem DrAt.lst {H : Hp} {L : Addr} (h : DrAt H L) : ∃ xs, H L = some (.lst xs) := by
  obtain ⟨S, ns, i, b, st, h1, _⟩ := h
  exact ⟨_, h1⟩
/-- all but L stays, and the first item of the list at L -/
structure Gd (L : Addr) (H H' : Hp) : Prop where
  gr : Grow L H H'
  mono : ∀ b, H' b = none → H b = none
  hd : ∀ x xs, H L = some (.lst (x :: xs)) → ∃ ys, H' L = some (.lst (x :: ys))
theorem Gd.refl (L : Addr) (H : Hp) : Gd L H H := ⟨Grow.refl L H, fun _ h => h, fun _ xs h => ⟨xs, h⟩⟩
theorem Gd.trans {L : Addr} {H H1 H2 : Hp} (a : Gd L H H1) (b : Gd L H1 H2) : Gd L H H2 := ⟨a.gr.trans b.gr, fun c h => a.mono c (b.mono c h), fun x xs h => by
  obtain ⟨ys, h⟩ := a.hd x xs h
  exact b.hd x ys h⟩
theorem Gd.of {L : Addr} {H H' : Hp} (e : Same H H') : Gd L H H' := ⟨Grow.of e, fun _ h => e.free h, fun _ xs h => ⟨xs, e _ _ h⟩⟩
theorem Gd.put {L : Addr} {H : Hp} {x : V} {xs ys : List V} (h : H L = some (.lst (x :: xs))) : Gd L H (upd H L (.lst (x :: ys))) := ⟨Grow.upd _, fun b e => by
  by_cases z : b = L
  · rw [z, upd_same] at e
    cases e
  · rw [upd_ne z] at e
    exact e, fun y zs e => by
  rw [h] at e
  cases e
  exact ⟨ys, upd_same⟩⟩
theorem Gd.tups {L : Addr} {H H' : Hp} (g : Gd L H H') (h : ∃ xs, H L = some (.lst xs)) : TupS H H' := fun b xs e => g.gr b _ (fun z => by
  obtain ⟨ys, h⟩ := h
  rw [z, h] at e
  cases e) e
theorem Gd.tabs {L : Addr} {H H' : Hp} {Tb : List NdefX.NTab} (g : Gd L H H') (h : ∃ xs, H L = some (.lst xs)) (t : NdefX.TabsN Tb H) : NdefX.TabsN Tb H' := fun p hp => by
  obtain ⟨ps, e1, e2, e3⟩ := t p hp
  obtain ⟨ys, h⟩ := h
  refine ⟨ps, g.gr _ _ (fun z => by rw [z, h] at e1; cases e1) e1, e2, fun pos cv hc => ?_⟩
  obtain ⟨c, q1, q2⟩ := e3 pos cv hc
  exact ⟨c, q1, g.gr _ _ (fun z => by rw [z, h] at q2; cases q2) q2⟩
theorem dr_put {H : Hp} {L S : Addr} {ns : List Int} {x : List V} {i : Nat} {b st : Int} (hL : H L = some (.lst x)) (h : H S = some (.lst (ns.map V.int))) (n : S ≠ L) (hi : i ≤ ns.length) (hz : ns.length ≤ 1000) (hb : 0 ≤ b) : DrAt (upd H L (.lst [.ref S, .int (i : Int), .int b, .int st])) L :=
  ⟨S, ns, i, b, st, upd_same, by rw [upd_ne n]; exact h, hi, hz, hb⟩
theorem upd_upd {H : Hp} {a : Addr} {o u : HO} : upd (upd H a o) a u = upd H a u := by
  funext b
  unfold upd
  split <;> rfl
section
variable {P : Program} {w : World} {K : PySem.W.Frag} {mg : Str → Option Value} {fds : Str → FuncData} {base : Heap}
abbrev s__law_draw : Stmt := top 46
abbrev N__law_draw : List Str := ["_law_draws", "_law_many", "_law_cell", "_law_found"]
theorem sc__law_draw : FnScope N__law_draw ["_law_draws", "_law_many"] (defScope s__law_draw) := ⟨rfl, rfl, rfl, by decide +kernel, rfl, by decide +kernel, by decide +kernel⟩
def spDraw : Sp := fun vs H Q _ => ∃ (L : Addr) (m : Nat), vs = [.ref L, .int (m : Int)] ∧ DrAt H L ∧ 1 ≤ m ∧ m ≤ 100 ∧ ∀ H' (n : Nat), Gd L H H' → DrAt H' L → n < m → Q (.int (n : Int)) H'
theorem mod_nat {x : Int} {m : Nat} (h : 1 ≤ m) : ∃ n : Nat, x % (m : Int) = (n : Int) ∧ n < m := by
  have h1 := Int.emod_nonneg x (show (m : Int) ≠ 0 by omega)
  have h2 := Int.emod_lt_of_pos x (show (0 : Int) < (m : Int) by omega)
  exact ⟨(x % (m : Int)).toNat, by omega, by omega⟩
theorem draw_tail {H H' : Hp} {Q : VK} {L S : Addr} {ns : List Int} {i m : Nat} {b st : Int} (g : Gd L H H') (hL : H' L = some (.lst [.ref S, .int (i : Int), .int b, .int st])) (hS : H' S = some (.lst (ns.map V.int))) (hi : i ≤ ns.length) (hz : ns.length ≤ 1000) (hb : 0 ≤ b) (hm1 : 1 ≤ m) (hm2 : m ≤ 100)
    (k : ∀ H' (n : Nat), Gd L H H' → DrAt H' L → n < m → Q (.int (n : Int)) H') :
    rIxL K (V.ref L) (V.int 2) H' fun x H1 => rI0 (fun i j => V.bl (decide (j < i))) x (V.int 0) H1 fun x H1 => ∃ c, x = V.bl c ∧ if c = true then
      rIxL K (V.ref L) (V.int 2) H1 fun x H1 => rIntQ [x] H1 fun x H1 => rI (fun x j => 0 < j) (fun i j => V.int (i % j)) x (V.int (m : Int)) H1 fun x H1 => rIxL K (V.ref L) (V.int 2) H1 fun x_5 H1 => rI CDiv (fun i j => V.int (i / j)) x_5 (V.int (m : Int)) H1 fun x_6 H1 => rSetL (V.ref L) (V.int 2) x_6 H1 fun H3 => Q x H3
      else rIxL K (V.ref L) (V.int 3) H1 fun x H1 => rI CMul (fun i j => V.int (i * j)) x (V.int 16807) H1 fun x H1 => rIntQ [x] H1 fun x H1 => rI (fun x j => 0 < j) (fun i j => V.int (i % j)) x (V.int 2147483629) H1 fun x H1 => rI (fun x j => 0 < j) (fun i j => V.int (i % j)) x (V.int (m : Int)) H1 Q := by
  have nS := dr_ne hL hS
  refine ixL hL rfl ?_
  walk_at "n"
  by_cases hp : 0 < b
  · rw [decide_eq_true hp]
    walk_at "n"
    refine ixL hL rfl ?_
    walk_at "n"
    refine ⟨by omega, ixL hL rfl ?_⟩
    walk_at "n"
    refine ⟨⟨by omega, by omega⟩, ?_⟩
    refine setL (i := 2) hL (by simp) ?_
    obtain ⟨n, e, hn⟩ := mod_nat (x := b) hm1
    rw [e]
    exact k _ n (g.trans (Gd.put hL)) (dr_put hL hS nS hi hz (Int.ediv_nonneg hb (by omega))) hn
  · rw [decide_eq_false hp]
    walk_at "n"
    refine ixL hL rfl ?_
    walk_at "n"
    refine ⟨.inr ⟨by decide, by decide⟩, by decide, by omega, ?_⟩
    obtain ⟨n, e, hn⟩ := mod_nat (x := st * 16807 % 2147483629) hm1
    rw [e]
    exact k _ n g ⟨S, ns, i, b, st, hL, hS, hi, hz, hb⟩ hn
theorem ok__law_draw (T : Txt K mg fds) : FnOk P w K mg base CX0 1 (He.ga K "_law_draw") (fds "_law_draw") ["_law_draws", "_law_many"] spDraw := by
  refine T.d__law_draw.fn.ok sc__law_draw (fun vs H Q E h => ?_) (fun cdv A outer s H vs Q E hr h => ?_)
  · obtain ⟨L, m, rfl, _⟩ := h; rfl
  · obtain ⟨L, m, rfl, ⟨S, ns, i, b, st, hL, hS, hi, hz, hb⟩, hm1, hm2, k⟩ := h
    have nd := sc__law_draw.nd
    refine ⟨_, PSs.nox (pss_cons (ps_if (pt_cmpR op_eq (pe_ix ix_list (pv 0) pe_int (fun _ _ => rfl)) pe_int (nomark _))
        (pss_one (ps_if (pt_cmpR op_lt (pe_ix ix_list (pv 0) pe_int (fun _ _ => rfl)) (pe_callB call_lenQ (by rfl) T.g_len (by decide +kernel) (pa_cons (pe_ix ix_list (pv 0) pe_int (fun _ _ => rfl)) pa_nil)) (nomark _))
          (pss_cons (ps_set (i := 2) nd rfl (by first | exact Or.inl rfl | exact Or.inr rfl) (pe_ix ix_list (pe_ix ix_list (pv 0) pe_int (fun _ _ => rfl)) (pe_ix ix_list (pv 0) pe_int (fun _ _ => rfl)) (fun _ _ => rfl)))
          (pss_cons (ps_asg (pe_op op_add (pe_ix ix_list (pv 0) pe_int (fun _ _ => rfl)) pe_int) (pg_sub (pv 0) pe_int set_list))
          (pss_one (ps_if (pt_cmpR op_ge (pv 2) (pe_op op_pow pe_int pe_int) (nomark _))
            (pss_one (ps_asg (pv 2) (pg_sub (pv 0) pe_int set_list)))
            (pss_one (ps_asg (pe_op op_mod (pe_callTy call_intQ (by rfl) T.g_int (by decide +kernel) (pa_cons (pe_op op_add (pe_op op_add (pe_op op_mul (pe_ix ix_list (pv 0) pe_int (fun _ _ => rfl)) pe_int) (pe_op op_mul (pv 2) pe_int)) pe_int) pa_nil)) pe_int) (pg_sub (pv 0) pe_int set_list)))))))
          (pss_one (ps_asg (pe_op op_mod (pe_callTy call_intQ (by rfl) T.g_int (by decide +kernel) (pa_cons (pe_op op_add (pe_op op_mul (pe_ix ix_list (pv 0) pe_int (fun _ _ => rfl)) pe_int) pe_int) pa_nil)) pe_int) (pg_sub (pv 0) pe_int set_list)))))
        pss_nil)
      (pss_cons (ps_if (pt_cmpR op_gt (pe_ix ix_list (pv 0) pe_int (fun _ _ => rfl)) pe_int (nomark _))
        (pss_cons (ps_set (i := 3) nd rfl (by first | exact Or.inl rfl | exact Or.inr rfl) (pe_op op_mod (pe_callTy call_intQ (by rfl) T.g_int (by decide +kernel) (pa_cons (pe_ix ix_list (pv 0) pe_int (fun _ _ => rfl)) pa_nil)) (pv 1)))
        (pss_cons (ps_asg (pe_op op_fdiv (pe_ix ix_list (pv 0) pe_int (fun _ _ => rfl)) (pv 1)) (pg_sub (pv 0) pe_int set_list))
        (pss_one (ps_ret (pv 3)))))
        pss_nil)
      (pss_one (ps_ret (pe_op op_mod (pe_op op_mod (pe_callTy call_intQ (by rfl) T.g_int (by decide +kernel) (pa_cons (pe_op op_mul (pe_ix ix_list (pv 0) pe_int (fun _ _ => rfl)) pe_int) pa_nil)) pe_int) (pv 1)))))), ?_⟩
    rw [show L2.start N__law_draw [.ref L, .int (m : Int)] = [some (.ref L), some (.int (m : Int)), none, none] from rfl]
    have nS := dr_ne hL hS
    walk_at "g"
    by_cases hb0 : b = 0
    · rw [decide_eq_true hb0]
      walk_at "g"
      by_cases hlt : (i : Int) < (ns.length : Int)
      · rw [List.length_map, decide_eq_true hlt]
        walk_at "g"
        have hx : (ns.map V.int)[i]? = some (.int (ns[i]'(by omega))) := by
          rw [List.getElem?_map, List.getElem?_eq_getElem (by omega)]
          rfl
        generalize ns[i]'(by omega) = c at hx
        refine ixL hS (atI_nat hx) ?_
        walk_at "g"
        refine setL (i := 1) hL (by simp) ?_
        have hL1 : upd H L (.lst [V.ref S, .int ((i : Int) + 1), .int b, .int st]) L = some (.lst [V.ref S, .int ((i + 1 : Nat) : Int), .int b, .int st]) := upd_same
        have hS1 : upd H L (.lst [V.ref S, .int ((i : Int) + 1), .int b, .int st]) S = some (.lst (ns.map V.int)) := by rw [upd_ne nS]; exact hS
        have g1 : Gd L H (upd H L (.lst [V.ref S, .int ((i : Int) + 1), .int b, .int st])) := Gd.put hL
        walk_at "n"
        generalize upd H L (.lst [V.ref S, .int ((i : Int) + 1), .int b, .int st]) = H1 at hL1 hS1 g1 ⊢
        refine ⟨⟨by decide, by decide, by decide⟩, ?_⟩
        by_cases hc : (10 ^ Int.toNat 18 : Int) ≤ c
        · rw [decide_eq_true hc]
          walk_at "n"
          refine setL (i := 2) hL1 (by simp) ?_
          have hc0 : 0 ≤ c := Int.le_trans (by decide) hc
          refine draw_tail (ns := ns) (i := i + 1) (b := c) (st := st) (g1.trans (Gd.put hL1)) upd_same (by rw [upd_ne nS]; exact hS1) (by omega) hz hc0 hm1 hm2 k
        · rw [decide_eq_false hc]
          walk_at "n"
          refine ixL hL1 rfl ?_
          walk_at "n"
          refine ⟨.inr ⟨by decide, by decide⟩, .inr ⟨by decide, by decide⟩, by decide, ?_⟩
          refine setL (i := 3) hL1 (by simp) ?_
          exact draw_tail (ns := ns) (i := i + 1) (b := b) (g1.trans (Gd.put hL1)) upd_same (by rw [upd_ne nS]; exact hS1) (by omega) hz hb hm1 hm2 k
      · rw [List.length_map, decide_eq_false hlt]
        walk_at "g"
        refine ⟨.inr ⟨by decide, by decide⟩, by decide, ?_⟩
        refine setL (i := 3) hL (by simp) ?_
        exact draw_tail (ns := ns) (i := i) (b := b) (Gd.put hL) upd_same (by rw [upd_ne nS]; exact hS) hi hz hb hm1 hm2 k
    · rw [decide_eq_false hb0]
      walk_at "n"
      exact draw_tail (Gd.refl L H) hL hS hi hz hb hm1 hm2 k
end

end Gr

namespace Gr
open PySem PySem.Spec PyProof.Rows L2
local macro_rules | `(tactic| walk_at "n") => `(tactic| try simp only [u_tVar, u_tC, u_tB, u_tTest, u_tAnd, u_tOr, u_tNot, u_tAndV, u_tOrV, u_tNotV, u_tIf, u_tNext, u_tSeq, u_tBreak, u_tCont, u_tDrop, u_tRet, u_tRetN, u_tIfS, u_tNever, u_gName, u_tAsg, u_tPar, u_gSub, u_tOp, u_tUn, u_tChain, u_tNil, u_tCons, u_tTup, u_tLst, u_tCB, u_tCall, u_tNoPart, u_tPart, u_tSl, u_tYes, u_iList', u_iTup', u_tLc, u_tDc, u_tFor, u_iRng1, u_iRng2, u_iEnum, u_iEnumT, u_iZip, u_iZip3, L2.wipe, u_sDPut', u_tDGet', u_tDNewK, u_tFld', u_sFld, u_gTup, u_gCons, u_gNil, u_tMeth, u_tCKw, u_tMake, u_tMethC, u_tNdefM, u_tCallL, u_tLstRg, v_rI0, v_rI, v_eqI, v_neI, v_eqS, v_neS, v_bl, v_int, v_ref, v_some, v_two, w_insert_tell, w_remove_tell, w_remove_insert, w_move_tell, w_move_insert, w_move_remove, w_copy_tell, w_copy_insert, w_copy_remove, w_copy_move, w_rows_table, w_columns_table, w_cells_table, w_rows_cells, w_columns_cells, w_columns_rows, w_cells_rows, w_cells_columns, w_rows_columns, w_table_cells, w_table_rows, w_table_columns, w_column_row, w_plain_like, w_like_plain, w_old_new, w_new_old, w_newest_nearest, w_nearest_newest, w_ink_ground, w_ink_face, w_ground_ink, w_ground_face, w_face_ink, w_face_ground, w_whole_lanes, w_whole_files, w_whole_spots, w_lanes_files, w_lanes_spots, w_files_spots, List.getElem?_cons_zero, List.getElem?_cons_succ, List.set_cons_zero, List.set_cons_succ, List.append_nil, Bool.not_true, Bool.not_false, eq_self, if_true, Bool.false_eq_true, if_false, decide_true, decide_false, v_max, v_min, v_intQ, v_isN, v_notN, reduceCtorEq, Nat.reduceAdd, Nat.zero_add, Int.cast_ofNat_Int, Int.reduceEq, Int.reduceLE, Int.reduceLT, Int.reduceAdd, List.cons_append, List.nil_append, List.map_cons, List.map_nil, Sc.vs, ov, De.vs, how, List.length_cons, List.length_nil])
local macro_rules | `(tactic| walk_at "x") => `(tactic| first | refine ixT (by assumption) rfl ?_ | refine ixL (by assumption) rfl ?_ | refine lenT (by assumption) rfl ?_ | refine lenL (by assumption) rfl ?_ | refine isi (.base (.int _)) kit_int_int ?_ | refine isi (.base (.int _)) kit_int_str ?_ | refine isi (.base (.int _)) kit_int_bool ?_ | refine isi (.base (.int _)) kit_int_tuple ?_ | refine isi (.base (.int _)) kit_int_list ?_ | refine isi (.base (.str _)) kit_str_int ?_ | refine isi (.base (.str _)) kit_str_str ?_ | refine isi (.base (.str _)) kit_str_bool ?_ | refine isi (.base (.str _)) kit_str_tuple ?_ | refine isi (.base (.str _)) kit_str_list ?_ | refine isi (.base (.bl _)) kit_bool_int ?_ | refine isi (.base (.bl _)) kit_bool_str ?_ | refine isi (.base (.bl _)) kit_bool_bool ?_ | refine isi (.base (.bl _)) kit_bool_tuple ?_ | refine isi (.base (.bl _)) kit_bool_list ?_ | refine isi (.base (.tup (by assumption))) kit_tuple_int ?_ | refine isi (.base (.tup (by assumption))) kit_tuple_str ?_ | refine isi (.base (.tup (by assumption))) kit_tuple_bool ?_ | refine isi (.base (.tup (by assumption))) kit_tuple_tuple ?_ | refine isi (.base (.tup (by assumption))) kit_tuple_list ?_ | refine isi (.base (.lst (by assumption))) kit_list_int ?_ | refine isi (.base (.lst (by assumption))) kit_list_str ?_ | refine isi (.base (.lst (by assumption))) kit_list_bool ?_ | refine isi (.base (.lst (by assumption))) kit_list_tuple ?_ | refine isi (.base (.lst (by assumption))) kit_list_list ?_ | refine isi (.base (.non)) kit_NoneType_int ?_ | refine isi (.base (.non)) kit_NoneType_str ?_ | refine isi (.base (.non)) kit_NoneType_bool ?_ | refine isi (.base (.non)) kit_NoneType_tuple ?_ | refine isi (.base (.non)) kit_NoneType_list ?_)
local macro_rules | `(tactic| walk_at "g") => `(tactic| (repeat (walk_at "n"; walk_at "x")); walk_at "n")

-- Gr6
/-! ### what is drawn -/
section
variable {P : Program} {w : World} {K : PySem.W.Frag} {mg : Str → Option Value} {fds : Str → FuncData} {base : Heap}
abbrev s__law_begin : Stmt := top 45
abbrev N__law_begin : List Str := ["_law_script"]
theorem sc__law_begin : FnScope N__law_begin ["_law_script"] (defScope s__law_begin) := ⟨rfl, rfl, rfl, by decide +kernel, rfl, by decide +kernel, by decide +kernel⟩
def spBegin (K : PySem.W.Frag) : Sp := fun vs H Q _ => ∃ (a : Addr) (ns : List Int), vs = [.ref a] ∧ SqL K H a (ns.map V.int) ∧ ns.length ≤ 1000 ∧ ∀ H' L, Same H H' → DrAt H' L → Q (.ref L) H'
theorem ok__law_begin (T : Txt K mg fds) : FnOk P w K mg base CX0 1 (He.ga K "_law_begin") (fds "_law_begin") ["_law_script"] (spBegin K) := by
  refine T.d__law_begin.fn.ok sc__law_begin (fun vs H Q E h => ?_) (fun cdv A outer s H vs Q E hr h => ?_)
  · obtain ⟨a, ns, rfl, _⟩ := h; rfl
  · obtain ⟨a, ns, rfl, ha, hz, k⟩ := h
    have nd := sc__law_begin.nd
    refine ⟨_, PSs.nox (pss_one (ps_ret (pe_lst (pa_cons (pe_callTy call_listQ (by rfl) T.g_list (by decide +kernel) (pa_cons (pv 0) pa_nil)) (pa_cons pe_int (pa_cons pe_int (pa_cons pe_int pa_nil))))))), ?_⟩
    rw [show L2.start N__law_begin [.ref a] = [some (.ref a)] from rfl]
    walk_at "n"
    refine ⟨a, _, rfl, .inl ha, fun S hS => ?_⟩
    walk_at "n"
    refine ⟨by decide, fun L hL => ?_⟩
    have s1 := Same.upd (.lst (ns.map V.int)) hS
    exact k _ L (s1.trans (Same.upd _ hL)) ⟨S, ns, 0, 0, 7, upd_same, Same.upd _ hL _ _ upd_same, Nat.zero_le _, hz, Int.le_refl 0⟩
abbrev s__law_order : Stmt := top 47
abbrev N__law_order : List Str := ["_law_draws"]
theorem sc__law_order : FnScope N__law_order ["_law_draws"] (defScope s__law_order) := ⟨rfl, rfl, rfl, by decide +kernel, rfl, by decide +kernel, by decide +kernel⟩
def spLOrder : Sp := fun vs H Q _ => ∃ (L : Addr), vs = [.ref L] ∧ DrAt H L ∧ ∀ H' (od : Od), Gd L H H' → DrAt H' L → Q (.str od.s) H'
theorem dr_new {H : Hp} {L p : Addr} (h : DrAt H L) (hp : H p = none) : p ≠ L := fun e => by
  obtain ⟨xs, h⟩ := h.lst
  rw [e, h] at hp
  cases hp
theorem ok__law_order (T : Txt K mg fds) : FnOk P w K mg base CX0 2 (He.ga K "_law_order") (fds "_law_order") ["_law_draws"] spLOrder := by
  refine T.d__law_order.fn.ok sc__law_order (fun vs H Q E h => ?_) (fun cdv A outer s H vs Q E hr h => ?_)
  · obtain ⟨L, rfl, _⟩ := h; rfl
  · obtain ⟨L, rfl, hd, k⟩ := h
    have nd := sc__law_order.nd
    refine ⟨_, PSs.nox (pss_one (ps_ret (pe_ix ix_list (pe_lst (pa_cons pe_str (pa_cons pe_str pa_nil))) (pe_fn T.d__law_draw (ok__law_draw T) hr rfl (pa_cons (pv 0) (pa_cons pe_int pa_nil))) (fun _ _ => rfl)))), ?_⟩
    rw [show L2.start N__law_order [.ref L] = [some (.ref L)] from rfl]
    walk_at "n"
    refine ⟨by decide, fun p hp => ?_⟩
    have s1 := Same.upd (.lst [V.str "nearest", V.str "newest"]) hp
    refine ⟨L, 2, rfl, hd.same s1, by decide, by decide, fun H' n g hd' hn => ?_⟩
    have h1 := g.gr _ _ (dr_new hd hp) upd_same
    have g' := (Gd.of s1).trans g
    rcases n with _ | _ | n
    · exact ixL h1 rfl (k _ .nearest g' hd')
    · exact ixL h1 rfl (k _ .newest g' hd')
    · omega
abbrev s__law_kind : Stmt := top 49
abbrev N__law_kind : List Str := ["_law_draws"]
theorem sc__law_kind : FnScope N__law_kind ["_law_draws"] (defScope s__law_kind) := ⟨rfl, rfl, rfl, by decide +kernel, rfl, by decide +kernel, by decide +kernel⟩
def spLKind : Sp := fun vs H Q _ => ∃ (L : Addr), vs = [.ref L] ∧ DrAt H L ∧ ∀ H' (od : Kd), Gd L H H' → DrAt H' L → Q (.str od.s) H'
theorem ok__law_kind (T : Txt K mg fds) : FnOk P w K mg base CX0 2 (He.ga K "_law_kind") (fds "_law_kind") ["_law_draws"] spLKind := by
  refine T.d__law_kind.fn.ok sc__law_kind (fun vs H Q E h => ?_) (fun cdv A outer s H vs Q E hr h => ?_)
  · obtain ⟨L, rfl, _⟩ := h; rfl
  · obtain ⟨L, rfl, hd, k⟩ := h
    have nd := sc__law_kind.nd
    refine ⟨_, PSs.nox (pss_one (ps_ret (pe_ix ix_list (pe_lst (pa_cons pe_str (pa_cons pe_str (pa_cons pe_str pa_nil)))) (pe_fn T.d__law_draw (ok__law_draw T) hr rfl (pa_cons (pv 0) (pa_cons pe_int pa_nil))) (fun _ _ => rfl)))), ?_⟩
    rw [show L2.start N__law_kind [.ref L] = [some (.ref L)] from rfl]
    walk_at "n"
    refine ⟨by decide, fun p hp => ?_⟩
    have s1 := Same.upd (.lst [V.str "ink", V.str "ground", V.str "face"]) hp
    refine ⟨L, 3, rfl, hd.same s1, by decide, by decide, fun H' n g hd' hn => ?_⟩
    have h1 := g.gr _ _ (dr_new hd hp) upd_same
    have g' := (Gd.of s1).trans g
    rcases n with _ | _ | _ | n
    · exact ixL h1 rfl (k _ .ink g' hd')
    · exact ixL h1 rfl (k _ .ground g' hd')
    · exact ixL h1 rfl (k _ .face g' hd')
    · omega
abbrev s__law_ends : Stmt := top 50
abbrev N__law_ends : List Str := ["_law_draws", "_law_most", "_law_a"]
theorem sc__law_ends : FnScope N__law_ends ["_law_draws", "_law_most"] (defScope s__law_ends) := ⟨rfl, rfl, rfl, by decide +kernel, rfl, by decide +kernel, by decide +kernel⟩
def spLEnds : Sp := fun vs H Q _ => ∃ (L : Addr) (m : Nat), vs = [.ref L, .int (m : Int)] ∧ DrAt H L ∧ 1 ≤ m ∧ m ≤ 9 ∧ ∀ H' p (a b : Nat), Gd L H H' → DrAt H' L → p ≠ L → H' p = some (.lst [.int (a : Int), .int (b : Int)]) → a < m → a ≤ b → b ≤ 9 → Q (.ref p) H'
theorem ok__law_ends (T : Txt K mg fds) : FnOk P w K mg base CX0 2 (He.ga K "_law_ends") (fds "_law_ends") ["_law_draws", "_law_most"] spLEnds := by
  refine T.d__law_ends.fn.ok sc__law_ends (fun vs H Q E h => ?_) (fun cdv A outer s H vs Q E hr h => ?_)
  · obtain ⟨L, m, rfl, _⟩ := h; rfl
  · obtain ⟨L, m, rfl, hd, hm1, hm2, k⟩ := h
    have nd := sc__law_ends.nd
    refine ⟨_, PSs.nox (pss_cons (ps_set (i := 2) nd rfl (by first | exact Or.inl rfl | exact Or.inr rfl) (pe_fn T.d__law_draw (ok__law_draw T) hr rfl (pa_cons (pv 0) (pa_cons (pv 1) pa_nil))))
      (pss_one (ps_ret (pe_lst (pa_cons (pv 2) (pa_cons (pe_callB (call_minQ rfl) (by rfl) T.g_min (by decide +kernel) (pa_cons (pe_op op_add (pv 2) (pe_fn T.d__law_draw (ok__law_draw T) hr rfl (pa_cons (pv 0) (pa_cons pe_int pa_nil)))) (pa_cons pe_int pa_nil))) pa_nil)))))), ?_⟩
    rw [show L2.start N__law_ends [.ref L, .int (m : Int)] = [some (.ref L), some (.int (m : Int)), none] from rfl]
    walk_at "n"
    refine ⟨L, m, rfl, hd, hm1, by omega, fun H1 a g1 hd1 ha => ?_⟩
    walk_at "n"
    refine ⟨L, 3, rfl, hd1, by decide, by decide, fun H2 x g2 hd2 hx => ?_⟩
    walk_at "n"
    rw [show (if (9 : Int) < (a : Int) + (x : Int) then (9 : Int) else (a : Int) + (x : Int)) = ((min (a + x) 9 : Nat) : Int) by split <;> omega]
    refine ⟨by show 2 ≤ sizeLine; decide, fun p hp => ?_⟩
    have s3 := Same.upd (.lst [V.int (a : Int), V.int ((min (a + x) 9 : Nat) : Int)]) hp
    exact k _ p a (min (a + x) 9) ((g1.trans g2).trans (Gd.of s3)) (hd2.same s3) (dr_new hd2 hp) upd_same ha (by omega) (by omega)
abbrev s__law_cells : Stmt := top 51
abbrev N__law_cells : List Str := ["_law_draws", "_law_top", "_law_bottom", "_law_left", "_law_right"]
theorem sc__law_cells : FnScope N__law_cells ["_law_draws"] (defScope s__law_cells) := ⟨rfl, rfl, rfl, by decide +kernel, rfl, by decide +kernel, by decide +kernel⟩
def spLCells : Sp := fun vs H Q _ => ∃ (L : Addr), vs = [.ref L] ∧ DrAt H L ∧ ∀ H' p (t b l r : Nat), Gd L H H' → DrAt H' L → H' p = some (.tup (Sc.cells t b l r).vs) → (Sc.cells t b l r).ok → Q (.ref p) H'
theorem ok__law_cells (T : Txt K mg fds) : FnOk P w K mg base CX0 3 (He.ga K "_law_cells") (fds "_law_cells") ["_law_draws"] spLCells := by
  refine T.d__law_cells.fn.ok sc__law_cells (fun vs H Q E h => ?_) (fun cdv A outer s H vs Q E hr h => ?_)
  · obtain ⟨L, rfl, _⟩ := h; rfl
  · obtain ⟨L, rfl, hd, k⟩ := h
    have nd := sc__law_cells.nd
    refine ⟨_, PSs.nox (pss_cons (ps_asg (pe_fn T.d__law_ends (ok__law_ends T) hr rfl (pa_cons (pv 0) (pa_cons pe_int pa_nil))) (pg_lst rfl (pgs_cons (pg_name (i := 1) nd rfl (by first | exact Or.inl rfl | exact Or.inr rfl)) (pgs_cons (pg_name (i := 2) nd rfl (by first | exact Or.inl rfl | exact Or.inr rfl)) pgs_nil))))
      (pss_cons (ps_asg (pe_fn T.d__law_ends (ok__law_ends T) hr rfl (pa_cons (pv 0) (pa_cons pe_int pa_nil))) (pg_lst rfl (pgs_cons (pg_name (i := 3) nd rfl (by first | exact Or.inl rfl | exact Or.inr rfl)) (pgs_cons (pg_name (i := 4) nd rfl (by first | exact Or.inl rfl | exact Or.inr rfl)) pgs_nil))))
      (pss_one (ps_ret (pe_tup (pa_cons pe_str (pa_cons (pv 1) (pa_cons (pv 2) (pa_cons (pv 3) (pa_cons (pv 4) pa_nil)))))))))), ?_⟩
    rw [show L2.start N__law_cells [.ref L] = [some (.ref L), none, none, none, none] from rfl]
    walk_at "n"
    refine ⟨L, 8, rfl, hd, by decide, by decide, fun H1 p1 t b g1 hd1 n1 h1 ha ha2 ha3 => ?_⟩
    refine ⟨p1, _, rfl, SqL.of h1, rfl, ?_⟩
    walk_at "n"
    refine ⟨L, 8, rfl, hd1, by decide, by decide, fun H2 p2 l r g2 hd2 n2 h2 hb hb2 hb3 => ?_⟩
    refine ⟨p2, _, rfl, SqL.of h2, rfl, ?_⟩
    walk_at "n"
    refine ⟨by show 5 ≤ sizeLine; decide, fun p hp => ?_⟩
    have s3 := Same.upd (.tup (Sc.cells t b l r).vs) hp
    exact k _ p t b l r ((g1.trans g2).trans (Gd.of s3)) (hd2.same s3) upd_same ⟨ha2, ha3, hb2, hb3⟩
end

end Gr

namespace Gr
open PySem PySem.Spec PyProof.Rows L2
local macro_rules | `(tactic| walk_at "n") => `(tactic| try simp only [u_tVar, u_tC, u_tB, u_tTest, u_tAnd, u_tOr, u_tNot, u_tAndV, u_tOrV, u_tNotV, u_tIf, u_tNext, u_tSeq, u_tBreak, u_tCont, u_tDrop, u_tRet, u_tRetN, u_tIfS, u_tNever, u_gName, u_tAsg, u_tPar, u_gSub, u_tOp, u_tUn, u_tChain, u_tNil, u_tCons, u_tTup, u_tLst, u_tCB, u_tCall, u_tNoPart, u_tPart, u_tSl, u_tYes, u_iList', u_iTup', u_tLc, u_tDc, u_tFor, u_iRng1, u_iRng2, u_iEnum, u_iEnumT, u_iZip, u_iZip3, L2.wipe, u_sDPut', u_tDGet', u_tDNewK, u_tFld', u_sFld, u_gTup, u_gCons, u_gNil, u_tMeth, u_tCKw, u_tMake, u_tMethC, u_tNdefM, u_tCallL, u_tLstRg, v_rI0, v_rI, v_eqI, v_neI, v_eqS, v_neS, v_bl, v_int, v_ref, v_some, v_two, w_insert_tell, w_remove_tell, w_remove_insert, w_move_tell, w_move_insert, w_move_remove, w_copy_tell, w_copy_insert, w_copy_remove, w_copy_move, w_rows_table, w_columns_table, w_cells_table, w_rows_cells, w_columns_cells, w_columns_rows, w_cells_rows, w_cells_columns, w_rows_columns, w_table_cells, w_table_rows, w_table_columns, w_column_row, w_plain_like, w_like_plain, w_old_new, w_new_old, w_newest_nearest, w_nearest_newest, w_ink_ground, w_ink_face, w_ground_ink, w_ground_face, w_face_ink, w_face_ground, w_whole_lanes, w_whole_files, w_whole_spots, w_lanes_files, w_lanes_spots, w_files_spots, List.getElem?_cons_zero, List.getElem?_cons_succ, List.set_cons_zero, List.set_cons_succ, List.append_nil, Bool.not_true, Bool.not_false, eq_self, if_true, Bool.false_eq_true, if_false, decide_true, decide_false, v_max, v_min, v_intQ, v_isN, v_notN, reduceCtorEq, Nat.reduceAdd, Nat.zero_add, Int.cast_ofNat_Int, Int.reduceEq, Int.reduceLE, Int.reduceLT, Int.reduceAdd, List.cons_append, List.nil_append, List.map_cons, List.map_nil, Sc.vs, ov, De.vs, how, List.length_cons, List.length_nil])
local macro_rules | `(tactic| walk_at "x") => `(tactic| first | refine ixT (by assumption) rfl ?_ | refine ixL (by assumption) rfl ?_ | refine lenT (by assumption) rfl ?_ | refine lenL (by assumption) rfl ?_ | refine isi (.base (.int _)) kit_int_int ?_ | refine isi (.base (.int _)) kit_int_str ?_ | refine isi (.base (.int _)) kit_int_bool ?_ | refine isi (.base (.int _)) kit_int_tuple ?_ | refine isi (.base (.int _)) kit_int_list ?_ | refine isi (.base (.str _)) kit_str_int ?_ | refine isi (.base (.str _)) kit_str_str ?_ | refine isi (.base (.str _)) kit_str_bool ?_ | refine isi (.base (.str _)) kit_str_tuple ?_ | refine isi (.base (.str _)) kit_str_list ?_ | refine isi (.base (.bl _)) kit_bool_int ?_ | refine isi (.base (.bl _)) kit_bool_str ?_ | refine isi (.base (.bl _)) kit_bool_bool ?_ | refine isi (.base (.bl _)) kit_bool_tuple ?_ | refine isi (.base (.bl _)) kit_bool_list ?_ | refine isi (.base (.tup (by assumption))) kit_tuple_int ?_ | refine isi (.base (.tup (by assumption))) kit_tuple_str ?_ | refine isi (.base (.tup (by assumption))) kit_tuple_bool ?_ | refine isi (.base (.tup (by assumption))) kit_tuple_tuple ?_ | refine isi (.base (.tup (by assumption))) kit_tuple_list ?_ | refine isi (.base (.lst (by assumption))) kit_list_int ?_ | refine isi (.base (.lst (by assumption))) kit_list_str ?_ | refine isi (.base (.lst (by assumption))) kit_list_bool ?_ | refine isi (.base (.lst (by assumption))) kit_list_tuple ?_ | refine isi (.base (.lst (by assumption))) kit_list_list ?_ | refine isi (.base (.non)) kit_NoneType_int ?_ | refine isi (.base (.non)) kit_NoneType_str ?_ | refine isi (.base (.non)) kit_NoneType_bool ?_ | refine isi (.base (.non)) kit_NoneType_tuple ?_ | refine isi (.base (.non)) kit_NoneType_list ?_)
local macro_rules | `(tactic| walk_at "g") => `(tactic| (repeat (walk_at "n"; walk_at "x")); walk_at "n")

-- Gr6
/-! ### deeds drawn -/
section
variable {P : Program} {w : World} {K : PySem.W.Frag} {mg : Str → Option Value} {fds : Str → FuncData} {base : Heap}
abbrev s__law_scope : Stmt := top 52
abbrev N__law_scope : List Str := ["_law_draws", "_law_at", "_law_a", "_law_b"]
theorem sc__law_scope : FnScope N__law_scope ["_law_draws"] (defScope s__law_scope) := ⟨rfl, rfl, rfl, by decide +kernel, rfl, by decide +kernel, by decide +kernel⟩
def spLScope : Sp := fun vs H Q _ => ∃ (L : Addr), vs = [.ref L] ∧ DrAt H L ∧ ∀ H' p (s : Sc), Gd L H H' → DrAt H' L → H' p = some (.tup s.vs) → s.ok → Q (.ref p) H'
theorem ok__law_scope (T : Txt K mg fds) : FnOk P w K mg base CX0 4 (He.ga K "_law_scope") (fds "_law_scope") ["_law_draws"] spLScope := by
  refine T.d__law_scope.fn.ok sc__law_scope (fun vs H Q E h => ?_) (fun cdv A outer s H vs Q E hr h => ?_)
  · obtain ⟨L, rfl, _⟩ := h; rfl
  · obtain ⟨L, rfl, hd, k⟩ := h
    have nd := sc__law_scope.nd
    refine ⟨_, PSs.nox (pss_cons (ps_set (i := 1) nd rfl (by first | exact Or.inl rfl | exact Or.inr rfl) (pe_fn T.d__law_draw (ok__law_draw T) hr rfl (pa_cons (pv 0) (pa_cons pe_int pa_nil))))
      (pss_cons (ps_if (pt_cmpR op_eq (pv 1) pe_int (nomark _))
        (pss_one (ps_ret (pe_tup (pa_cons pe_str pa_nil))))
        pss_nil)
      (pss_cons (ps_if (pt_cmpR op_le (pv 1) pe_int (nomark _))
        (pss_one (ps_ret (pe_fn T.d__law_cells (ok__law_cells T) hr rfl (pa_cons (pv 0) pa_nil))))
        pss_nil)
      (pss_cons (ps_asg (pe_fn T.d__law_ends (ok__law_ends T) hr rfl (pa_cons (pv 0) (pa_cons pe_int pa_nil))) (pg_lst rfl (pgs_cons (pg_name (i := 2) nd rfl (by first | exact Or.inl rfl | exact Or.inr rfl)) (pgs_cons (pg_name (i := 3) nd rfl (by first | exact Or.inl rfl | exact Or.inr rfl)) pgs_nil))))
      (pss_cons (ps_if (pt_cmpR op_eq (pe_fn T.d__law_draw (ok__law_draw T) hr rfl (pa_cons (pv 0) (pa_cons pe_int pa_nil))) pe_int (nomark _))
        (pss_one (ps_set (i := 3) nd rfl (by first | exact Or.inl rfl | exact Or.inr rfl) pe_non))
        pss_nil)
      (pss_one (ps_ret (pe_tup (pa_cons (pe_ix ix_list (pe_lst (pa_cons pe_str (pa_cons pe_str pa_nil))) (pe_op op_mod (pv 1) pe_int) (fun _ _ => rfl)) (pa_cons (pv 2) (pa_cons (pv 3) pa_nil))))))))))), ?_⟩
    rw [show L2.start N__law_scope [.ref L] = [some (.ref L), none, none, none] from rfl]
    walk_at "n"
    refine ⟨L, 7, rfl, hd, by decide, by decide, fun H1 n g1 hd1 hn => ?_⟩
    walk_at "n"
    by_cases h0 : n = 0
    · subst h0
      rw [show decide (((0 : Nat) : Int) = 0) = true by decide]
      walk_at "n"
      refine ⟨by decide, fun p hp => ?_⟩
      have s3 := Same.upd (.tup Sc.table.vs) hp
      exact k _ p .table (g1.trans (Gd.of s3)) (hd1.same s3) upd_same trivial
    · rw [decide_eq_false (show ¬ (n : Int) = 0 by omega)]
      walk_at "n"
      by_cases h3 : (n : Int) ≤ 3
      · rw [decide_eq_true h3]
        walk_at "n"
        exact ⟨L, rfl, hd1, fun H2 p t b l r g2 hd2 h2 hk => k _ p _ (g1.trans g2) hd2 h2 hk⟩
      · rw [decide_eq_false h3]
        walk_at "n"
        refine ⟨L, 8, rfl, hd1, by decide, by decide, fun H2 p2 a b g2 hd2 n2 h2 ha ha2 ha3 => ?_⟩
        refine ⟨p2, _, rfl, SqL.of h2, rfl, ?_⟩
        walk_at "n"
        refine ⟨L, 4, rfl, hd2, by decide, by decide, fun H3 x g3 hd3 hx => ?_⟩
        walk_at "n"
        have g13 := (g1.trans g2).trans g3
        have hm : (n : Int) % 2 = 0 ∨ (n : Int) % 2 = 1 := by omega
        by_cases hx0 : (x : Int) = 0
        · rw [decide_eq_true hx0]
          walk_at "n"
          refine ⟨by decide, fun p4 hp4 => ?_⟩
          have s4 := Same.upd (.lst [V.str "rows", V.str "columns"]) hp4
          walk_at "n"
          refine ⟨by decide, ?_⟩
          rcases hm with e | e <;> rw [e]
          · refine ixL upd_same rfl ?_
            walk_at "n"
            refine ⟨by decide, fun p hp => ?_⟩
            have s5 := s4.trans (Same.upd (.tup (Sc.rows a none).vs) hp)
            exact k _ p (.rows a none) (g13.trans (Gd.of s5)) (hd3.same s5) upd_same ⟨by omega, fun n z => by cases z⟩
          · refine ixL upd_same rfl ?_
            walk_at "n"
            refine ⟨by decide, fun p hp => ?_⟩
            have s5 := s4.trans (Same.upd (.tup (Sc.cols a none).vs) hp)
            exact k _ p (.cols a none) (g13.trans (Gd.of s5)) (hd3.same s5) upd_same ⟨by omega, fun n z => by cases z⟩
        · rw [decide_eq_false hx0]
          walk_at "n"
          refine ⟨by decide, fun p4 hp4 => ?_⟩
          have s4 := Same.upd (.lst [V.str "rows", V.str "columns"]) hp4
          walk_at "n"
          refine ⟨by decide, ?_⟩
          rcases hm with e | e <;> rw [e]
          · refine ixL upd_same rfl ?_
            walk_at "n"
            refine ⟨by decide, fun p hp => ?_⟩
            have s5 := s4.trans (Same.upd (.tup (Sc.rows a (some b)).vs) hp)
            exact k _ p (.rows a (some b)) (g13.trans (Gd.of s5)) (hd3.same s5) upd_same ⟨by omega, fun n z => by cases z; exact ⟨ha2, ha3⟩⟩
          · refine ixL upd_same rfl ?_
            walk_at "n"
            refine ⟨by decide, fun p hp => ?_⟩
            have s5 := s4.trans (Same.upd (.tup (Sc.cols a (some b)).vs) hp)
            exact k _ p (.cols a (some b)) (g13.trans (Gd.of s5)) (hd3.same s5) upd_same ⟨by omega, fun n z => by cases z; exact ⟨ha2, ha3⟩⟩
abbrev s__law_deed : Stmt := top 53
abbrev N__law_deed : List Str := ["_law_draws", "_law_way", "_law_value", "_law_axis", "_law_at", "_law_many"]
theorem sc__law_deed : FnScope N__law_deed ["_law_draws"] (defScope s__law_deed) := ⟨rfl, rfl, rfl, by decide +kernel, rfl, by decide +kernel, by decide +kernel⟩
def spLDeed : Sp := fun vs H Q _ => ∃ (L : Addr), vs = [.ref L] ∧ DrAt H L ∧ ∀ H' v (d : De), Gd L H H' → DrAt H' L → DeAt H' v d → d.ok → Q v H'
theorem ok__law_deed (T : Txt K mg fds) : FnOk P w K mg base CX0 5 (He.ga K "_law_deed") (fds "_law_deed") ["_law_draws"] spLDeed := by
  refine T.d__law_deed.fn.ok sc__law_deed (fun vs H Q E h => ?_) (fun cdv A outer s H vs Q E hr h => ?_)
  · obtain ⟨L, rfl, _⟩ := h; rfl
  · obtain ⟨L, rfl, hd, k⟩ := h
    have nd := sc__law_deed.nd
    refine ⟨_, PSs.nox (pss_cons (ps_set (i := 1) nd rfl (by first | exact Or.inl rfl | exact Or.inr rfl) (pe_fn T.d__law_draw (ok__law_draw T) hr rfl (pa_cons (pv 0) (pa_cons pe_int pa_nil))))
      (pss_cons (ps_if (pt_cmpR op_le (pv 1) pe_int (nomark _))
        (pss_cons (ps_set (i := 2) nd rfl (by first | exact Or.inl rfl | exact Or.inr rfl) (pe_fn T.d__law_draw (ok__law_draw T) hr rfl (pa_cons (pv 0) (pa_cons pe_int pa_nil))))
        (pss_cons (ps_if (pt_cmpR op_gt (pv 2) pe_int (nomark _))
          (pss_one (ps_set (i := 2) nd rfl (by first | exact Or.inl rfl | exact Or.inr rfl) pe_non))
          pss_nil)
        (pss_one (ps_ret (pe_tup (pa_cons pe_str (pa_cons (pe_fn T.d__law_scope (ok__law_scope T) hr rfl (pa_cons (pv 0) pa_nil)) (pa_cons (pe_fn T.d__law_kind (ok__law_kind T) hr rfl (pa_cons (pv 0) pa_nil)) (pa_cons (pv 2) pa_nil)))))))))
        pss_nil)
      (pss_cons (ps_set (i := 3) nd rfl (by first | exact Or.inl rfl | exact Or.inr rfl) (pe_ix ix_list (pe_lst (pa_cons pe_str (pa_cons pe_str pa_nil))) (pe_fn T.d__law_draw (ok__law_draw T) hr rfl (pa_cons (pv 0) (pa_cons pe_int pa_nil))) (fun _ _ => rfl)))
      (pss_cons (ps_set (i := 4) nd rfl (by first | exact Or.inl rfl | exact Or.inr rfl) (pe_fn T.d__law_draw (ok__law_draw T) hr rfl (pa_cons (pv 0) (pa_cons pe_int pa_nil))))
      (pss_cons (ps_set (i := 5) nd rfl (by first | exact Or.inl rfl | exact Or.inr rfl) (pe_op op_add pe_int (pe_fn T.d__law_draw (ok__law_draw T) hr rfl (pa_cons (pv 0) (pa_cons pe_int pa_nil)))))
      (pss_cons (ps_if (pt_cmpR op_eq (pv 1) pe_int (nomark _))
        (pss_one (ps_ret (pe_tup (pa_cons pe_str (pa_cons (pv 3) (pa_cons (pv 4) (pa_cons (pv 5) (pa_cons pe_str pa_nil))))))))
        pss_nil)
      (pss_cons (ps_if (pt_cmpR op_eq (pv 1) pe_int (nomark _))
        (pss_one (ps_ret (pe_tup (pa_cons pe_str (pa_cons (pv 3) (pa_cons (pe_op op_add (pv 4) pe_int) (pa_cons (pv 5) (pa_cons pe_str pa_nil))))))))
        pss_nil)
      (pss_cons (ps_if (pt_cmpR op_eq (pv 1) pe_int (nomark _))
        (pss_one (ps_ret (pe_tup (pa_cons pe_str (pa_cons (pv 3) (pa_cons (pv 4) (pa_cons (pv 5) pa_nil)))))))
        pss_nil)
      (pss_cons (ps_if (pt_cmpR op_eq (pv 1) pe_int (nomark _))
        (pss_one (ps_ret (pe_tup (pa_cons pe_str (pa_cons (pv 3) (pa_cons (pv 4) (pa_cons (pv 5) (pa_cons (pe_fn T.d__law_draw (ok__law_draw T) hr rfl (pa_cons (pv 0) (pa_cons pe_int pa_nil))) pa_nil))))))))
        pss_nil)
      (pss_one (ps_ret (pe_tup (pa_cons pe_str (pa_cons (pe_fn T.d__law_cells (ok__law_cells T) hr rfl (pa_cons (pv 0) pa_nil)) (pa_cons (pe_fn T.d__law_draw (ok__law_draw T) hr rfl (pa_cons (pv 0) (pa_cons pe_int pa_nil))) (pa_cons (pe_fn T.d__law_draw (ok__law_draw T) hr rfl (pa_cons (pv 0) (pa_cons pe_int pa_nil))) (pa_cons pe_str pa_nil))))))))))))))))), ?_⟩
    rw [show L2.start N__law_deed [.ref L] = [some (.ref L), none, none, none, none, none] from rfl]
    walk_at "n"
    refine ⟨L, 9, rfl, hd, by decide, by decide, fun H1 n g1 hd1 hn => ?_⟩
    walk_at "n"
    by_cases h0 : (n : Int) ≤ 3
    · rw [decide_eq_true h0]
      walk_at "n"
      refine ⟨L, 8, rfl, hd1, by decide, by decide, fun H2 x g2 hd2 hx => ?_⟩
      walk_at "n"
      have tl : ∀ (x : Option Nat), (∀ n, x = some n → n ≤ 9) → ∀ H3 q (s : Sc), Gd L H2 H3 → DrAt H3 L → H3 q = some (.tup s.vs) → s.ok → spLKind [.ref L] H3 (fun v H4 => [V.str "tell", V.ref q, v, ov x].length ≤ sizeLine ∧ ∀ p, H4 p = none → Q (V.ref p) (upd H4 p (.tup [V.str "tell", V.ref q, v, ov x]))) E0 := fun x hx H3 q s g3 hd3 h3 hk => by
        refine ⟨L, rfl, hd3, fun H4 kd g4 hd4 => ⟨by show 4 ≤ sizeLine; decide, fun p hp => ?_⟩⟩
        have s5 := Same.upd (.tup [V.str "tell", V.ref q, V.str kd.s, ov x]) hp
        have q4 := g4.tups hd3.lst _ _ h3
        exact k _ _ (.tell s kd x) ((((g1.trans g2).trans g3).trans g4).trans (Gd.of s5)) (hd4.same s5) ⟨p, q, rfl, upd_same, fun s' e => by cases e; exact s5 _ _ q4⟩ ⟨hk, hx⟩
      by_cases h5 : (5 : Int) < (x : Int)
      · rw [decide_eq_true h5]
        walk_at "n"
        refine ⟨L, rfl, hd2, fun H3 q s g3 hd3 h3 hk => ?_⟩
        walk_at "n"
        exact tl none (fun n e => by cases e) H3 q s g3 hd3 h3 hk
      · rw [decide_eq_false h5]
        walk_at "n"
        refine ⟨L, rfl, hd2, fun H3 q s g3 hd3 h3 hk => ?_⟩
        walk_at "n"
        exact tl (some x) (fun n e => by cases e; omega) H3 q s g3 hd3 h3 hk
    · rw [decide_eq_false h0]
      walk_at "n"
      refine ⟨by decide, fun p hp => ?_⟩
      have s2 := Same.upd (.lst [V.str "row", V.str "column"]) hp
      walk_at "n"
      refine ⟨L, 2, rfl, hd1.same s2, by decide, by decide, fun H3 ax g3 hd3 hax => ?_⟩
      have h3 := g3.gr _ _ (dr_new hd1 hp) upd_same
      have g13 := (g1.trans (Gd.of s2)).trans g3
      obtain ⟨X, hX⟩ : ∃ X : Ax, atI [V.str "row", V.str "column"] (ax : Int) = some (V.str X.s) := by
        rcases ax with _ | _ | ax
        · exact ⟨.row, rfl⟩
        · exact ⟨.col, rfl⟩
        · omega
      refine ixL h3 hX ?_
      walk_at "n"
      refine ⟨L, 8, rfl, hd3, by decide, by decide, fun H4 a g4 hd4 ha => ?_⟩
      walk_at "n"
      refine ⟨L, 3, rfl, hd4, by decide, by decide, fun H5 m g5 hd5 hm => ?_⟩
      walk_at "n"
      have g15 := (g13.trans g4).trans g5
      rw [show (1 : Int) + (m : Int) = ((m + 1 : Nat) : Int) by omega]
      by_cases h4 : (n : Int) = 4
      · rw [decide_eq_true h4]
        walk_at "n"
        refine ⟨by show 5 ≤ sizeLine; decide, fun p hp => ?_⟩
        have s6 := Same.upd (.tup [V.str "insert", V.str X.s, V.int (a : Int), V.int ((m + 1 : Nat) : Int), V.str "plain"]) hp
        exact k _ _ (.ins X a (m + 1) false) (g15.trans (Gd.of s6)) (hd5.same s6) ⟨p, p, rfl, upd_same, fun s' e => by cases e⟩ ⟨by omega, by omega, by omega, fun e => by cases e⟩
      rw [decide_eq_false h4]
      walk_at "n"
      by_cases h5 : (n : Int) = 5
      · rw [decide_eq_true h5]
        walk_at "n"
        refine ⟨by show 5 ≤ sizeLine; decide, fun p hp => ?_⟩
        have s6 := Same.upd (.tup [V.str "insert", V.str X.s, V.int ((a + 1 : Nat) : Int), V.int ((m + 1 : Nat) : Int), V.str "like"]) hp
        exact k _ _ (.ins X (a + 1) (m + 1) true) (g15.trans (Gd.of s6)) (hd5.same s6) ⟨p, p, rfl, upd_same, fun s' e => by cases e⟩ ⟨by omega, by omega, by omega, fun e => by omega⟩
      rw [decide_eq_false h5]
      walk_at "n"
      by_cases h6 : (n : Int) = 6
      · rw [decide_eq_true h6]
        walk_at "n"
        refine ⟨by show 4 ≤ sizeLine; decide, fun p hp => ?_⟩
        have s6 := Same.upd (.tup [V.str "remove", V.str X.s, V.int (a : Int), V.int ((m + 1 : Nat) : Int)]) hp
        exact k _ _ (.rem X a (m + 1)) (g15.trans (Gd.of s6)) (hd5.same s6) ⟨p, p, rfl, upd_same, fun s' e => by cases e⟩ ⟨by omega, by omega, by omega⟩
      rw [decide_eq_false h6]
      walk_at "n"
      by_cases h7 : (n : Int) = 7
      · rw [decide_eq_true h7]
        walk_at "n"
        refine ⟨L, 9, rfl, hd5, by decide, by decide, fun H6 x g6 hd6 hx => ?_⟩
        walk_at "n"
        refine ⟨by show 5 ≤ sizeLine; decide, fun p hp => ?_⟩
        have s6 := Same.upd (.tup [V.str "move", V.str X.s, V.int (a : Int), V.int ((m + 1 : Nat) : Int), V.int (x : Int)]) hp
        exact k _ _ (.mov X a (m + 1) x) ((g15.trans g6).trans (Gd.of s6)) (hd6.same s6) ⟨p, p, rfl, upd_same, fun s' e => by cases e⟩ ⟨by omega, by omega, by omega, by omega⟩
      rw [decide_eq_false h7]
      walk_at "n"
      refine ⟨L, rfl, hd5, fun H6 q t b l r g6 hd6 h6' hk => ?_⟩
      walk_at "n"
      refine ⟨L, 9, rfl, hd6, by decide, by decide, fun H7 x g7 hd7 hx => ?_⟩
      have h7' := g7.tups hd6.lst _ _ h6'
      walk_at "n"
      refine ⟨L, 9, rfl, hd7, by decide, by decide, fun H8 y g8 hd8 hy => ?_⟩
      have h8' := g8.tups hd7.lst _ _ h7'
      walk_at "n"
      refine ⟨by show 5 ≤ sizeLine; decide, fun p hp => ?_⟩
      have s6 := Same.upd (.tup [V.str "copy", V.ref q, V.int (x : Int), V.int (y : Int), V.str "tellings"]) hp
      exact k _ _ (.cpy t b l r x y) ((((g15.trans g6).trans g7).trans g8).trans (Gd.of s6)) (hd8.same s6) ⟨p, q, rfl, upd_same, fun s' e => by cases e; exact s6 _ _ h8'⟩ ⟨hk, by omega, by omega⟩
end

end Gr

namespace Gr
open PySem PySem.Spec PyProof.Rows L2
local macro_rules | `(tactic| walk_at "n") => `(tactic| try simp only [u_tVar, u_tC, u_tB, u_tTest, u_tAnd, u_tOr, u_tNot, u_tAndV, u_tOrV, u_tNotV, u_tIf, u_tNext, u_tSeq, u_tBreak, u_tCont, u_tDrop, u_tRet, u_tRetN, u_tIfS, u_tNever, u_gName, u_tAsg, u_tPar, u_gSub, u_tOp, u_tUn, u_tChain, u_tNil, u_tCons, u_tTup, u_tLst, u_tCB, u_tCall, u_tNoPart, u_tPart, u_tSl, u_tYes, u_iList', u_iTup', u_tLc, u_tDc, u_tFor, u_iRng1, u_iRng2, u_iEnum, u_iEnumT, u_iZip, u_iZip3, L2.wipe, u_sDPut', u_tDGet', u_tDNewK, u_tFld', u_sFld, u_gTup, u_gCons, u_gNil, u_tMeth, u_tCKw, u_tMake, u_tMethC, u_tNdefM, u_tCallL, u_tLstRg, v_rI0, v_rI, v_eqI, v_neI, v_eqS, v_neS, v_bl, v_int, v_ref, v_some, v_two, w_insert_tell, w_remove_tell, w_remove_insert, w_move_tell, w_move_insert, w_move_remove, w_copy_tell, w_copy_insert, w_copy_remove, w_copy_move, w_rows_table, w_columns_table, w_cells_table, w_rows_cells, w_columns_cells, w_columns_rows, w_cells_rows, w_cells_columns, w_rows_columns, w_table_cells, w_table_rows, w_table_columns, w_column_row, w_plain_like, w_like_plain, w_old_new, w_new_old, w_newest_nearest, w_nearest_newest, w_ink_ground, w_ink_face, w_ground_ink, w_ground_face, w_face_ink, w_face_ground, w_whole_lanes, w_whole_files, w_whole_spots, w_lanes_files, w_lanes_spots, w_files_spots, List.getElem?_cons_zero, List.getElem?_cons_succ, List.set_cons_zero, List.set_cons_succ, List.append_nil, Bool.not_true, Bool.not_false, eq_self, if_true, Bool.false_eq_true, if_false, decide_true, decide_false, v_max, v_min, v_intQ, v_isN, v_notN, reduceCtorEq, Nat.reduceAdd, Nat.zero_add, Int.cast_ofNat_Int, Int.reduceEq, Int.reduceLE, Int.reduceLT, Int.reduceAdd, List.cons_append, List.nil_append, List.map_cons, List.map_nil, Sc.vs, ov, De.vs, how, List.length_cons, List.length_nil])
local macro_rules | `(tactic| walk_at "x") => `(tactic| first | refine ixT (by assumption) rfl ?_ | refine ixL (by assumption) rfl ?_ | refine lenT (by assumption) rfl ?_ | refine lenL (by assumption) rfl ?_ | refine isi (.base (.int _)) kit_int_int ?_ | refine isi (.base (.int _)) kit_int_str ?_ | refine isi (.base (.int _)) kit_int_bool ?_ | refine isi (.base (.int _)) kit_int_tuple ?_ | refine isi (.base (.int _)) kit_int_list ?_ | refine isi (.base (.str _)) kit_str_int ?_ | refine isi (.base (.str _)) kit_str_str ?_ | refine isi (.base (.str _)) kit_str_bool ?_ | refine isi (.base (.str _)) kit_str_tuple ?_ | refine isi (.base (.str _)) kit_str_list ?_ | refine isi (.base (.bl _)) kit_bool_int ?_ | refine isi (.base (.bl _)) kit_bool_str ?_ | refine isi (.base (.bl _)) kit_bool_bool ?_ | refine isi (.base (.bl _)) kit_bool_tuple ?_ | refine isi (.base (.bl _)) kit_bool_list ?_ | refine isi (.base (.tup (by assumption))) kit_tuple_int ?_ | refine isi (.base (.tup (by assumption))) kit_tuple_str ?_ | refine isi (.base (.tup (by assumption))) kit_tuple_bool ?_ | refine isi (.base (.tup (by assumption))) kit_tuple_tuple ?_ | refine isi (.base (.tup (by assumption))) kit_tuple_list ?_ | refine isi (.base (.lst (by assumption))) kit_list_int ?_ | refine isi (.base (.lst (by assumption))) kit_list_str ?_ | refine isi (.base (.lst (by assumption))) kit_list_bool ?_ | refine isi (.base (.lst (by assumption))) kit_list_tuple ?_ | refine isi (.base (.lst (by assumption))) kit_list_list ?_ | refine isi (.base (.non)) kit_NoneType_int ?_ | refine isi (.base (.non)) kit_NoneType_str ?_ | refine isi (.base (.non)) kit_NoneType_bool ?_ | refine isi (.base (.non)) kit_NoneType_tuple ?_ | refine isi (.base (.non)) kit_NoneType_list ?_)
local macro_rules | `(tactic| walk_at "g") => `(tactic| (repeat (walk_at "n"; walk_at "x")); walk_at "n")

-- Gr6
/-! ### a row of deeds drawn -/
theorem Gd.updN {L D : Addr} {H0 H : Hp} (g : Gd L H0 H) (h : H0 D = none) (o : HO) : Gd L H0 (upd H D o) := ⟨fun b u n e => by
  rw [upd_ne (ne_of_none e h)]
  exact g.gr b u n e, fun b e => by
  by_cases z : b = D
  · rw [z]
    exact h
  · rw [upd_ne z] at e
    exact g.mono b e, fun x xs e => by
  obtain ⟨ys, e2⟩ := g.hd x xs e
  exact ⟨ys, by rw [upd_ne (ne_of_none e h)]; exact e2⟩⟩
theorem lc_gd {L : Addr} {H1 : Hp} {g : TG} {tt : TT} {te : TE} {σ : L2.St} {Q : VK} {vs : List Nat} {J : It} {n : Nat} {G : Hp → Prop} {Y : Nat → Hp → V → Hp → Prop} (w : Walk J n G Y) (Iv : Addr → Nat → List V → Hp → Prop) (hn : n ≤ 1000) (hL : H1 L ≠ none)
    (len : ∀ D i acc H, Iv D i acc H → acc.length ≤ i) (h0 : ∀ D, H1 D = none → Iv D 0 [] (upd H1 D (.lst []))) (hG : ∀ H, Gd L H1 H → G H)
    (step : ∀ D i x H H' acc (k : VK) (kn : Hp → Prop), H1 D = none → i < n → Gd L H1 H → H D = some (.lst acc) → Iv D i acc H → Y i H x H' → (∀ y H3, Gd L H H3 → Iv D (i + 1) (acc ++ [y]) (upd H3 D (.lst (acc ++ [y]))) → k y H3) → (∀ H3, Gd L H H3 → Iv D (i + 1) acc H3 → kn H3) →
      g x (wipe σ vs) H' fun σ2 H2 => wipe σ2 vs = wipe σ vs ∧ tt σ2 H2 fun b H3 => if b = true then te σ2 H3 k else kn H3)
    (fin : ∀ D ys H, H1 D = none → Gd L H1 H → H D = some (.lst ys) → Iv D n ys H → Q (.ref D) H) : LcT J g tt te vs σ H1 Q := fun D hD => by
  have nD : D ≠ L := fun e => hL (by rw [← e]; exact hD)
  refine lc_it w (fun i H => Gd L H1 H ∧ ∃ acc, H D = some (.lst acc) ∧ Iv D i acc H) ⟨(Gd.refl L H1).updN hD _, [], upd_same, h0 D hD⟩ (fun i H _ p => hG H p.1) ?_ ?_
  · rintro i x H H' hi ⟨gr, acc, hacc, hI⟩ y
    have hl := len D i acc H hI
    refine step D i x H H' acc _ _ hD hi gr hacc hI y (fun z H3 s1 i1 => ?_) fun H3 s1 i1 => ?_
    · exact ⟨acc, s1.gr _ _ nD hacc, by have := (by decide : 1000 < sizeLine); omega, (gr.trans s1).updN hD _, _, upd_same, i1⟩
    · exact ⟨gr.trans s1, acc, s1.gr _ _ nD hacc, i1⟩
  · rintro H ⟨gr, acc, hacc, hI⟩
    exact fin D acc H hD gr hacc hI
theorem DeAt.tups {H H' : Hp} {v : V} {d : De} (h : DeAt H v d) (e : TupS H H') : DeAt H' v d := h.same e
section
variable {P : Program} {w : World} {K : PySem.W.Frag} {mg : Str → Option Value} {fds : Str → FuncData} {base : Heap}
abbrev s__law_row : Stmt := top 54
abbrev N__law_row : List Str := ["_law_draws", "_law_most", "_law_k"]
theorem sc__law_row : FnScope N__law_row ["_law_draws", "_law_most"] (defScope s__law_row) := ⟨rfl, rfl, rfl, by decide +kernel, rfl, by decide +kernel, by decide +kernel⟩
def spLRow : Sp := fun vs H Q _ => ∃ (L : Addr) (m : Nat), vs = [.ref L, .int (m : Int)] ∧ DrAt H L ∧ m ≤ 5 ∧ ∀ H' l us (ds : List De), Gd L H H' → DrAt H' L → l ≠ L → H' l = some (.lst us) → Paired (DeAt H') us ds → (∀ d ∈ ds, d.ok) → ds.length ≤ m → Q (.ref l) H'
theorem ok__law_row (T : Txt K mg fds) : FnOk P w K mg base CX0 6 (He.ga K "_law_row") (fds "_law_row") ["_law_draws", "_law_most"] spLRow := by
  refine T.d__law_row.fn.ok sc__law_row (fun vs H Q E h => ?_) (fun cdv A outer s H vs Q E hr h => ?_)
  · obtain ⟨L, m, rfl, _⟩ := h; rfl
  · obtain ⟨L, m, rfl, hd, hm, k⟩ := h
    have nd := sc__law_row.nd
    refine ⟨_, PSs.nox (pss_one (ps_ret (pe_lc (own := [("_law_k", 2)]) rfl nd (pi_range1 (by rfl) T.g_range (pa_cons (pe_fn T.d__law_draw (ok__law_draw T) hr rfl (pa_cons (pv 0) (pa_cons (pe_op op_add (pv 1) pe_int) pa_nil))) pa_nil)) (blkOk_by (N := N__law_row) (sc := (defScope s__law_row)) (by decide +kernel)) (fun _ _ _ _ _ => (pg_name (i := 2) nd rfl (by first | exact Or.inl rfl | exact Or.inr rfl))) (fun _ _ _ _ _ => pts_nil) (fun _ _ _ _ _ => (pe_fn T.d__law_deed (ok__law_deed T) hr rfl (pa_cons (pv 0) pa_nil)))))), ?_⟩
    rw [show L2.start N__law_row [.ref L, .int (m : Int)] = [some (.ref L), some (.int (m : Int)), none] from rfl]
    walk_at "n"
    rw [show (m : Int) + 1 = ((m + 1 : Nat) : Int) by omega]
    refine ⟨L, m + 1, rfl, hd, by omega, by omega, fun H1 n g1 hd1 hn => ?_⟩
    refine rg1 (by omega) (by omega) ?_
    rw [Int.toNat_natCast]
    refine lc_gd (L := L) (n := n) (G := fun _ => True) walk_range (fun D i acc H => DrAt H L ∧ ∃ ds : List De, acc.length = i ∧ Paired (DeAt H) acc ds ∧ ∀ d ∈ ds, d.ok) (by omega) (fun z => by obtain ⟨xs, e⟩ := hd1.lst; rw [e] at z; cases z) (fun D i acc H h => ?_) (fun D hD => ⟨hd1.same (Same.upd _ hD), [], rfl, .nil, fun d hd => by cases hd⟩) (fun _ _ => trivial) (fun D i v H2 H3 acc k1 k2 hD hi gr hacc hI y hk1 hk2 => ?_) fun D ys H2 hD gr hys hI => ?_
    · obtain ⟨_, ds, h, _⟩ := h
      exact Nat.le_of_eq h
    · obtain ⟨rfl, rfl⟩ := y
      obtain ⟨hdr, ds, hl, hp, hok⟩ := hI
      walk_at "n"
      refine ⟨trivial, L, rfl, hdr, fun H4 v d g4 hd4 hat hdk => ?_⟩
      have ts4 := g4.tups hdr.lst
      have nD : D ≠ L := dr_new hd1 hD
      have hacc4 := g4.gr _ _ nD hacc
      have tsu : TupS H4 (upd H4 D (.lst (acc ++ [v]))) := TupS.upd fun xs z => by rw [hacc4] at z; cases z
      refine hk1 v H4 g4 ⟨?_, ds ++ [d], by rw [List.length_append, hl]; rfl, paired_app (Paired.mapP hp fun _ _ z => (z.tups ts4).tups tsu) (.cons (hat.tups tsu) .nil), fun e he => ?_⟩
      · obtain ⟨S, ns, i, b, st, h1, h2, h3⟩ := hd4
        refine ⟨S, ns, i, b, st, by rw [upd_ne nD.symm]; exact h1, ?_, h3⟩
        rw [upd_ne fun z => ?_]
        · exact h2
        · obtain ⟨S1, ns1, i1, b1, st1, q1, q2, _⟩ := hd1
          obtain ⟨ys, e5⟩ := (gr.trans g4).hd _ _ q1
          rw [h1] at e5
          cases e5
          rw [z, hD] at q2
          cases q2
      · rcases List.mem_append.mp he with z | z
        · exact hok e z
        · rw [List.mem_singleton.mp z]
          exact hdk
    · obtain ⟨hdr, ds, hl, hp, hok⟩ := hI
      exact k H2 D ys ds (g1.trans gr) hdr (dr_new hd1 hD) hys hp hok (by have := hp.length; omega)
end

end Gr

namespace Gr
open PySem PySem.Spec PyProof.Rows L2
local macro_rules | `(tactic| walk_at "n") => `(tactic| try simp only [u_tVar, u_tC, u_tB, u_tTest, u_tAnd, u_tOr, u_tNot, u_tAndV, u_tOrV, u_tNotV, u_tIf, u_tNext, u_tSeq, u_tBreak, u_tCont, u_tDrop, u_tRet, u_tRetN, u_tIfS, u_tNever, u_gName, u_tAsg, u_tPar, u_gSub, u_tOp, u_tUn, u_tChain, u_tNil, u_tCons, u_tTup, u_tLst, u_tCB, u_tCall, u_tNoPart, u_tPart, u_tSl, u_tYes, u_iList', u_iTup', u_tLc, u_tDc, u_tFor, u_iRng1, u_iRng2, u_iEnum, u_iEnumT, u_iZip, u_iZip3, L2.wipe, u_sDPut', u_tDGet', u_tDNewK, u_tFld', u_sFld, u_gTup, u_gCons, u_gNil, u_tMeth, u_tCKw, u_tMake, u_tMethC, u_tNdefM, u_tCallL, u_tLstRg, v_rI0, v_rI, v_eqI, v_neI, v_eqS, v_neS, v_bl, v_int, v_ref, v_some, v_two, w_insert_tell, w_remove_tell, w_remove_insert, w_move_tell, w_move_insert, w_move_remove, w_copy_tell, w_copy_insert, w_copy_remove, w_copy_move, w_rows_table, w_columns_table, w_cells_table, w_rows_cells, w_columns_cells, w_columns_rows, w_cells_rows, w_cells_columns, w_rows_columns, w_table_cells, w_table_rows, w_table_columns, w_column_row, w_plain_like, w_like_plain, w_old_new, w_new_old, w_newest_nearest, w_nearest_newest, w_ink_ground, w_ink_face, w_ground_ink, w_ground_face, w_face_ink, w_face_ground, w_whole_lanes, w_whole_files, w_whole_spots, w_lanes_files, w_lanes_spots, w_files_spots, List.getElem?_cons_zero, List.getElem?_cons_succ, List.set_cons_zero, List.set_cons_succ, List.append_nil, Bool.not_true, Bool.not_false, eq_self, if_true, Bool.false_eq_true, if_false, decide_true, decide_false, v_max, v_min, v_intQ, v_isN, v_notN, reduceCtorEq, Nat.reduceAdd, Nat.zero_add, Int.cast_ofNat_Int, Int.reduceEq, Int.reduceLE, Int.reduceLT, Int.reduceAdd, List.cons_append, List.nil_append, List.map_cons, List.map_nil, Sc.vs, ov, De.vs, how, List.length_cons, List.length_nil])
local macro_rules | `(tactic| walk_at "x") => `(tactic| first | refine ixT (by assumption) rfl ?_ | refine ixL (by assumption) rfl ?_ | refine lenT (by assumption) rfl ?_ | refine lenL (by assumption) rfl ?_ | refine isi (.base (.int _)) kit_int_int ?_ | refine isi (.base (.int _)) kit_int_str ?_ | refine isi (.base (.int _)) kit_int_bool ?_ | refine isi (.base (.int _)) kit_int_tuple ?_ | refine isi (.base (.int _)) kit_int_list ?_ | refine isi (.base (.str _)) kit_str_int ?_ | refine isi (.base (.str _)) kit_str_str ?_ | refine isi (.base (.str _)) kit_str_bool ?_ | refine isi (.base (.str _)) kit_str_tuple ?_ | refine isi (.base (.str _)) kit_str_list ?_ | refine isi (.base (.bl _)) kit_bool_int ?_ | refine isi (.base (.bl _)) kit_bool_str ?_ | refine isi (.base (.bl _)) kit_bool_bool ?_ | refine isi (.base (.bl _)) kit_bool_tuple ?_ | refine isi (.base (.bl _)) kit_bool_list ?_ | refine isi (.base (.tup (by assumption))) kit_tuple_int ?_ | refine isi (.base (.tup (by assumption))) kit_tuple_str ?_ | refine isi (.base (.tup (by assumption))) kit_tuple_bool ?_ | refine isi (.base (.tup (by assumption))) kit_tuple_tuple ?_ | refine isi (.base (.tup (by assumption))) kit_tuple_list ?_ | refine isi (.base (.lst (by assumption))) kit_list_int ?_ | refine isi (.base (.lst (by assumption))) kit_list_str ?_ | refine isi (.base (.lst (by assumption))) kit_list_bool ?_ | refine isi (.base (.lst (by assumption))) kit_list_tuple ?_ | refine isi (.base (.lst (by assumption))) kit_list_list ?_ | refine isi (.base (.non)) kit_NoneType_int ?_ | refine isi (.base (.non)) kit_NoneType_str ?_ | refine isi (.base (.non)) kit_NoneType_bool ?_ | refine isi (.base (.non)) kit_NoneType_tuple ?_ | refine isi (.base (.non)) kit_NoneType_list ?_)
local macro_rules | `(tactic| walk_at "g") => `(tactic| (repeat (walk_at "n"; walk_at "x")); walk_at "n")

-- Gr6
/-! ### like -/
theorem isT {K : PySem.W.Frag} {H : Hp} {Q : VK} {a : Addr} {xs : List V} {b : String} {r : Bool} (h : SqT K H a xs) (e : kitB "tuple" b = some r) (q : Q (.bl r) H) : rIsi K [.ref a, .ty b] H Q := by
  rcases h with (h | ⟨o, h⟩) | ⟨o, its, n, h1, h2, _⟩
  · exact isi (.base (.tup h)) e q
  · exact isi (.fTuple h) e q
  · exact isi (.kTuple h1 h2) e q
def LkI (v w : V) : Prop := ∃ n : Int, v = .int n ∧ w = .int n
def LkT (K : PySem.W.Frag) (H : Hp) (v w : V) : Prop := ∃ ns : List Nat, TupN K H v ns ∧ TupN K H w ns ∧ ns.length ≤ 6
theorem nV_len (ns : List Nat) : (nV ns).length = ns.length := by simp [nV]
section
variable {P : Program} {w : World} {K : PySem.W.Frag} {mg : Str → Option Value} {fds : Str → FuncData} {base : Heap}
abbrev s_like_t : Stmt := top 56
abbrev N_like_t : List Str := ["_law_actual", "_law_due", "_law_k"]
theorem sc_like_t : FnScope N_like_t ["_law_actual", "_law_due"] (defScope s_like_t) := ⟨rfl, rfl, rfl, by decide +kernel, rfl, by decide +kernel, by decide +kernel⟩
abbrev s_like_l : Stmt := top 56
abbrev N_like_l : List Str := ["_law_actual", "_law_due", "_law_k"]
theorem sc_like_l : FnScope N_like_l ["_law_actual", "_law_due"] (defScope s_like_l) := ⟨rfl, rfl, rfl, by decide +kernel, rfl, by decide +kernel, by decide +kernel⟩
def spLk1 : Sp := fun vs H Q _ => ∃ v w, vs = [v, w] ∧ LkI v w ∧ Q (.bl true) H
def spLk2 (K : PySem.W.Frag) : Sp := fun vs H Q _ => ∃ v w, vs = [v, w] ∧ (LkI v w ∨ LkT K H v w) ∧ Q (.bl true) H
def spLk3 (K : PySem.W.Frag) : Sp := fun vs H Q _ => ∃ a b us ws, vs = [.ref a, .ref b] ∧ H a = some (.lst us) ∧ H b = some (.lst ws) ∧ Paired (fun v w => LkI v w ∨ LkT K H v w) us ws ∧ us.length ≤ 90000 ∧ Q (.bl true) H
theorem like_1 (T : Txt K mg fds) : FnOk P w K mg base CX0 1 (He.ga K "_law_like") (fds "_law_like") ["_law_actual", "_law_due"] spLk1 := by
  have F : FnOk P w K mg base CX0 0 (He.ga K "_law_like") (fds "_law_like") ["_law_actual", "_law_due"] (fun _ _ _ _ => False) := ok_False
  refine T.d__law_like.fn.ok sc_like_t (fun vs H Q E h => ?_) (fun cdv A outer s H vs Q E hr h => ?_)
  · obtain ⟨v, w, rfl, _⟩ := h; rfl
  · obtain ⟨v, w, rfl, ⟨n, rfl, rfl⟩, k⟩ := h
    have nd := sc_like_t.nd
    refine ⟨_, PSs.nox (pss_cons (ps_if (pt_cmpR op_isQ (pv 1) pe_non (nomark _))
        (pss_one (ps_ret (pe_cmpR op_isQ (pv 0) pe_non (nomark _))))
        pss_nil)
      (pss_cons (ps_if (pt_val (pe_callB call_isi (by rfl) T.g_isinstance (by decide +kernel) (pa_cons (pv 1) (pa_cons (pe_bltn (v := .ty "bool") (by rfl) T.g_bool (by decide +kernel) rfl) pa_nil))))
        (pss_one (ps_ret (pe_and (pe_callB call_isi (by rfl) T.g_isinstance (by decide +kernel) (pa_cons (pv 0) (pa_cons (pe_bltn (v := .ty "bool") (by rfl) T.g_bool (by decide +kernel) rfl) pa_nil))) (pe_one (pe_cmpR op_eq (pv 0) (pv 1) (nomark _))))))
        pss_nil)
      (pss_cons (ps_if (pt_val (pe_callB call_isi (by rfl) T.g_isinstance (by decide +kernel) (pa_cons (pv 1) (pa_cons (pe_bltn (v := .ty "int") (by rfl) T.g_int (by decide +kernel) rfl) pa_nil))))
        (pss_one (ps_ret (pe_and (pe_callB call_isi (by rfl) T.g_isinstance (by decide +kernel) (pa_cons (pv 0) (pa_cons (pe_bltn (v := .ty "int") (by rfl) T.g_int (by decide +kernel) rfl) pa_nil))) (pe_and (pe_not (pe_callB call_isi (by rfl) T.g_isinstance (by decide +kernel) (pa_cons (pv 0) (pa_cons (pe_bltn (v := .ty "bool") (by rfl) T.g_bool (by decide +kernel) rfl) pa_nil)))) (pe_one (pe_cmpR op_eq (pv 0) (pv 1) (nomark _)))))))
        pss_nil)
      (pss_cons (ps_if (pt_val (pe_callB call_isi (by rfl) T.g_isinstance (by decide +kernel) (pa_cons (pv 1) (pa_cons (pe_bltn (v := .ty "str") (by rfl) T.g_str (by decide +kernel) rfl) pa_nil))))
        (pss_one (ps_ret (pe_and (pe_callB call_isi (by rfl) T.g_isinstance (by decide +kernel) (pa_cons (pv 0) (pa_cons (pe_bltn (v := .ty "str") (by rfl) T.g_str (by decide +kernel) rfl) pa_nil))) (pe_one (pe_cmpR op_eq (pv 0) (pv 1) (nomark _))))))
        pss_nil)
      (pss_cons (ps_if (pt_val (pe_callB call_isi (by rfl) T.g_isinstance (by decide +kernel) (pa_cons (pv 1) (pa_cons (pe_bltn (v := .ty "tuple") (by rfl) T.g_tuple (by decide +kernel) rfl) pa_nil))))
        (pss_one (ps_if (PW.pt (pw_or (pt_not (pt_val (pe_callB call_isi (by rfl) T.g_isinstance (by decide +kernel) (pa_cons (pv 0) (pa_cons (pe_bltn (v := .ty "tuple") (by rfl) T.g_tuple (by decide +kernel) rfl) pa_nil))))) (pw_or1 (pt_cmpR op_ne (pe_callB call_lenQ (by rfl) T.g_len (by decide +kernel) (pa_cons (pv 0) pa_nil)) (pe_callB call_lenQ (by rfl) T.g_len (by decide +kernel) (pa_cons (pv 1) pa_nil)) (nomark _)))))
          (pss_one (ps_ret pe_bl))
          pss_nil))
        (pss_one (ps_if (PW.pt (pw_or (pt_not (pt_val (pe_callB call_isi (by rfl) T.g_isinstance (by decide +kernel) (pa_cons (pv 0) (pa_cons (pe_bltn (v := .ty "list") (by rfl) T.g_list (by decide +kernel) rfl) pa_nil))))) (pw_or1 (pt_cmpR op_ne (pe_callB call_lenQ (by rfl) T.g_len (by decide +kernel) (pa_cons (pv 0) pa_nil)) (pe_callB call_lenQ (by rfl) T.g_len (by decide +kernel) (pa_cons (pv 1) pa_nil)) (nomark _)))))
          (pss_one (ps_ret pe_bl))
          pss_nil)))
      (pss_cons (ps_for PassesOwn.never rfl (pi_range1 (by rfl) T.g_range (pa_cons (pe_callB call_lenQ (by rfl) T.g_len (by decide +kernel) (pa_cons (pv 1) pa_nil)) pa_nil)) (pg_name (i := 2) nd rfl (by first | exact Or.inl rfl | exact Or.inr rfl))
        (pss_one (ps_if (pt_not (pt_val (pe_fn T.d__law_like F hr rfl (pa_cons (pe_ix ix_tup (pv 0) (pv 2) (fun _ _ => rfl)) (pa_cons (pe_ix ix_tup (pv 1) (pv 2) (fun _ _ => rfl)) pa_nil)))))
          (pss_one (ps_ret pe_bl))
          pss_nil)))
      (pss_one (ps_ret pe_bl)))))))), ?_⟩
    rw [show L2.start N_like_t [.int n, .int n] = [some (.int n), some (.int n), none] from rfl]
    walk_at "g"
    exact k
theorem like_2 (T : Txt K mg fds) : FnOk P w K mg base CX0 2 (He.ga K "_law_like") (fds "_law_like") ["_law_actual", "_law_due"] (spLk2 K) := by
  have F := like_1 (P := P) (w := w) (base := base) T
  refine T.d__law_like.fn.ok sc_like_t (fun vs H Q E h => ?_) (fun cdv A outer s H vs Q E hr h => ?_)
  · obtain ⟨v, w, rfl, _⟩ := h; rfl
  · obtain ⟨v, w, rfl, h, k⟩ := h
    have nd := sc_like_t.nd
    refine ⟨_, PSs.nox (pss_cons (ps_if (pt_cmpR op_isQ (pv 1) pe_non (nomark _))
        (pss_one (ps_ret (pe_cmpR op_isQ (pv 0) pe_non (nomark _))))
        pss_nil)
      (pss_cons (ps_if (pt_val (pe_callB call_isi (by rfl) T.g_isinstance (by decide +kernel) (pa_cons (pv 1) (pa_cons (pe_bltn (v := .ty "bool") (by rfl) T.g_bool (by decide +kernel) rfl) pa_nil))))
        (pss_one (ps_ret (pe_and (pe_callB call_isi (by rfl) T.g_isinstance (by decide +kernel) (pa_cons (pv 0) (pa_cons (pe_bltn (v := .ty "bool") (by rfl) T.g_bool (by decide +kernel) rfl) pa_nil))) (pe_one (pe_cmpR op_eq (pv 0) (pv 1) (nomark _))))))
        pss_nil)
      (pss_cons (ps_if (pt_val (pe_callB call_isi (by rfl) T.g_isinstance (by decide +kernel) (pa_cons (pv 1) (pa_cons (pe_bltn (v := .ty "int") (by rfl) T.g_int (by decide +kernel) rfl) pa_nil))))
        (pss_one (ps_ret (pe_and (pe_callB call_isi (by rfl) T.g_isinstance (by decide +kernel) (pa_cons (pv 0) (pa_cons (pe_bltn (v := .ty "int") (by rfl) T.g_int (by decide +kernel) rfl) pa_nil))) (pe_and (pe_not (pe_callB call_isi (by rfl) T.g_isinstance (by decide +kernel) (pa_cons (pv 0) (pa_cons (pe_bltn (v := .ty "bool") (by rfl) T.g_bool (by decide +kernel) rfl) pa_nil)))) (pe_one (pe_cmpR op_eq (pv 0) (pv 1) (nomark _)))))))
        pss_nil)
      (pss_cons (ps_if (pt_val (pe_callB call_isi (by rfl) T.g_isinstance (by decide +kernel) (pa_cons (pv 1) (pa_cons (pe_bltn (v := .ty "str") (by rfl) T.g_str (by decide +kernel) rfl) pa_nil))))
        (pss_one (ps_ret (pe_and (pe_callB call_isi (by rfl) T.g_isinstance (by decide +kernel) (pa_cons (pv 0) (pa_cons (pe_bltn (v := .ty "str") (by rfl) T.g_str (by decide +kernel) rfl) pa_nil))) (pe_one (pe_cmpR op_eq (pv 0) (pv 1) (nomark _))))))
        pss_nil)
      (pss_cons (ps_if (pt_val (pe_callB call_isi (by rfl) T.g_isinstance (by decide +kernel) (pa_cons (pv 1) (pa_cons (pe_bltn (v := .ty "tuple") (by rfl) T.g_tuple (by decide +kernel) rfl) pa_nil))))
        (pss_one (ps_if (PW.pt (pw_or (pt_not (pt_val (pe_callB call_isi (by rfl) T.g_isinstance (by decide +kernel) (pa_cons (pv 0) (pa_cons (pe_bltn (v := .ty "tuple") (by rfl) T.g_tuple (by decide +kernel) rfl) pa_nil))))) (pw_or1 (pt_cmpR op_ne (pe_callB call_lenQ (by rfl) T.g_len (by decide +kernel) (pa_cons (pv 0) pa_nil)) (pe_callB call_lenQ (by rfl) T.g_len (by decide +kernel) (pa_cons (pv 1) pa_nil)) (nomark _)))))
          (pss_one (ps_ret pe_bl))
          pss_nil))
        (pss_one (ps_if (PW.pt (pw_or (pt_not (pt_val (pe_callB call_isi (by rfl) T.g_isinstance (by decide +kernel) (pa_cons (pv 0) (pa_cons (pe_bltn (v := .ty "list") (by rfl) T.g_list (by decide +kernel) rfl) pa_nil))))) (pw_or1 (pt_cmpR op_ne (pe_callB call_lenQ (by rfl) T.g_len (by decide +kernel) (pa_cons (pv 0) pa_nil)) (pe_callB call_lenQ (by rfl) T.g_len (by decide +kernel) (pa_cons (pv 1) pa_nil)) (nomark _)))))
          (pss_one (ps_ret pe_bl))
          pss_nil)))
      (pss_cons (ps_for PassesOwn.never rfl (pi_range1 (by rfl) T.g_range (pa_cons (pe_callB call_lenQ (by rfl) T.g_len (by decide +kernel) (pa_cons (pv 1) pa_nil)) pa_nil)) (pg_name (i := 2) nd rfl (by first | exact Or.inl rfl | exact Or.inr rfl))
        (pss_one (ps_if (pt_not (pt_val (pe_fn T.d__law_like F hr rfl (pa_cons (pe_ix ix_tup (pv 0) (pv 2) (fun _ _ => rfl)) (pa_cons (pe_ix ix_tup (pv 1) (pv 2) (fun _ _ => rfl)) pa_nil)))))
          (pss_one (ps_ret pe_bl))
          pss_nil)))
      (pss_one (ps_ret pe_bl)))))))), ?_⟩
    rw [show L2.start N_like_t [v, w] = [some v, some w, none] from rfl]
    rcases h with ⟨n, rfl, rfl⟩ | ⟨ns, ⟨a, rfl, ha⟩, ⟨b, rfl, hb⟩, h6⟩
    · walk_at "g"
      exact k
    · walk_at "n"
      refine isT hb kit_tuple_bool ?_
      walk_at "n"
      refine isT hb kit_tuple_int ?_
      walk_at "n"
      refine isT hb kit_tuple_str ?_
      walk_at "n"
      refine isT hb kit_tuple_tuple ?_
      walk_at "n"
      refine isT ha kit_tuple_tuple ?_
      walk_at "n"
      refine lenSq ha rfl ?_
      refine lenSq hb rfl ?_
      walk_at "n"
      refine lenSq hb rfl ?_
      refine rg1 (by omega) (by rw [nV_len]; omega) ?_
      rw [Int.toNat_natCast]
      refine forW (n := (nV ns).length) (G := fun _ => True) walk_range (fun i σ HH => HH = H ∧ ∃ k2 : Option V, σ = [some (.ref a), some (.ref b), k2]) ⟨rfl, none, rfl⟩ (fun _ _ _ _ _ => trivial) ?_ ?_
      · rintro i v σ H2 H3 hi ⟨rfl, k2, rfl⟩ ⟨rfl, rfl⟩
        rw [nV_len] at hi
        have hx : (nV ns)[i]? = some (.int ((ns[i] : Nat) : Int)) := by
          unfold nV
          rw [List.getElem?_map, List.getElem?_eq_getElem hi]
          rfl
        walk_at "n"
        rw [show (0 : Int) + (i : Int) = (i : Int) by omega]
        refine ⟨a, _, _, _, rfl, rfl, ha, atI_nat hx, ?_⟩
        refine ⟨b, _, _, _, rfl, rfl, hb, atI_nat hx, ?_⟩
        refine ⟨_, _, rfl, ⟨_, rfl, rfl⟩, ?_⟩
        walk_at "n"
        exact ⟨trivial, _, rfl⟩
      · rintro σ HH ⟨rfl, k2, rfl⟩
        walk_at "n"
        exact k
theorem ok__law_like (T : Txt K mg fds) : FnOk P w K mg base CX0 3 (He.ga K "_law_like") (fds "_law_like") ["_law_actual", "_law_due"] (spLk3 K) := by
  have F := like_2 (P := P) (w := w) (base := base) T
  refine T.d__law_like.fn.ok sc_like_l (fun vs H Q E h => ?_) (fun cdv A outer s H vs Q E hr h => ?_)
  · obtain ⟨a, b, us, ws, rfl, _⟩ := h; rfl
  · obtain ⟨a, b, us, ws, rfl, ha, hb, hp, h6, k⟩ := h
    have nd := sc_like_l.nd
    have hl := hp.length
    refine ⟨_, PSs.nox (pss_cons (ps_if (pt_cmpR op_isQ (pv 1) pe_non (nomark _))
        (pss_one (ps_ret (pe_cmpR op_isQ (pv 0) pe_non (nomark _))))
        pss_nil)
      (pss_cons (ps_if (pt_val (pe_callB call_isi (by rfl) T.g_isinstance (by decide +kernel) (pa_cons (pv 1) (pa_cons (pe_bltn (v := .ty "bool") (by rfl) T.g_bool (by decide +kernel) rfl) pa_nil))))
        (pss_one (ps_ret (pe_and (pe_callB call_isi (by rfl) T.g_isinstance (by decide +kernel) (pa_cons (pv 0) (pa_cons (pe_bltn (v := .ty "bool") (by rfl) T.g_bool (by decide +kernel) rfl) pa_nil))) (pe_one (pe_cmpR op_eq (pv 0) (pv 1) (nomark _))))))
        pss_nil)
      (pss_cons (ps_if (pt_val (pe_callB call_isi (by rfl) T.g_isinstance (by decide +kernel) (pa_cons (pv 1) (pa_cons (pe_bltn (v := .ty "int") (by rfl) T.g_int (by decide +kernel) rfl) pa_nil))))
        (pss_one (ps_ret (pe_and (pe_callB call_isi (by rfl) T.g_isinstance (by decide +kernel) (pa_cons (pv 0) (pa_cons (pe_bltn (v := .ty "int") (by rfl) T.g_int (by decide +kernel) rfl) pa_nil))) (pe_and (pe_not (pe_callB call_isi (by rfl) T.g_isinstance (by decide +kernel) (pa_cons (pv 0) (pa_cons (pe_bltn (v := .ty "bool") (by rfl) T.g_bool (by decide +kernel) rfl) pa_nil)))) (pe_one (pe_cmpR op_eq (pv 0) (pv 1) (nomark _)))))))
        pss_nil)
      (pss_cons (ps_if (pt_val (pe_callB call_isi (by rfl) T.g_isinstance (by decide +kernel) (pa_cons (pv 1) (pa_cons (pe_bltn (v := .ty "str") (by rfl) T.g_str (by decide +kernel) rfl) pa_nil))))
        (pss_one (ps_ret (pe_and (pe_callB call_isi (by rfl) T.g_isinstance (by decide +kernel) (pa_cons (pv 0) (pa_cons (pe_bltn (v := .ty "str") (by rfl) T.g_str (by decide +kernel) rfl) pa_nil))) (pe_one (pe_cmpR op_eq (pv 0) (pv 1) (nomark _))))))
        pss_nil)
      (pss_cons (ps_if (pt_val (pe_callB call_isi (by rfl) T.g_isinstance (by decide +kernel) (pa_cons (pv 1) (pa_cons (pe_bltn (v := .ty "tuple") (by rfl) T.g_tuple (by decide +kernel) rfl) pa_nil))))
        (pss_one (ps_if (PW.pt (pw_or (pt_not (pt_val (pe_callB call_isi (by rfl) T.g_isinstance (by decide +kernel) (pa_cons (pv 0) (pa_cons (pe_bltn (v := .ty "tuple") (by rfl) T.g_tuple (by decide +kernel) rfl) pa_nil))))) (pw_or1 (pt_cmpR op_ne (pe_callB call_lenQ (by rfl) T.g_len (by decide +kernel) (pa_cons (pv 0) pa_nil)) (pe_callB call_lenQ (by rfl) T.g_len (by decide +kernel) (pa_cons (pv 1) pa_nil)) (nomark _)))))
          (pss_one (ps_ret pe_bl))
          pss_nil))
        (pss_one (ps_if (PW.pt (pw_or (pt_not (pt_val (pe_callB call_isi (by rfl) T.g_isinstance (by decide +kernel) (pa_cons (pv 0) (pa_cons (pe_bltn (v := .ty "list") (by rfl) T.g_list (by decide +kernel) rfl) pa_nil))))) (pw_or1 (pt_cmpR op_ne (pe_callB call_lenQ (by rfl) T.g_len (by decide +kernel) (pa_cons (pv 0) pa_nil)) (pe_callB call_lenQ (by rfl) T.g_len (by decide +kernel) (pa_cons (pv 1) pa_nil)) (nomark _)))))
          (pss_one (ps_ret pe_bl))
          pss_nil)))
      (pss_cons (ps_for PassesOwn.never rfl (pi_range1 (by rfl) T.g_range (pa_cons (pe_callB call_lenQ (by rfl) T.g_len (by decide +kernel) (pa_cons (pv 1) pa_nil)) pa_nil)) (pg_name (i := 2) nd rfl (by first | exact Or.inl rfl | exact Or.inr rfl))
        (pss_one (ps_if (pt_not (pt_val (pe_fn T.d__law_like F hr rfl (pa_cons (pe_ix ix_list (pv 0) (pv 2) (fun _ _ => rfl)) (pa_cons (pe_ix ix_list (pv 1) (pv 2) (fun _ _ => rfl)) pa_nil)))))
          (pss_one (ps_ret pe_bl))
          pss_nil)))
      (pss_one (ps_ret pe_bl)))))))), ?_⟩
    rw [show L2.start N_like_l [.ref a, .ref b] = [some (.ref a), some (.ref b), none] from rfl]
    walk_at "n"
    refine isi (.base (.lst hb)) kit_list_bool ?_
    walk_at "n"
    refine isi (.base (.lst hb)) kit_list_int ?_
    walk_at "n"
    refine isi (.base (.lst hb)) kit_list_str ?_
    walk_at "n"
    refine isi (.base (.lst hb)) kit_list_tuple ?_
    walk_at "n"
    refine isi (.base (.lst ha)) kit_list_list ?_
    walk_at "n"
    refine lenL ha rfl ?_
    refine lenL hb rfl ?_
    rw [← hl]
    walk_at "n"
    refine lenL hb rfl ?_
    refine rg1 (by omega) (by omega) ?_
    rw [Int.toNat_natCast]
    refine forW (n := ws.length) (G := fun _ => True) walk_range (fun i σ HH => HH = H ∧ ∃ k2 : Option V, σ = [some (.ref a), some (.ref b), k2]) ⟨rfl, none, rfl⟩ (fun _ _ _ _ _ => trivial) ?_ ?_
    · rintro i v σ H2 H3 hi ⟨rfl, k2, rfl⟩ ⟨rfl, rfl⟩
      obtain ⟨x, hx⟩ : ∃ x, us[i]? = some x := ⟨_, List.getElem?_eq_getElem (by omega)⟩
      obtain ⟨y, hy, hxy⟩ := paired_get hp hx
      walk_at "n"
      rw [show (0 : Int) + (i : Int) = (i : Int) by omega]
      refine ixL ha (atI_nat hx) ?_
      refine ixL hb (atI_nat hy) ?_
      refine ⟨_, _, rfl, hxy, ?_⟩
      walk_at "n"
      exact ⟨trivial, _, rfl⟩
    · rintro σ HH ⟨rfl, k2, rfl⟩
      walk_at "n"
      exact k
end

end Gr

namespace Gr
open PySem PySem.Spec PyProof.Rows L2
local macro_rules | `(tactic| walk_at "n") => `(tactic| try simp only [u_tVar, u_tC, u_tB, u_tTest, u_tAnd, u_tOr, u_tNot, u_tAndV, u_tOrV, u_tNotV, u_tIf, u_tNext, u_tSeq, u_tBreak, u_tCont, u_tDrop, u_tRet, u_tRetN, u_tIfS, u_tNever, u_gName, u_tAsg, u_tPar, u_gSub, u_tOp, u_tUn, u_tChain, u_tNil, u_tCons, u_tTup, u_tLst, u_tCB, u_tCall, u_tNoPart, u_tPart, u_tSl, u_tYes, u_iList', u_iTup', u_tLc, u_tDc, u_tFor, u_iRng1, u_iRng2, u_iEnum, u_iEnumT, u_iZip, u_iZip3, L2.wipe, u_sDPut', u_tDGet', u_tDNewK, u_tFld', u_sFld, u_gTup, u_gCons, u_gNil, u_tMeth, u_tCKw, u_tMake, u_tMethC, u_tNdefM, u_tCallL, u_tLstRg, v_rI0, v_rI, v_eqI, v_neI, v_eqS, v_neS, v_bl, v_int, v_ref, v_some, v_two, w_insert_tell, w_remove_tell, w_remove_insert, w_move_tell, w_move_insert, w_move_remove, w_copy_tell, w_copy_insert, w_copy_remove, w_copy_move, w_rows_table, w_columns_table, w_cells_table, w_rows_cells, w_columns_cells, w_columns_rows, w_cells_rows, w_cells_columns, w_rows_columns, w_table_cells, w_table_rows, w_table_columns, w_column_row, w_plain_like, w_like_plain, w_old_new, w_new_old, w_newest_nearest, w_nearest_newest, w_ink_ground, w_ink_face, w_ground_ink, w_ground_face, w_face_ink, w_face_ground, w_whole_lanes, w_whole_files, w_whole_spots, w_lanes_files, w_lanes_spots, w_files_spots, List.getElem?_cons_zero, List.getElem?_cons_succ, List.set_cons_zero, List.set_cons_succ, List.append_nil, Bool.not_true, Bool.not_false, eq_self, if_true, Bool.false_eq_true, if_false, decide_true, decide_false, v_max, v_min, v_intQ, v_isN, v_notN, reduceCtorEq, Nat.reduceAdd, Nat.zero_add, Int.cast_ofNat_Int, Int.reduceEq, Int.reduceLE, Int.reduceLT, Int.reduceAdd, List.cons_append, List.nil_append, List.map_cons, List.map_nil, Sc.vs, ov, De.vs, how, List.length_cons, List.length_nil])
local macro_rules | `(tactic| walk_at "x") => `(tactic| first | refine ixT (by assumption) rfl ?_ | refine ixL (by assumption) rfl ?_ | refine lenT (by assumption) rfl ?_ | refine lenL (by assumption) rfl ?_ | refine isi (.base (.int _)) kit_int_int ?_ | refine isi (.base (.int _)) kit_int_str ?_ | refine isi (.base (.int _)) kit_int_bool ?_ | refine isi (.base (.int _)) kit_int_tuple ?_ | refine isi (.base (.int _)) kit_int_list ?_ | refine isi (.base (.str _)) kit_str_int ?_ | refine isi (.base (.str _)) kit_str_str ?_ | refine isi (.base (.str _)) kit_str_bool ?_ | refine isi (.base (.str _)) kit_str_tuple ?_ | refine isi (.base (.str _)) kit_str_list ?_ | refine isi (.base (.bl _)) kit_bool_int ?_ | refine isi (.base (.bl _)) kit_bool_str ?_ | refine isi (.base (.bl _)) kit_bool_bool ?_ | refine isi (.base (.bl _)) kit_bool_tuple ?_ | refine isi (.base (.bl _)) kit_bool_list ?_ | refine isi (.base (.tup (by assumption))) kit_tuple_int ?_ | refine isi (.base (.tup (by assumption))) kit_tuple_str ?_ | refine isi (.base (.tup (by assumption))) kit_tuple_bool ?_ | refine isi (.base (.tup (by assumption))) kit_tuple_tuple ?_ | refine isi (.base (.tup (by assumption))) kit_tuple_list ?_ | refine isi (.base (.lst (by assumption))) kit_list_int ?_ | refine isi (.base (.lst (by assumption))) kit_list_str ?_ | refine isi (.base (.lst (by assumption))) kit_list_bool ?_ | refine isi (.base (.lst (by assumption))) kit_list_tuple ?_ | refine isi (.base (.lst (by assumption))) kit_list_list ?_ | refine isi (.base (.non)) kit_NoneType_int ?_ | refine isi (.base (.non)) kit_NoneType_str ?_ | refine isi (.base (.non)) kit_NoneType_bool ?_ | refine isi (.base (.non)) kit_NoneType_tuple ?_ | refine isi (.base (.non)) kit_NoneType_list ?_)
local macro_rules | `(tactic| walk_at "g") => `(tactic| (repeat (walk_at "n"; walk_at "x")); walk_at "n")

-- Gr6
/-! ### the law's own choices -/
section
variable {P : Program} {w : World} {K : PySem.W.Frag} {mg : Str → Option Value} {fds : Str → FuncData} {base : Heap}
abbrev s__law_choices : Stmt := top 57
abbrev N__law_choices : List Str := ["_law_things", "_law_many", "_law_found", "_law_k", "_law_rest"]
theorem sc__law_choices : FnScope N__law_choices ["_law_things", "_law_many"] (defScope s__law_choices) := ⟨rfl, rfl, rfl, by decide +kernel, rfl, by decide +kernel, by decide +kernel⟩
theorem lchoices_step (T : Txt K mg fds) (k m : Nat) (sp : Sp) (F : FnOk P w K mg base CX0 k (He.ga K "_law_choices") (fds "_law_choices") ["_law_things", "_law_many"] sp) (hm : m ≤ 6) (hsp : ∀ n, m = n + 1 → sp = spChoices K n) : FnOk P w K mg base CX0 (k + 1) (He.ga K "_law_choices") (fds "_law_choices") ["_law_things", "_law_many"] (spChoices K m) := by
  refine T.d__law_choices.fn.ok sc__law_choices (fun vs H Q E h => ?_) (fun cdv A outer s H vs Q E hr h => ?_)
  · obtain ⟨a, xs, rfl, _⟩ := h; rfl
  · obtain ⟨a, xs, rfl, ha, hxs, kk⟩ := h
    have nd := sc__law_choices.nd
    refine ⟨_, PSs.nox (pss_cons (ps_if (pt_cmpR op_eq (pv 1) pe_int (nomark _))
        (pss_one (ps_ret (pe_lst (pa_cons (pe_tup pa_nil) pa_nil))))
        pss_nil)
      (pss_cons (ps_set (i := 2) nd rfl (by first | exact Or.inl rfl | exact Or.inr rfl) (pe_lst pa_nil))
      (pss_cons (ps_for PassesOwn.never rfl (pi_range1 (by rfl) T.g_range (pa_cons (pe_callB call_lenQ (by rfl) T.g_len (by decide +kernel) (pa_cons (pv 0) pa_nil)) pa_nil)) (pg_name (i := 3) nd rfl (by first | exact Or.inl rfl | exact Or.inr rfl))
        (pss_one (ps_for PassesOwn.never rfl (pi_list (pe_fn T.d__law_choices F hr rfl (pa_cons (pe_slice sl_list (pv 0) (po_some (pe_op op_add (pv 3) pe_int)) po_none) (pa_cons (pe_op op_sub (pv 1) pe_int) pa_nil)) (Nat.le_refl _))) (pg_name (i := 4) nd rfl (by first | exact Or.inl rfl | exact Or.inr rfl))
          (pss_one (ps_expr (pe_bm PySem.F.plainAttrs_list PySem.F.slot_list_append PySem.F.type_list_append mt_append (pv 2) (pa_cons (pe_op op_catA (pe_tup (pa_cons (pe_ix ix_list (pv 0) (pv 3) (fun _ _ => rfl)) pa_nil)) (pv 4)) pa_nil)))))))
      (pss_one (ps_ret (pv 2)))))), ?_⟩
    rw [show L2.start N__law_choices [.ref a, .int (m : Int)] = [some (.ref a), some (.int (m : Int)), none, none, none] from rfl]
    walk_at "n"
    cases m with
    | zero =>
      rw [show decide (((0 : Nat) : Int) = 0) = true by decide]
      walk_at "n"
      exact ⟨by decide, fun p hp => ⟨by decide, fun q hq => kk _ q [.ref p] ((Same.upd _ hp).trans (Same.upd _ hq)) (Same.free (Same.upd _ hp) hq) upd_same (.cons ⟨p, rfl, SqT.of (Same.upd _ hq _ _ upd_same)⟩ .nil)⟩⟩
    | succ m =>
      rw [show decide (((m + 1 : Nat) : Int) = 0) = false from decide_eq_false (by omega)]
      walk_at "n"
      rw [hsp m rfl]
      refine ⟨by decide, fun fD hfD => ?_⟩
      have s0 := Same.upd (.lst []) hfD
      refine lenL (s0 _ _ ha) rfl ?_
      have nvl : (nV xs).length = xs.length := nV_len xs
      refine rg1 (by omega) (by omega) ?_
      rw [Int.toNat_natCast, nvl]
      refine forW (n := xs.length) (G := fun _ => True) walk_range (fun i σ HH => ∃ (k3 k4 : Option V) (us : List V), σ = [some (.ref a), some (.int ((m + 1 : Nat) : Int)), some (.ref fD), k3, k4] ∧ HH fD = some (.lst us) ∧ Paired (TupN K HH) us ((List.range i).flatMap fun i => (chs m (xs.drop (i + 1))).map (xs.getD i 0 :: ·)) ∧ Grow fD H HH) ⟨none, none, [], rfl, upd_same, .nil, Grow.upd _⟩ (fun _ _ _ _ _ => trivial) ?_ ?_
      · rintro i v σ H2 H3 hi ⟨k3, k4, us, rfl, hf3, hp3, g3⟩ ⟨rfl, rfl⟩
        have ha3 := g3.same hfD _ _ ha
        have hxi : (nV xs)[i]? = some (.int ((xs.getD i 0 : Nat) : Int)) := by
          unfold nV
          rw [List.getElem?_map, List.getElem?_eq_getElem hi, List.getD_eq_getElem?_getD, List.getElem?_eq_getElem hi]
          rfl
        walk_at "n"
        rw [show (0 : Int) + (i : Int) = (i : Int) by omega, show (i : Int) + 1 = ((i + 1 : Nat) : Int) by omega]
        refine slL ha3 fun p1 hp1 => ?_
        rw [cutV_from, show (nV xs).drop (i + 1) = nV (xs.drop (i + 1)) by unfold nV; rw [List.map_drop]]
        have s4 := Same.upd (.lst (nV (xs.drop (i + 1)))) hp1
        walk_at "n"
        rw [show ((m + 1 : Nat) : Int) - 1 = (m : Int) by omega]
        refine ⟨p1, xs.drop (i + 1), rfl, upd_same, by rw [List.length_drop]; omega, fun H5 l5 us5 s5 n5 h5 p5 => ?_⟩
        have s35 := s4.trans s5
        walk_at "n"
        refine lsL h5 ?_
        have wk5 := walk_list (K := K) (a := l5) (xs := us5)
        have hul5 := p5.length
        have c5 := chs_len m (xs.drop (i + 1)) (by rw [List.length_drop]; omega)
        have lfD : l5 ≠ fD := fun z => by
          rw [z, s4 _ _ hf3] at n5
          cases n5
        have afD : a ≠ fD := fun z => by
          rw [z, hfD] at ha
          cases ha
        generalize hpre : (List.range i).flatMap (fun i => (chs m (xs.drop (i + 1))).map (xs.getD i 0 :: ·)) = pre at hp3
        have prel : pre.length ≤ i * 6 ^ m := by
          rw [← hpre]
          refine Nat.le_trans (flat_len (b := 6 ^ m) fun j _ => ?_) (by rw [List.length_range]; exact Nat.le_refl _)
          rw [List.length_map]
          exact chs_len m _ (by rw [List.length_drop]; omega)
        have six : 6 ^ m ≤ 6 ^ 5 := Nat.pow_le_pow_right (by decide) (by omega)
        have im : i * 6 ^ m ≤ 6 * 6 ^ 5 := Nat.mul_le_mul (by omega) six
        have g5 := g3.trans (Grow.of s35)
        have ha5 := s35 _ _ ha3
        refine forW wk5 (fun j σ HH => ∃ (k5 : Option V) (fs : List V), σ = [some (.ref a), some (.int ((m + 1 : Nat) : Int)), some (.ref fD), some (.int (i : Nat)), k5] ∧ HH fD = some (.lst fs) ∧ Paired (TupN K HH) fs (pre ++ ((chs m (xs.drop (i + 1))).take j).map (xs.getD i 0 :: ·)) ∧ Grow fD H5 HH) ?_ (fun j σ HH _ h => ?_) ?_ ?_
        · exact ⟨k4, us, rfl, s35 _ _ hf3, by rw [List.take_zero, List.map_nil, List.append_nil]; exact Paired.mapP hp3 fun _ _ z => z.same s35, Grow.refl _ _⟩
        · obtain ⟨_, _, _, _, _, g⟩ := h
          exact SqL.of (g _ _ lfD h5)
        · rintro j v σ H6 H7 hj ⟨k5', fs, rfl, hf6, hp6, g6⟩ ⟨rfl, hv⟩
          obtain ⟨ns, hns, b, rfl, hb⟩ := paired_get p5 hv
          have hb7 : SqT K H7 b (nV ns) := hb.elim (fun h => .inl (h.elim (fun h => .inl (g6 _ _ (fun z => by rw [z, s35 _ _ hf3] at h; cases h) h)) fun ⟨o, h⟩ => .inr ⟨o, g6 _ _ (fun z => by rw [z, s35 _ _ hf3] at h; cases h) h⟩)) fun h => .inr h
          have fl := hp6.length
          rw [List.length_append, List.length_map, List.length_take] at fl
          walk_at "n"
          refine ⟨V.ref fD, rfl, .inl ⟨rfl, fs, SqL.of hf6⟩, ?_⟩
          walk_at "n"
          refine ixL (g6 _ _ afD ha5) (atI_nat hxi) ?_
          refine ⟨by decide, fun p8 hp8 => ?_⟩
          have s8 := Same.upd (.tup [V.int ((xs.getD i 0 : Nat) : Int)]) hp8
          refine catA (SqT.of upd_same) (sqt_same hb7 s8) (by
            have := chs_item m _ _ (List.mem_of_getElem? hns)
            simp only [nV, List.length_map, List.length_cons, List.length_nil]
            omega) fun H9 p9 s9 q9 => ?_
          have s89 := s8.trans s9
          walk_at "n"
          have hf9 := s89 _ _ hf6
          refine ⟨fD, fs, _, rfl, rfl, hf9, by have := (by decide : 100000 < sizeLine); omega, ?_⟩
          have gu : Grow fD H7 (upd H9 fD (.lst (fs ++ [.ref p9]))) := (Grow.of s89).trans (Grow.upd _)
          refine ⟨_, _, rfl, upd_same, ?_, g6.trans gu⟩
          rw [List.take_add_one, hns, List.map_append, ← List.append_assoc]
          exact paired_app (Paired.mapP hp6 fun _ _ z => (z.same s89).app hf9) (.cons (TupN.app hf9 ⟨p9, rfl, q9⟩) .nil)
        · rintro σ HH ⟨k5', fs, rfl, hf6, hp6, g6⟩
          refine ⟨_, _, fs, rfl, hf6, ?_, g5.trans g6⟩
          rw [hul5, List.take_length] at hp6
          rw [List.range_succ, List.flatMap_append, hpre]
          simpa using hp6
      · rintro σ HH ⟨k3, k4, us, rfl, hf, hp, g⟩
        walk_at "n"
        exact kk HH fD us (g.same hfD) hfD hf hp
theorem lchoices_m (T : Txt K mg fds) : ∀ m, m ≤ 6 → FnOk P w K mg base CX0 (m + 1) (He.ga K "_law_choices") (fds "_law_choices") ["_law_things", "_law_many"] (spChoices K m)
  | 0, h => lchoices_step T 0 0 _ ok_False h fun n e => by omega
  | m + 1, h => lchoices_step T (m + 1) (m + 1) _ (lchoices_m T m (by omega)) h fun n e => by
    have : m = n := by omega
    rw [this]
theorem ok__law_choices (T : Txt K mg fds) : FnOk P w K mg base CX0 7 (He.ga K "_law_choices") (fds "_law_choices") ["_law_things", "_law_many"] (spChoicesA K) :=
  ⟨fun vs H Q E ⟨m, hm, h⟩ => (lchoices_m (P := P) (w := w) (base := base) T m hm).len vs H Q E h, fun A outer s H args us vs Q E hr e0 hb hv ⟨m, hm, h⟩ => ((lchoices_m T m hm).mono (by omega)).run A outer s H args us vs Q E hr e0 hb hv h⟩
end

end Gr

namespace Gr
open PySem PySem.Spec PyProof.Rows L2
local macro_rules | `(tactic| walk_at "n") => `(tactic| try simp only [u_tVar, u_tC, u_tB, u_tTest, u_tAnd, u_tOr, u_tNot, u_tAndV, u_tOrV, u_tNotV, u_tIf, u_tNext, u_tSeq, u_tBreak, u_tCont, u_tDrop, u_tRet, u_tRetN, u_tIfS, u_tNever, u_gName, u_tAsg, u_tPar, u_gSub, u_tOp, u_tUn, u_tChain, u_tNil, u_tCons, u_tTup, u_tLst, u_tCB, u_tCall, u_tNoPart, u_tPart, u_tSl, u_tYes, u_iList', u_iTup', u_tLc, u_tDc, u_tFor, u_iRng1, u_iRng2, u_iEnum, u_iEnumT, u_iZip, u_iZip3, L2.wipe, u_sDPut', u_tDGet', u_tDNewK, u_tFld', u_sFld, u_gTup, u_gCons, u_gNil, u_tMeth, u_tCKw, u_tMake, u_tMethC, u_tNdefM, u_tCallL, u_tLstRg, v_rI0, v_rI, v_eqI, v_neI, v_eqS, v_neS, v_bl, v_int, v_ref, v_some, v_two, w_insert_tell, w_remove_tell, w_remove_insert, w_move_tell, w_move_insert, w_move_remove, w_copy_tell, w_copy_insert, w_copy_remove, w_copy_move, w_rows_table, w_columns_table, w_cells_table, w_rows_cells, w_columns_cells, w_columns_rows, w_cells_rows, w_cells_columns, w_rows_columns, w_table_cells, w_table_rows, w_table_columns, w_column_row, w_plain_like, w_like_plain, w_old_new, w_new_old, w_newest_nearest, w_nearest_newest, w_ink_ground, w_ink_face, w_ground_ink, w_ground_face, w_face_ink, w_face_ground, w_whole_lanes, w_whole_files, w_whole_spots, w_lanes_files, w_lanes_spots, w_files_spots, List.getElem?_cons_zero, List.getElem?_cons_succ, List.set_cons_zero, List.set_cons_succ, List.append_nil, Bool.not_true, Bool.not_false, eq_self, if_true, Bool.false_eq_true, if_false, decide_true, decide_false, v_max, v_min, v_intQ, v_isN, v_notN, reduceCtorEq, Nat.reduceAdd, Nat.zero_add, Int.cast_ofNat_Int, Int.reduceEq, Int.reduceLE, Int.reduceLT, Int.reduceAdd, List.cons_append, List.nil_append, List.map_cons, List.map_nil, Sc.vs, ov, De.vs, how, List.length_cons, List.length_nil])
local macro_rules | `(tactic| walk_at "x") => `(tactic| first | refine ixT (by assumption) rfl ?_ | refine ixL (by assumption) rfl ?_ | refine lenT (by assumption) rfl ?_ | refine lenL (by assumption) rfl ?_ | refine isi (.base (.int _)) kit_int_int ?_ | refine isi (.base (.int _)) kit_int_str ?_ | refine isi (.base (.int _)) kit_int_bool ?_ | refine isi (.base (.int _)) kit_int_tuple ?_ | refine isi (.base (.int _)) kit_int_list ?_ | refine isi (.base (.str _)) kit_str_int ?_ | refine isi (.base (.str _)) kit_str_str ?_ | refine isi (.base (.str _)) kit_str_bool ?_ | refine isi (.base (.str _)) kit_str_tuple ?_ | refine isi (.base (.str _)) kit_str_list ?_ | refine isi (.base (.bl _)) kit_bool_int ?_ | refine isi (.base (.bl _)) kit_bool_str ?_ | refine isi (.base (.bl _)) kit_bool_bool ?_ | refine isi (.base (.bl _)) kit_bool_tuple ?_ | refine isi (.base (.bl _)) kit_bool_list ?_ | refine isi (.base (.tup (by assumption))) kit_tuple_int ?_ | refine isi (.base (.tup (by assumption))) kit_tuple_str ?_ | refine isi (.base (.tup (by assumption))) kit_tuple_bool ?_ | refine isi (.base (.tup (by assumption))) kit_tuple_tuple ?_ | refine isi (.base (.tup (by assumption))) kit_tuple_list ?_ | refine isi (.base (.lst (by assumption))) kit_list_int ?_ | refine isi (.base (.lst (by assumption))) kit_list_str ?_ | refine isi (.base (.lst (by assumption))) kit_list_bool ?_ | refine isi (.base (.lst (by assumption))) kit_list_tuple ?_ | refine isi (.base (.lst (by assumption))) kit_list_list ?_ | refine isi (.base (.non)) kit_NoneType_int ?_ | refine isi (.base (.non)) kit_NoneType_str ?_ | refine isi (.base (.non)) kit_NoneType_bool ?_ | refine isi (.base (.non)) kit_NoneType_tuple ?_ | refine isi (.base (.non)) kit_NoneType_list ?_)
local macro_rules | `(tactic| walk_at "g") => `(tactic| (repeat (walk_at "n"; walk_at "x")); walk_at "n")

-- Gr6
/-! ### orders refused -/
section
variable {X : Cx} {C : Addr} {bmB : List Value} {B newId initId : String}
theorem pmk_own0 {x : Str} {p pos : Pos} (F : ExcBaseFacts B newId initId bmB) (q : PySem.W.excIn X.K C bmB newId = true) (gC : X.mg x = some (.ref C)) (kC : PySem.W.keepIn X.K (.ref C) = true) (r : Raises X (.ref C)) (hg : Gl X x)
    (hdb : (x == ("__debug__" : Str)) = false := by decide) : PMk X (.Call (.Name x p) [] [] pos) (fun _ H Q => Q (.ref C) none H) := by
  intro pins s σ H Q I h
  refine wpAny_Call_Name_kw (ld_glob I hg gC ?_ hdb)
  refine PySem.W.callWith_K0 I.kIn kC ?_
  obtain ⟨bm, N, nm, qn, bs, hdct, sn, sub, ab, col, dd, k0, k1, k2, k3, k5, mN, hC, hN, hni, T⟩ := exc_obj I.kIn q
  refine wpAny_call_exc_subT F T hC hN hni (fun h' e hm => ?_) (Nat.zero_le _)
  exact mk_of I hm r h (I.hok.gone hm.new)
end
/-- a call of a def of the top that may raise -/
theorem pe_fnX {X : Cx} {x : Str} {i k j : Nat} {ps : List Str} {fd : FuncData} {sp : Sp} {E : XK} {e : Expr} {es : List Expr} {t : TA} {p pos : Pos} (D : Df X.K X.mg x i ps fd) (F : FnOk X.prog X.w X.K X.mg X.base (L2.CX X.prog X.w) k (He.ga X.K x) fd ps sp) (hr : Room j X.A) (hg : Gl X x) (hx : Passes (L2.CX X.prog X.w) X E) (ha : PA X (e :: es) t)
    (hk : k ≤ j := by decide) (hdb : (x == ("__debug__" : Str)) = false := by decide) (he : starEach (e :: es) X.env = (false, eval e X.env) :: starEach es X.env := by rfl) (hpl : (backTo pos (starEach es X.env)).any (·.1) = false := by rfl) :
    PE X (.Call (.Name x p) (e :: es) [] pos) (tCall sp [] E t) := pe_call F (hr.mono hk) hg D.mg D.fn.kp D.bd .nil hx ha hdb he hpl
theorem pe_fnS {X : Cx} {x : Str} {i k j : Nat} {ps : List Str} {fd : FuncData} {sp : Sp} {E : L2.St → XK} {e : Expr} {es : List Expr} {t : TA} {p pos : Pos} (D : Df X.K X.mg x i ps fd) (F : FnOk X.prog X.w X.K X.mg X.base (L2.CX X.prog X.w) k (He.ga X.K x) fd ps sp) (hr : Room j X.A) (hg : Gl X x) (hx : ∀ σ, PassesAt (L2.CX X.prog X.w) X σ (E σ)) (ha : PA X (e :: es) t)
    (hk : k ≤ j := by decide) (hdb : (x == ("__debug__" : Str)) = false := by decide) (he : starEach (e :: es) X.env = (false, eval e X.env) :: starEach es X.env := by rfl) (hpl : (backTo pos (starEach es X.env)).any (·.1) = false := by rfl) :
    PE X (.Call (.Name x p) (e :: es) [] pos) (tCallS sp E t) := pe_callS F (hr.mono hk) hg D.mg D.fn.kp D.bd hx ha hdb he hpl
section
variable {P : Program} {w : World} {K : PySem.W.Frag} {mg : Str → Option Value} {fds : Str → FuncData} {base : Heap}
def BadO (v : V) : Prop := v = .non ∨ v = .str "oldest" ∨ v = .int 5
abbrev s_check_orderX : Stmt := top 10
abbrev N_check_orderX : List Str := ["order"]
theorem sc_check_orderX : FnScope N_check_orderX ["order"] (defScope s_check_orderX) := ⟨rfl, rfl, rfl, by decide +kernel, rfl, by decide +kernel, by decide +kernel⟩
def spOrdX (K : PySem.W.Frag) : Sp := fun vs H _ E => ∃ v : V, vs = [v] ∧ BadO v ∧ E (.ref (He.ga K "BadOrder")) none H
theorem ok_check_orderX (T : Txt K mg fds) : FnOk P w K mg base (L2.CX P w) 1 (He.ga K "check_order") (fds "check_order") ["order"] (spOrdX K) := by
  refine T.d_check_order.fn.ok sc_check_orderX (fun vs H Q E h => ?_) (fun cdv A outer s H vs Q E hr h => ?_)
  · obtain ⟨n, rfl, _⟩ := h; rfl
  · obtain ⟨v, rfl, hv, k⟩ := h
    have nd := sc_check_orderX.nd
    refine ⟨_, (pss_one (ps_if (PW.pt (pw_or (pt_not (pt_val (pe_callB call_isi (by rfl) T.g_isinstance (by decide +kernel) (pa_cons (pv 0) (pa_cons (pe_bltn (v := .ty "str") (by rfl) T.g_str (by decide +kernel) rfl) pa_nil))))) (pw_or1 (pt_cmpR op_notIn_seq (pv 0) (pe_glob (v := .ref (He.ga K "ORDERS")) rfl T.m_ORDERS rfl) (by with_unfolding_all rfl)))))
        (pss_one (ps_raise rfl (takes_of rfl rfl rfl rfl) (pmk_own0 PySem.F.excBase_ValueError T.x_BadOrder.1 T.m_BadOrder T.x_BadOrder.2.1 (raises_own T.x_BadOrder.2.2.1 T.x_BadOrder.2.2.2) rfl)))
        pss_nil)), ?_⟩
    rw [show L2.start N_check_orderX [v] = [some v] from rfl]
    rcases hv with rfl | rfl | rfl
    · walk_at "g"
      exact k
    · walk_at "g"
      refine notInS (b := false) (T.t_ORDERS _) (by rfl) (by decide +kernel) ?_
      walk_at "n"
      exact k
    · walk_at "g"
      exact k
def spRefX (K : PySem.W.Frag) : Sp := fun vs H _ E => ∃ v x : V, vs = [v, x] ∧ BadO v ∧ E (.ref (He.ga K "BadOrder")) none H
abbrev s_needlessX : Stmt := top 32
abbrev N_needlessX : List Str := ["order", "deeds", "rows", "at"]
theorem sc_needlessX : FnScope N_needlessX ["order", "deeds"] (defScope s_needlessX) := ⟨rfl, rfl, rfl, by decide +kernel, rfl, by decide +kernel, by decide +kernel⟩
abbrev s_swapsX : Stmt := top 33
abbrev N_swapsX : List Str := ["order", "deeds", "rows", "found", "at", "other"]
theorem sc_swapsX : FnScope N_swapsX ["order", "deeds"] (defScope s_swapsX) := ⟨rfl, rfl, rfl, by decide +kernel, rfl, by decide +kernel, by decide +kernel⟩
abbrev s_coresX : Stmt := top 35
abbrev N_coresX : List Str := ["order", "deeds", "rows", "many", "found", "some", "at"]
theorem sc_coresX : FnScope N_coresX ["order", "deeds"] (defScope s_coresX) := ⟨rfl, rfl, rfl, by decide +kernel, rfl, by decide +kernel, by decide +kernel⟩
theorem needless_X (T : Txt K mg fds) (TC : TabsOk K mg base) : FnOk P w K mg base (L2.CX P w) 10 (He.ga K "needless") (fds "needless") ["order", "deeds"] (spRefX K) := by
  refine T.d_needless.fn.ok sc_needlessX (fun vs H Q E h => ?_) (fun cdv A outer s H vs Q E hr h => ?_)
  · obtain ⟨n, x, rfl, _⟩ := h; rfl
  · obtain ⟨v, x, rfl, hv, k⟩ := h
    have nd := sc_needlessX.nd
    refine ⟨_, (pss_cons (ps_expr (pe_fnX (E := E) T.d_check_order (ok_check_orderX T) hr rfl (by exact passes_call (takes_of rfl rfl rfl rfl) (fun _ _ _ _ h => h)) (pa_cons (pv 0) pa_nil)))
      (PSs.nox (pss_cons (ps_set (i := 2) nd rfl (by first | exact Or.inl rfl | exact Or.inr rfl) (pe_fld (pv 1) rfl))
      (pss_one (ps_ret (pe_lc (own := [("at", 3)]) rfl nd (pi_range1 (by rfl) T.g_range (pa_cons (pe_callB call_lenQ (by rfl) T.g_len (by decide +kernel) (pa_cons (pv 2) pa_nil)) pa_nil)) (blkOk_by (N := N_needlessX) (sc := (defScope s_needlessX)) (by decide +kernel)) (fun _ _ _ _ _ => (pg_name (i := 3) nd rfl (by first | exact Or.inl rfl | exact Or.inr rfl))) (fun _ _ _ _ _ => pts_one (pt_cmpR op_isQ (pe_fn T.d_parted_by (ok_parted_by T TC) hr rfl (pa_cons (pv 0) (pa_cons (pv 2) (pa_cons (pe_op (op_catAK (K := K) rfl) (pe_slice (sl_tupAK (K := K) rfl) (pv 2) po_none (po_some (pv 3))) (pe_slice (sl_tupAK (K := K) rfl) (pv 2) (po_some (pe_op op_add (pv 3) pe_int)) po_none)) pa_nil)))) pe_non (nomark _))) (fun _ _ _ _ _ => (pv 3)))))))), ?_⟩
    rw [show L2.start N_needlessX [v, x] = [some v, some x, none, none] from rfl]
    walk_at "n"
    exact ⟨v, rfl, hv, k⟩
theorem swaps_X (T : Txt K mg fds) (TC : TabsOk K mg base) : FnOk P w K mg base (L2.CX P w) 10 (He.ga K "swaps") (fds "swaps") ["order", "deeds"] (spRefX K) := by
  refine T.d_swaps.fn.ok sc_swapsX (fun vs H Q E h => ?_) (fun cdv A outer s H vs Q E hr h => ?_)
  · obtain ⟨n, x, rfl, _⟩ := h; rfl
  · obtain ⟨v, x, rfl, hv, k⟩ := h
    have nd := sc_swapsX.nd
    refine ⟨_, (pss_cons (ps_expr (pe_fnX (E := E) T.d_check_order (ok_check_orderX T) hr rfl (by exact passes_call (takes_of rfl rfl rfl rfl) (fun _ _ _ _ h => h)) (pa_cons (pv 0) pa_nil)))
      (PSs.nox (pss_cons (ps_set (i := 2) nd rfl (by first | exact Or.inl rfl | exact Or.inr rfl) (pe_fld (pv 1) rfl))
      (pss_cons (ps_set (i := 3) nd rfl (by first | exact Or.inl rfl | exact Or.inr rfl) (pe_lst pa_nil))
      (pss_cons (ps_for PassesOwn.never rfl (pi_range1 (by rfl) T.g_range (pa_cons (pe_op op_sub (pe_callB call_lenQ (by rfl) T.g_len (by decide +kernel) (pa_cons (pv 2) pa_nil)) pe_int) pa_nil)) (pg_name (i := 4) nd rfl (by first | exact Or.inl rfl | exact Or.inr rfl))
        (pss_cons (ps_set (i := 5) nd rfl (by first | exact Or.inl rfl | exact Or.inr rfl) (pe_op op_catA (pe_op op_catA (pe_slice sl_tupA (pv 2) po_none (po_some (pv 4))) (pe_tup (pa_cons (pe_ix ix_tup (pv 2) (pe_op op_add (pv 4) pe_int) (fun _ _ => rfl)) (pa_cons (pe_ix ix_tup (pv 2) (pv 4) (fun _ _ => rfl)) pa_nil)))) (pe_slice sl_tupA (pv 2) (po_some (pe_op op_add (pv 4) pe_int)) po_none)))
        (pss_one (ps_if (pt_cmpR op_isQ (pe_fn T.d_parted_by (ok_parted_by T TC) hr rfl (pa_cons (pv 0) (pa_cons (pv 2) (pa_cons (pv 5) pa_nil)))) pe_non (nomark _))
          (pss_one (ps_expr (pe_bm PySem.F.plainAttrs_list PySem.F.slot_list_append PySem.F.type_list_append mt_append (pv 3) (pa_cons (pv 4) pa_nil))))
          pss_nil))))
      (pss_one (ps_ret (pv 3)))))))), ?_⟩
    rw [show L2.start N_swapsX [v, x] = [some v, some x, none, none, none, none] from rfl]
    walk_at "n"
    exact ⟨v, rfl, hv, k⟩
theorem cores_X (T : Txt K mg fds) (TC : TabsOk K mg base) : FnOk P w K mg base (L2.CX P w) 10 (He.ga K "cores") (fds "cores") ["order", "deeds"] (spRefX K) := by
  refine T.d_cores.fn.ok sc_coresX (fun vs H Q E h => ?_) (fun cdv A outer s H vs Q E hr h => ?_)
  · obtain ⟨n, x, rfl, _⟩ := h; rfl
  · obtain ⟨v, x, rfl, hv, k⟩ := h
    have nd := sc_coresX.nd
    refine ⟨_, (pss_cons (ps_expr (pe_fnX (E := E) T.d_check_order (ok_check_orderX T) hr rfl (by exact passes_call (takes_of rfl rfl rfl rfl) (fun _ _ _ _ h => h)) (pa_cons (pv 0) pa_nil)))
      (PSs.nox (pss_cons (ps_set (i := 2) nd rfl (by first | exact Or.inl rfl | exact Or.inr rfl) (pe_fld (pv 1) rfl))
      (pss_cons (ps_for PassesOwn.never rfl (pi_range1 (by rfl) T.g_range (pa_cons (pe_op op_add (pe_callB call_lenQ (by rfl) T.g_len (by decide +kernel) (pa_cons (pv 2) pa_nil)) pe_int) pa_nil)) (pg_name (i := 3) nd rfl (by first | exact Or.inl rfl | exact Or.inr rfl))
        (pss_cons (ps_set (i := 4) nd rfl (by first | exact Or.inl rfl | exact Or.inr rfl) (pe_lst pa_nil))
        (pss_cons (ps_for PassesOwn.never rfl (pi_list (pe_fn T.d_choices (ok_choicesA T) hr rfl (pa_cons (pe_listRg rfl (by rfl) T.g_list (prg_1 (by rfl) T.g_range (pe_callB call_lenQ (by rfl) T.g_len (by decide +kernel) (pa_cons (pv 2) pa_nil)))) (pa_cons (pv 3) pa_nil)))) (pg_name (i := 5) nd rfl (by first | exact Or.inl rfl | exact Or.inr rfl))
          (pss_one (ps_if (pt_cmpR op_isQ (pe_fn T.d_parted_by (ok_parted_by T TC) hr rfl (pa_cons (pv 0) (pa_cons (pv 2) (pa_cons (pe_callTy call_tupQ (by rfl) T.g_tuple (by decide +kernel) (pa_cons (pe_lc (own := [("at", 6)]) rfl nd (pi_tup (pv 5)) (blkOk_by (N := N_coresX) (sc := (defScope s_coresX)) (by decide +kernel)) (fun _ _ _ _ _ => (pg_name (i := 6) nd rfl (by first | exact Or.inl rfl | exact Or.inr rfl))) (fun _ _ _ _ _ => pts_nil) (fun _ _ _ _ _ => (pe_ix (ix_tupK (K := K) rfl) (pv 2) (pv 6) (fun _ _ => rfl)))) pa_nil)) pa_nil)))) pe_non (nomark _))
            (pss_one (ps_expr (pe_bm PySem.F.plainAttrs_list PySem.F.slot_list_append PySem.F.type_list_append mt_append (pv 4) (pa_cons (pv 5) pa_nil))))
            pss_nil)))
        (pss_one (ps_if (pt_truth (pv 4) (by intro _; rfl))
          (pss_one (ps_ret (pv 4)))
          pss_nil)))))
      (pss_one (ps_ret (pe_lst pa_nil))))))), ?_⟩
    rw [show L2.start N_coresX [v, x] = [some v, some x, none, none, none, none, none] from rfl]
    walk_at "n"
    exact ⟨v, rfl, hv, k⟩
abbrev s__law_refused : Stmt := top 58
abbrev N__law_refused : List Str := ["_law_row_here", "_law_way", "_law_told"]
theorem sc__law_refused : FnScope N__law_refused ["_law_row_here", "_law_way"] (defScope s__law_refused) := ⟨rfl, rfl, rfl, by decide +kernel, rfl, by decide +kernel, by decide +kernel⟩
theorem u_tCallS {sp : Sp} {E : L2.St → XK} {t : TA} {σ : L2.St} {H : Hp} {Q : VK} : tCallS sp E t σ H Q = (t σ H fun vs H1 => sp vs H1 Q (E σ)) := rfl
def spRefused : Sp := fun vs H Q _ => ∃ (v : V) (n : Nat), vs = [v, .int (n : Int)] ∧ n < 3 ∧ Q (.bl true) H
theorem ok__law_refused (T : Txt K mg fds) (TC : TabsOk K mg base) : FnOk P w K mg base CX0 11 (He.ga K "_law_refused") (fds "_law_refused") ["_law_row_here", "_law_way"] spRefused := by
  refine T.d__law_refused.fn.ok sc__law_refused (fun vs H Q E h => ?_) (fun cdv A outer s H vs Q E hr h => ?_)
  · obtain ⟨v, n, rfl, _⟩ := h; rfl
  · obtain ⟨v, n, rfl, hn, k⟩ := h
    have nd := sc__law_refused.nd
    refine ⟨_, PSs.nox (pss_cons (ps_set (i := 2) nd rfl (by first | exact Or.inl rfl | exact Or.inr rfl) pe_bl)
      (pss_cons (ps_try_only rfl rfl ⟨rfl, by decide, .inl T.m_BadOrder⟩ takes0 (fun W pn xe tk _ => (pss_cons (ps_if (pt_cmpR op_eq (pv 1) pe_int (nomark _)) (pss_one (ps_expr (pe_fnS T.d_needless (needless_X T TC) hr rfl (fun σ => passAt tk σ) (pa_cons pe_non (pa_cons (pv 0) pa_nil))))) pss_nil) (pss_cons (ps_if (pt_cmpR op_eq (pv 1) pe_int (nomark _)) (pss_one (ps_expr (pe_fnS T.d_swaps (swaps_X T TC) hr rfl (fun σ => passAt tk σ) (pa_cons pe_str (pa_cons (pv 0) pa_nil))))) pss_nil) (pss_one (ps_if (pt_cmpR op_eq (pv 1) pe_int (nomark _)) (pss_one (ps_expr (pe_fnS T.d_cores (cores_X T TC) hr rfl (fun σ => passAt tk σ) (pa_cons pe_int (pa_cons (pv 0) pa_nil))))) pss_nil))))) (fun a oe cls d pn _ _ => (pss_one (ps_set (i := 2) nd rfl (Or.inl rfl) pe_bl))))
      (pss_one (ps_ret (pv 2))))), ?_⟩
    rw [show L2.start N__law_refused [v, .int (n : Int)] = [some v, some (.int (n : Int)), none] from rfl]
    rcases n with _ | _ | _ | n
    · walk_at "g"
      rw [u_tCallS]
      walk_at "n"
      refine ⟨_, _, rfl, .inl rfl, true, T.y_BadOrder, fun _ a ha => ?_, fun q => nomatch q⟩
      walk_at "n"
      exact k
    · walk_at "g"
      rw [u_tCallS]
      walk_at "n"
      refine ⟨_, _, rfl, .inr (.inl rfl), true, T.y_BadOrder, fun _ a ha => ?_, fun q => nomatch q⟩
      walk_at "n"
      exact k
    · walk_at "g"
      rw [u_tCallS]
      walk_at "n"
      refine ⟨_, _, rfl, .inr (.inr rfl), true, T.y_BadOrder, fun _ a ha => ?_, fun q => nomatch q⟩
      walk_at "n"
      exact k
    · omega
end

end Gr

namespace Gr
open PySem PySem.Spec PyProof.Rows L2
local macro_rules | `(tactic| walk_at "n") => `(tactic| try simp only [u_tVar, u_tC, u_tB, u_tTest, u_tAnd, u_tOr, u_tNot, u_tAndV, u_tOrV, u_tNotV, u_tIf, u_tNext, u_tSeq, u_tBreak, u_tCont, u_tDrop, u_tRet, u_tRetN, u_tIfS, u_tNever, u_gName, u_tAsg, u_tPar, u_gSub, u_tOp, u_tUn, u_tChain, u_tNil, u_tCons, u_tTup, u_tLst, u_tCB, u_tCall, u_tNoPart, u_tPart, u_tSl, u_tYes, u_iList', u_iTup', u_tLc, u_tDc, u_tFor, u_iRng1, u_iRng2, u_iEnum, u_iEnumT, u_iZip, u_iZip3, L2.wipe, u_sDPut', u_tDGet', u_tDNewK, u_tFld', u_sFld, u_gTup, u_gCons, u_gNil, u_tMeth, u_tCKw, u_tMake, u_tMethC, u_tNdefM, u_tCallL, u_tLstRg, v_rI0, v_rI, v_eqI, v_neI, v_eqS, v_neS, v_bl, v_int, v_ref, v_some, v_two, w_insert_tell, w_remove_tell, w_remove_insert, w_move_tell, w_move_insert, w_move_remove, w_copy_tell, w_copy_insert, w_copy_remove, w_copy_move, w_rows_table, w_columns_table, w_cells_table, w_rows_cells, w_columns_cells, w_columns_rows, w_cells_rows, w_cells_columns, w_rows_columns, w_table_cells, w_table_rows, w_table_columns, w_column_row, w_plain_like, w_like_plain, w_old_new, w_new_old, w_newest_nearest, w_nearest_newest, w_ink_ground, w_ink_face, w_ground_ink, w_ground_face, w_face_ink, w_face_ground, w_whole_lanes, w_whole_files, w_whole_spots, w_lanes_files, w_lanes_spots, w_files_spots, List.getElem?_cons_zero, List.getElem?_cons_succ, List.set_cons_zero, List.set_cons_succ, List.append_nil, Bool.not_true, Bool.not_false, eq_self, if_true, Bool.false_eq_true, if_false, decide_true, decide_false, v_max, v_min, v_intQ, v_isN, v_notN, reduceCtorEq, Nat.reduceAdd, Nat.zero_add, Int.cast_ofNat_Int, Int.reduceEq, Int.reduceLE, Int.reduceLT, Int.reduceAdd, List.cons_append, List.nil_append, List.map_cons, List.map_nil, Sc.vs, ov, De.vs, how, List.length_cons, List.length_nil])
local macro_rules | `(tactic| walk_at "x") => `(tactic| first | refine ixT (by assumption) rfl ?_ | refine ixL (by assumption) rfl ?_ | refine lenT (by assumption) rfl ?_ | refine lenL (by assumption) rfl ?_ | refine isi (.base (.int _)) kit_int_int ?_ | refine isi (.base (.int _)) kit_int_str ?_ | refine isi (.base (.int _)) kit_int_bool ?_ | refine isi (.base (.int _)) kit_int_tuple ?_ | refine isi (.base (.int _)) kit_int_list ?_ | refine isi (.base (.str _)) kit_str_int ?_ | refine isi (.base (.str _)) kit_str_str ?_ | refine isi (.base (.str _)) kit_str_bool ?_ | refine isi (.base (.str _)) kit_str_tuple ?_ | refine isi (.base (.str _)) kit_str_list ?_ | refine isi (.base (.bl _)) kit_bool_int ?_ | refine isi (.base (.bl _)) kit_bool_str ?_ | refine isi (.base (.bl _)) kit_bool_bool ?_ | refine isi (.base (.bl _)) kit_bool_tuple ?_ | refine isi (.base (.bl _)) kit_bool_list ?_ | refine isi (.base (.tup (by assumption))) kit_tuple_int ?_ | refine isi (.base (.tup (by assumption))) kit_tuple_str ?_ | refine isi (.base (.tup (by assumption))) kit_tuple_bool ?_ | refine isi (.base (.tup (by assumption))) kit_tuple_tuple ?_ | refine isi (.base (.tup (by assumption))) kit_tuple_list ?_ | refine isi (.base (.lst (by assumption))) kit_list_int ?_ | refine isi (.base (.lst (by assumption))) kit_list_str ?_ | refine isi (.base (.lst (by assumption))) kit_list_bool ?_ | refine isi (.base (.lst (by assumption))) kit_list_tuple ?_ | refine isi (.base (.lst (by assumption))) kit_list_list ?_ | refine isi (.base (.non)) kit_NoneType_int ?_ | refine isi (.base (.non)) kit_NoneType_str ?_ | refine isi (.base (.non)) kit_NoneType_bool ?_ | refine isi (.base (.non)) kit_NoneType_tuple ?_ | refine isi (.base (.non)) kit_NoneType_list ?_)
local macro_rules | `(tactic| walk_at "g") => `(tactic| (repeat (walk_at "n"; walk_at "x")); walk_at "n")

-- Gr6
/-! ### the law, its parts -/
theorem mkDeeds {K : PySem.W.Frag} {H : Hp} {Q : VK} {l : Addr} {us : List V} {ds : List De} (hl : H l = some (.lst us)) (hd : DsV H us ds) (q : ∀ x H', Same H H' → H x = none → DsAt K H' (.ref x) ds → Q (.ref x) H') :
    MakeT (He.ga K "Deeds") H (fun x H2 Q2 => spDeedsInit K [x, .ref l] H2 Q2 E0) Q := by
  intro x dx hx hdx hne
  have s1 : Same H (upd (upd H dx (.own x)) x (.ins (He.ga K "Deeds") dx [])) := (Same.upd _ hdx).trans (Same.upd _ (by rw [upd_ne hne.symm]; exact hx))
  refine ⟨x, dx, l, us, ds, rfl, upd_same, s1 _ _ hl, hd.same (TupS.of s1), fun t H' nt g hx' ht' => ⟨rfl, ?_⟩⟩
  have s2 : Same H H' := ((Grow.of s1).trans g).same hx
  exact q x H' s2 hx ⟨x, dx, t, us, rfl, hx', ht', hd.same (TupS.of s2)⟩
theorem firstNE_app : ∀ (xss : List (List (List Nat))) (x : List (List Nat)), firstNE (xss ++ [x]) = if (firstNE xss).isEmpty = true then x else firstNE xss
  | [], x => by
    cases x <;> simp [firstNE]
  | a :: xss, x => by
    have ih := firstNE_app xss x
    cases a with
    | nil => simpa [firstNE] using ih
    | cons b bs => simp [firstNE]
/-- the first of m sets that is not empty -/
def upC (p : List Nat → Bool) (n m : Nat) : List (List Nat) := firstNE ((List.range m).map fun m => (chs m (List.range n)).filter p)
theorem upC_succ (p : List Nat → Bool) (n m : Nat) : upC p n (m + 1) = if (upC p n m).isEmpty = true then (chs m (List.range n)).filter p else upC p n m := by
  unfold upC
  rw [List.range_succ, List.map_append]
  exact firstNE_app _ _
theorem upC_item {p : List Nat → Bool} {n : Nat} : ∀ {m : Nat} {ns : List Nat}, ns ∈ upC p n m → ns.length ≤ m
  | 0, ns, h => by cases h
  | m + 1, ns, h => by
    rw [upC_succ] at h
    split at h
    · have := chs_item m _ _ (List.mem_filter.mp h).1
      omega
    · have := upC_item h
      omega
theorem upC_len {p : List Nat → Bool} {n : Nat} (hn : n ≤ 6) : ∀ {m : Nat}, m ≤ 7 → (upC p n m).length ≤ 46656
  | 0, _ => Nat.zero_le _
  | m + 1, h => by
    rw [upC_succ]
    split
    · exact Nat.le_trans (List.length_filter_le _ _) (chs_small hn (by omega))
    · exact upC_len hn (by omega)
theorem paired_two {α β γ : Type} {F : α → γ → Prop} {G : β → γ → Prop} {us : List α} {xs : List γ} (h : Paired F us xs) : ∀ {ws : List β}, Paired G ws xs → Paired (fun v w => ∃ x, x ∈ xs ∧ F v x ∧ G w x) us ws := by
  induction h with
  | nil =>
    intro ws h2
    cases h2
    exact .nil
  | @cons a x as xs ha hs ih =>
    intro ws h2
    cases h2 with
    | cons hb hbs => exact .cons ⟨x, List.mem_cons_self, ha, hb⟩ (Paired.mapP (ih hbs) fun _ _ ⟨y, h1, h2⟩ => ⟨y, List.mem_cons_of_mem _ h1, h2⟩)
theorem paired_ints (xs : List Nat) {K : PySem.W.Frag} {H : Hp} : Paired (fun v w => LkI v w ∨ LkT K H v w) (xs.map fun i => V.int ((i : Nat) : Int)) (xs.map fun i => V.int ((i : Nat) : Int)) := by
  induction xs with
  | nil => exact .nil
  | cons a xs ih => exact .cons (.inl ⟨_, rfl, rfl⟩) ih
theorem bool_ext {α : Type} {p q : α → Bool} {R : α → Prop} (h1 : ∀ i, p i = true ↔ R i) (h2 : ∀ i, q i = true ↔ R i) : p = q := by
  funext i
  rw [Bool.eq_iff_iff, h1, h2]
theorem cutV_last (xs : List V) : cutV xs none (some (-1)) = xs.take (xs.length - 1) := by
  have e : HT.sIx xs.length xs.length (some (-1)) = xs.length - 1 := by
    show (if (-1 : Int) < 0 then (-1 + (xs.length : Int)).toNat else min (-1 : Int).toNat xs.length) = xs.length - 1
    rw [if_pos (by decide)]
    omega
  unfold cutV
  rw [HT.sIx_none, e, List.drop_zero, Nat.sub_zero]
theorem pe_mkK {P : Program} {w : World} {K : PySem.W.Frag} {mg : Str → Option Value} {base : Heap} {X : Cx} {m q : Str} {i i2 k j : Nat} {cn : Str} {ps : List Str} {fd : FuncData} {sp : Sp} {e : Expr} {es : List Expr} {t : TA} {p pos : Pos} (h : X.K = K) (hP : X.prog = P) (hw : X.w = w) (hm0 : X.mg = mg) (hB : X.base = base) (M : Mk K (He.ga K cn) (He.ma K (He.ga K cn) m)) (hm : mg cn = some (.ref (He.ga K cn))) (Me0 : Me K cn m q i i2 ps fd) (F : FnOk P w K mg base CX0 k (He.ma K (He.ga K cn) m) fd ps sp) (hr : Room j X.A) (hg : Gl X cn) (ha : PA X (e :: es) t) (hk : k + 1 ≤ j := by decide)
    (hdb : (cn == ("__debug__" : Str)) = false := by decide) (he : starEach (e :: es) X.env = (false, eval e X.env) :: starEach es X.env := by rfl) (hpl : (backTo pos (starEach es X.env)).any (·.1) = false := by rfl) :
    PE X (.Call (.Name cn p) (e :: es) [] pos) (tMake (He.ga K cn) sp [] E0 t) := by
  subst h hP hw hm0 hB
  exact pe_mk M hm Me0 F hr hg ha hk hdb he hpl
section
variable {P : Program} {w : World} {K : PySem.W.Frag} {mg : Str → Option Value} {fds : Str → FuncData} {base : Heap}
abbrev s_law : Stmt := top 59
abbrev N_law : List Str := ["_law_script", "_law_draws", "_law_order_here", "_law_deeds", "_law_row_here", "_law_every", "_law_due", "_law_k", "_law_other", "_law_many", "_law_some", "_law_way"]
theorem sc_law : FnScope N_law ["_law_script"] (defScope s_law) := ⟨rfl, rfl, rfl, by decide +kernel, rfl, by decide +kernel, by decide +kernel⟩
theorem seq_cut {t u : TS} {D : Ends} {σ : L2.St} {H : Hp} (F : L2.St → Hp → Prop) (h : ∀ N : L2.St → Hp → Prop, (∀ σ' H', F σ' H' → N σ' H') → t { D with nx := N } σ H) (hF : ∀ σ' H', F σ' H' → u D σ' H') : tSeq t u D σ H := h (u D) hF
/-- what stands once the deeds are drawn -/
structure LwSt (K : PySem.W.Frag) (H : Hp) (fL x ev : Addr) (us : List V) (ds : List De) : Prop where
  hus : H fL = some (.lst us)
  dsv : DsV H us ds
  row : DsAt K H (.ref x) ds
  ev : H ev = some (.lst (nV (List.range ds.length)))
  tb : NdefX.TabsN (TbN K) H
  len : ds.length ≤ 3
theorem LwSt.gx {H H' : Hp} {fL x ev : Addr} {us : List V} {ds : List De} (h : LwSt K H fL x ev us ds) (g : Gx H H') (tb : NdefX.TabsN (TbN K) H') : LwSt K H' fL x ev us ds := ⟨g.lst h.hus, h.dsv.same g.tups, h.row.gx g, g.lst h.ev, tb, h.len⟩
theorem LwSt.sm {H H' : Hp} {fL x ev : Addr} {us : List V} {ds : List De} (h : LwSt K H fL x ev us ds) (g : Same H H') : LwSt K H' fL x ev us ds := h.gx (Gx.of g) (h.tb.ext g)
def spLaw (K : PySem.W.Frag) : Sp := fun vs H Q _ => ∃ (a : Addr) (ns : List Int), vs = [.ref a] ∧ SqL K H a (ns.map V.int) ∧ ns.length ≤ 1000 ∧ NdefX.TabsN (TbN K) H ∧ ∀ H', Q (.bl true) H'
theorem ok_law (T : Txt K mg fds) (TC : TabsOk K mg base) : FnOk P w K mg base CX0 12 (He.ga K "law") (fds "law") ["_law_script"] (spLaw K) := by
  refine T.d_law.fn.ok sc_law (fun vs H Q E h => ?_) (fun cdv A outer s H vs Q E hr h => ?_)
  · obtain ⟨a, ns, rfl, _⟩ := h; rfl
  · obtain ⟨a, ns, rfl, ha, hz, tb, kk⟩ := h
    have nd := sc_law.nd
    refine ⟨_, PSs.nox (pss_cons (ps_set (i := 1) nd rfl (by first | exact Or.inl rfl | exact Or.inr rfl) (pe_fn T.d__law_begin (ok__law_begin T) hr rfl (pa_cons (pv 0) pa_nil)))
      (pss_cons (ps_set (i := 2) nd rfl (by first | exact Or.inl rfl | exact Or.inr rfl) (pe_fn T.d__law_order (ok__law_order T) hr rfl (pa_cons (pv 1) pa_nil)))
      (pss_cons (ps_set (i := 3) nd rfl (by first | exact Or.inl rfl | exact Or.inr rfl) (pe_fn T.d__law_row (ok__law_row T) hr rfl (pa_cons (pv 1) (pa_cons pe_int pa_nil))))
      (pss_cons (ps_if (PW.pt (pw_and (pt_cmpR op_gt (pe_callB call_lenQ (by rfl) T.g_len (by decide +kernel) (pa_cons (pv 3) pa_nil)) pe_int (nomark _)) (pw_and1 (pt_cmpR op_eq (pe_fn T.d__law_draw (ok__law_draw T) hr rfl (pa_cons (pv 1) (pa_cons pe_int pa_nil))) pe_int (nomark _)))))
        (pss_one (ps_expr (pe_bm PySem.F.plainAttrs_list PySem.F.slot_list_append PySem.F.type_list_append mt_append (pv 3) (pa_cons (pe_ix ix_list (pv 3) (pe_fn T.d__law_draw (ok__law_draw T) hr rfl (pa_cons (pv 1) (pa_cons (pe_callB call_lenQ (by rfl) T.g_len (by decide +kernel) (pa_cons (pv 3) pa_nil)) pa_nil))) (fun _ _ => rfl)) pa_nil))))
        pss_nil)
      (pss_cons (ps_set (i := 4) nd rfl (by first | exact Or.inl rfl | exact Or.inr rfl) (pe_mk T.mk_Deeds T.m_Deeds T.e_Deeds_init (ok_Deeds_init T) hr rfl (pa_cons (pv 3) pa_nil)))
      (pss_cons (ps_set (i := 5) nd rfl (by first | exact Or.inl rfl | exact Or.inr rfl) (pe_listRg rfl (by rfl) T.g_list (prg_1 (by rfl) T.g_range (pe_callB call_lenQ (by rfl) T.g_len (by decide +kernel) (pa_cons (pv 3) pa_nil)))))
      (pss_cons (ps_setLc (i := 6) (own := [("_law_k", 7)]) rfl nd rfl rfl (sw_true rfl rfl rfl (by decide +kernel)) (pi_list (pv 5)) (blkOk_by (N := N_law) (sc := (defScope s_law)) (by decide +kernel)) (fun _ _ _ _ _ => (pg_name (i := 7) nd rfl (by first | exact Or.inl rfl | exact Or.inr rfl))) (fun _ _ _ _ _ => pts_one (pt_val (pe_fn T.d_same_for_all (ok_same_for_all T TC) hr rfl (pa_cons (pv 2) (pa_cons (pv 4) (pa_cons (pe_mkK (K := K) (P := P) (w := w) (mg := mg) (base := base) rfl rfl rfl rfl rfl T.mk_Deeds T.m_Deeds T.e_Deeds_init (ok_Deeds_init T) hr rfl (pa_cons (pe_op op_cat (pe_slice (sl_listK (K := K) rfl) (pv 3) po_none (po_some (pv 7))) (pe_slice (sl_listK (K := K) rfl) (pv 3) (po_some (pe_op op_add (pv 7) pe_int)) po_none)) pa_nil)) pa_nil)))))) (fun _ _ _ _ _ => (pv 7)))
      (pss_cons (ps_if (pt_not (pt_val (pe_fn T.d__law_like (ok__law_like T) hr rfl (pa_cons (pe_fn T.d_needless (ok_needless T TC) hr rfl (pa_cons (pv 2) (pa_cons (pv 4) pa_nil))) (pa_cons (pv 6) pa_nil)))))
        (pss_one (ps_ret pe_bl))
        pss_nil)
      (pss_cons (ps_set (i := 6) nd rfl (by first | exact Or.inl rfl | exact Or.inr rfl) (pe_lst pa_nil))
      (pss_cons (ps_for PassesOwn.never rfl (pi_list (pe_slice sl_list (pv 5) po_none (po_some (pe_un un_neg pe_int)))) (pg_name (i := 7) nd rfl (by first | exact Or.inl rfl | exact Or.inr rfl))
        (pss_cons (ps_set (i := 8) nd rfl (by first | exact Or.inl rfl | exact Or.inr rfl) (pe_op op_cat (pe_op op_cat (pe_slice sl_list (pv 3) po_none (po_some (pv 7))) (pe_lst (pa_cons (pe_ix ix_list (pv 3) (pe_op op_add (pv 7) pe_int) (fun _ _ => rfl)) (pa_cons (pe_ix ix_list (pv 3) (pv 7) (fun _ _ => rfl)) pa_nil)))) (pe_slice sl_list (pv 3) (po_some (pe_op op_add (pv 7) pe_int)) po_none)))
        (pss_one (ps_if (pt_val (pe_fn T.d_same_for_all (ok_same_for_all T TC) hr rfl (pa_cons (pv 2) (pa_cons (pv 4) (pa_cons (pe_mk T.mk_Deeds T.m_Deeds T.e_Deeds_init (ok_Deeds_init T) hr rfl (pa_cons (pv 8) pa_nil)) pa_nil)))))
          (pss_one (ps_expr (pe_bm PySem.F.plainAttrs_list PySem.F.slot_list_append PySem.F.type_list_append mt_append (pv 6) (pa_cons (pv 7) pa_nil))))
          pss_nil))))
      (pss_cons (ps_if (pt_not (pt_val (pe_fn T.d__law_like (ok__law_like T) hr rfl (pa_cons (pe_fn T.d_swaps (ok_swaps T TC) hr rfl (pa_cons (pv 2) (pa_cons (pv 4) pa_nil))) (pa_cons (pv 6) pa_nil)))))
        (pss_one (ps_ret pe_bl))
        pss_nil)
      (pss_cons (ps_set (i := 6) nd rfl (by first | exact Or.inl rfl | exact Or.inr rfl) (pe_lst pa_nil))
      (pss_cons (ps_for PassesOwn.never rfl (pi_range1 (by rfl) T.g_range (pa_cons (pe_op op_add (pe_callB call_lenQ (by rfl) T.g_len (by decide +kernel) (pa_cons (pv 3) pa_nil)) pe_int) pa_nil)) (pg_name (i := 9) nd rfl (by first | exact Or.inl rfl | exact Or.inr rfl))
        (pss_one (ps_if (pt_cmpR op_eq (pe_callB call_lenQ (by rfl) T.g_len (by decide +kernel) (pa_cons (pv 6) pa_nil)) pe_int (nomark _))
          (pss_one (ps_for PassesOwn.never rfl (pi_list (pe_fn T.d__law_choices (ok__law_choices T) hr rfl (pa_cons (pv 5) (pa_cons (pv 9) pa_nil)))) (pg_name (i := 10) nd rfl (by first | exact Or.inl rfl | exact Or.inr rfl))
            (pss_one (ps_if (pt_val (pe_fn T.d_same_for_all (ok_same_for_all T TC) hr rfl (pa_cons (pv 2) (pa_cons (pv 4) (pa_cons (pe_mk T.mk_Deeds T.m_Deeds T.e_Deeds_init (ok_Deeds_init T) hr rfl (pa_cons (pe_lc (own := [("_law_k", 7)]) rfl nd (pi_tup (pv 10)) (blkOk_by (N := N_law) (sc := (defScope s_law)) (by decide +kernel)) (fun _ _ _ _ _ => (pg_name (i := 7) nd rfl (by first | exact Or.inl rfl | exact Or.inr rfl))) (fun _ _ _ _ _ => pts_nil) (fun _ _ _ _ _ => (pe_ix (ix_listK (K := K) rfl) (pv 3) (pv 7) (fun _ _ => rfl)))) pa_nil)) pa_nil)))))
              (pss_one (ps_expr (pe_bm PySem.F.plainAttrs_list PySem.F.slot_list_append PySem.F.type_list_append mt_append (pv 6) (pa_cons (pv 10) pa_nil))))
              pss_nil))))
          pss_nil)))
      (pss_cons (ps_if (pt_not (pt_val (pe_fn T.d__law_like (ok__law_like T) hr rfl (pa_cons (pe_fn T.d_cores (ok_cores T TC) hr rfl (pa_cons (pv 2) (pa_cons (pv 4) pa_nil))) (pa_cons (pv 6) pa_nil)))))
        (pss_one (ps_ret pe_bl))
        pss_nil)
      (pss_one (ps_ret (pe_callB (cr_all rfl) (by rfl) T.g_all (by decide +kernel) (pa_cons (pe_lc (own := [("_law_way", 11)]) rfl nd (pi_range1 (by rfl) T.g_range (pa_cons pe_int pa_nil)) (blkOk_by (N := N_law) (sc := (defScope s_law)) (by decide +kernel)) (fun _ _ _ _ _ => (pg_name (i := 11) nd rfl (by first | exact Or.inl rfl | exact Or.inr rfl))) (fun _ _ _ _ _ => pts_nil) (fun _ _ _ _ _ => (pe_fn T.d__law_refused (ok__law_refused T TC) hr rfl (pa_cons (pv 4) (pa_cons (pv 11) pa_nil))))) pa_nil)))))))))))))))))), ?_⟩
    rw [show L2.start N_law [.ref a] = [some (.ref a), none, none, none, none, none, none, none, none, none, none, none] from rfl]
    -- draws
    refine seq_cut (fun σ H => ∃ L, σ = [some (.ref a), some (.ref L), none, none, none, none, none, none, none, none, none, none] ∧ DrAt H L ∧ NdefX.TabsN (TbN K) H) (fun N hN => ?_) ?_
    · walk_at "n"
      refine ⟨a, ns, rfl, ha, hz, fun H1 L s1 hd1 => ?_⟩
      walk_at "n"
      exact hN _ _ ⟨L, rfl, hd1, tb.ext s1⟩
    rintro σ H ⟨L, rfl, hd, tb⟩
    refine seq_cut (fun σ H => ∃ od : Od, σ = [some (.ref a), some (.ref L), some (.str od.s), none, none, none, none, none, none, none, none, none] ∧ DrAt H L ∧ NdefX.TabsN (TbN K) H) (fun N hN => ?_) ?_
    · walk_at "n"
      refine ⟨L, rfl, hd, fun H2 od g2 hd2 => ?_⟩
      walk_at "n"
      exact hN _ _ ⟨od, rfl, hd2, g2.tabs hd.lst tb⟩
    rintro σ H ⟨od, rfl, hd, tb⟩
    refine seq_cut (fun σ H => ∃ fL us ds, σ = [some (.ref a), some (.ref L), some (.str od.s), some (.ref fL), none, none, none, none, none, none, none, none] ∧ DrAt H L ∧ NdefX.TabsN (TbN K) H ∧ fL ≠ L ∧ H fL = some (.lst us) ∧ Paired (DeAt H) us ds ∧ (∀ d ∈ ds, De.ok d) ∧ ds.length ≤ 2) (fun N hN => ?_) ?_
    · walk_at "n"
      refine ⟨L, 2, rfl, hd, by decide, fun H3 fL us ds g3 hd3 nL hus hp hok hlen => ?_⟩
      walk_at "n"
      exact hN _ _ ⟨fL, us, ds, rfl, hd3, g3.tabs hd.lst tb, nL, hus, hp, hok, hlen⟩
    rintro σ H ⟨fL, us, ds, rfl, hd, tb, nL, hus, hp, hok, hlen⟩
    refine seq_cut (fun σ H => ∃ us ds, σ = [some (.ref a), some (.ref L), some (.str od.s), some (.ref fL), none, none, none, none, none, none, none, none] ∧ NdefX.TabsN (TbN K) H ∧ H fL = some (.lst us) ∧ DsV H us ds ∧ ds.length ≤ 3) (fun N hN => ?_) ?_
    · have hl := hp.length
      walk_at "n"
      refine lenL hus rfl ?_
      walk_at "n"
      by_cases h0 : (0 : Int) < (us.length : Int)
      · rw [decide_eq_true h0]
        walk_at "n"
        refine ⟨L, 2, rfl, hd, by decide, by decide, fun H1 n g1 hd1 hn => ?_⟩
        have hus1 := g1.gr _ _ nL hus
        have hp1 := Paired.mapP hp fun _ _ z => z.tups (g1.tups hd.lst)
        have tb1 := g1.tabs hd.lst tb
        walk_at "n"
        by_cases hn0 : (n : Int) = 0
        · rw [decide_eq_true hn0]
          walk_at "n"
          refine ⟨V.ref fL, rfl, .inl ⟨rfl, _, SqL.of hus1⟩, ?_⟩
          walk_at "n"
          refine lenL hus1 rfl ?_
          refine ⟨L, us.length, rfl, hd1, by omega, by omega, fun H2 i g2 hd2 hi => ?_⟩
          have hus2 := g2.gr _ _ nL hus1
          have hp2 := Paired.mapP hp1 fun _ _ z => z.tups (g2.tups hd1.lst)
          have tb2 := g2.tabs hd1.lst tb1
          obtain ⟨x, hx⟩ : ∃ x, us[i]? = some x := ⟨_, List.getElem?_eq_getElem hi⟩
          obtain ⟨d, hdi, hat⟩ := paired_get hp2 hx
          refine ixL hus2 (atI_nat hx) ?_
          refine ⟨fL, us, x, rfl, rfl, hus2, by have := (by decide : 1000 < sizeLine); omega, ?_⟩
          have ts : TupS H2 (upd H2 fL (.lst (us ++ [x]))) := TupS.upd fun xs z => by rw [hus2] at z; cases z
          refine hN _ _ ⟨us ++ [x], ds ++ [d], rfl, tabs_app hus2 tb2, upd_same, ⟨paired_app (Paired.mapP hp2 fun _ _ z => z.tups ts) (.cons (hat.tups ts) .nil), fun e he => ?_, ?_⟩, ?_⟩
          · rcases List.mem_append.mp he with z | z
            · exact hok e z
            · rw [List.mem_singleton.mp z]
              exact hok d (List.mem_of_getElem? hdi)
          · rw [List.length_append, List.length_singleton]
            omega
          · rw [List.length_append, List.length_singleton]
            omega
        · rw [decide_eq_false hn0]
          walk_at "n"
          exact hN _ _ ⟨us, ds, rfl, tb1, hus1, ⟨hp1, hok, by omega⟩, by omega⟩
      · rw [decide_eq_false h0]
        walk_at "n"
        exact hN _ _ ⟨us, ds, rfl, tb, hus, ⟨hp, hok, by omega⟩, by omega⟩
    clear hus hp hok hlen hd tb
    rintro σ H ⟨us, ds, rfl, tb, hus, hds, hlen⟩
    refine seq_cut (fun σ H => ∃ x, σ = [some (.ref a), some (.ref L), some (.str od.s), some (.ref fL), some (.ref x), none, none, none, none, none, none, none] ∧ NdefX.TabsN (TbN K) H ∧ H fL = some (.lst us) ∧ DsV H us ds ∧ DsAt K H (.ref x) ds) (fun N hN => ?_) ?_
    · walk_at "n"
      refine mkDeeds hus hds fun x H' s nx hat => ?_
      walk_at "n"
      exact hN _ _ ⟨x, rfl, tb.ext s, s _ _ hus, hds.same (TupS.of s), hat⟩
    clear hus hds tb
    rintro σ H ⟨x, rfl, tb, hus, hds, hrow⟩
    refine seq_cut (fun σ H => ∃ ev, σ = [some (.ref a), some (.ref L), some (.str od.s), some (.ref fL), some (.ref x), some (.ref ev), none, none, none, none, none, none] ∧ LwSt K H fL x ev us ds) (fun N hN => ?_) ?_
    · walk_at "n"
      have hl := hds.1.length
      refine lenL hus (n := ((ds.length : Nat) : Int)) (by omega) ?_
      refine lsRg (by omega) fun ev hev => ?_
      have s := Same.upd (.lst ((List.range ds.length).map fun i => V.int ((i : Nat) : Int))) hev
      walk_at "n"
      exact hN _ _ ⟨ev, rfl, s _ _ hus, hds.same (TupS.of s), hrow.gx (Gx.of s), upd_same, tb.ext s, hlen⟩
    clear hus hds tb hrow
    rintro σ H ⟨ev, rfl, S⟩
    -- needless
    have nvl : (nV (List.range ds.length)).length = ds.length := by rw [nV_len, List.length_range]
    have nvg : ∀ {i : Nat} {v : V} {n : Nat}, (nV (List.range n))[i]? = some v → v = .int (i : Int) ∧ i < n := fun {i v n} h => by
      have hl := (List.getElem?_eq_some_iff.mp h).1
      rw [nV_len, List.length_range] at hl
      unfold nV at h
      rw [List.getElem?_map, List.getElem?_range hl] at h
      cases h
      exact ⟨rfl, hl⟩
    refine seq_cut (fun σ H => ∃ du, ∃ p : Nat → Bool, σ = [some (.ref a), some (.ref L), some (.str od.s), some (.ref fL), some (.ref x), some (.ref ev), some (.ref du), none, none, none, none, none] ∧ LwSt K H fL x ev us ds ∧ H du = some (.lst (((List.range ds.length).filter p).map fun i => V.int ((i : Nat) : Int))) ∧ ∀ i, p i = true ↔ Alk od ds (without ds i)) (fun N hN => ?_) ?_
    · obtain ⟨p, hpp⟩ := class_dec fun i => Alk od ds (without ds i)
      have wk := walk_list (K := K) (a := ev) (xs := nV (List.range ds.length))
      rw [nvl] at wk
      walk_at "n"
      refine lsL S.ev ?_
      refine lc_gx wk (fun D i acc H => acc = (((List.range i).filter p).map fun i => V.int ((i : Nat) : Int)) ∧ NdefX.TabsN (TbN K) H) (by omega) (fun D i acc H h => ?_) (fun D hD => ⟨rfl, S.tb.ext (Same.upd _ hD)⟩) (fun H g => SqL.of (g.lst S.ev)) (fun D i v H2 H3 acc k1 k2 hD hi gr hacc hI y hk1 hk2 => ?_) fun D ys H2 hD gr hys hI => ?_
      · rw [h.1, List.length_map]
        refine Nat.le_trans (List.length_filter_le _ _) ?_
        rw [List.length_range]
        exact Nat.le_refl _
      · obtain ⟨rfl, y⟩ := y
        obtain ⟨rfl, _⟩ := nvg y
        obtain ⟨hI1, hI2⟩ := hI
        have S2 := S.gx gr hI2
        have hul := S2.dsv.1.length
        walk_at "n"
        refine ⟨trivial, slL S2.hus fun p1 hp1 => ?_⟩
        rw [cutV_to, show (i : Int) + 1 = ((i + 1 : Nat) : Int) by omega]
        have s1 := Same.upd (.lst (us.take i)) hp1
        refine slL (s1 _ _ S2.hus) fun p2 hp2 => ?_
        rw [cutV_from]
        have s2 := Same.upd (.lst (us.drop (i + 1))) hp2
        refine catL (s2 _ _ upd_same) upd_same (by rw [List.length_take, List.length_drop]; omega) fun p3 hp3 => ?_
        have s3 := (s1.trans s2).trans (Same.upd (.lst (us.take i ++ us.drop (i + 1))) hp3)
        have S3 := S2.sm s3
        walk_at "n"
        refine mkDeeds upd_same (dsv_without S3.dsv i) fun x4 H4 s4 nx4 hat4 => ?_
        have S4 := S3.sm s4
        walk_at "n"
        refine ⟨od, _, _, ds, without ds i, rfl, S4.row, hat4, S4.tb, fun H5 b g5 tb5 hb => ?_⟩
        have g := (Gx.of (s3.trans s4)).trans g5
        rw [List.range_succ, List.filter_append, List.map_append] at hk1 hk2
        cases hp1 : p i with
        | true =>
          rw [hb.mpr ((hpp i).mp hp1)]
          walk_at "n"
          exact hk1 _ _ g ⟨by simp [hp1, hI1], tabs_app (g.lst hacc) tb5⟩
        | false =>
          have hb2 : b = false := by
            cases b with
            | false => rfl
            | true =>
              rw [(hpp i).mpr (hb.mp rfl)] at hp1
              cases hp1
          rw [hb2]
          walk_at "n"
          exact hk2 _ g ⟨by simp [hp1, hI1], tb5⟩
      · rw [hI.1] at hys
        walk_at "n"
        exact hN _ _ ⟨D, p, rfl, S.gx gr hI.2, hys, hpp⟩
    clear S
    rintro σ H ⟨du, p, rfl, S, hdu, hpp⟩
    refine seq_cut (fun σ H => σ = [some (.ref a), some (.ref L), some (.str od.s), some (.ref fL), some (.ref x), some (.ref ev), some (.ref du), none, none, none, none, none] ∧ LwSt K H fL x ev us ds) (fun N hN => ?_) ?_
    · walk_at "n"
      refine ⟨od, _, ds, rfl, S.row, S.tb, fun H1 l p' g1 tb1 nl hl hpp' => ?_⟩
      walk_at "n"
      rw [bool_ext hpp' hpp] at hl
      refine ⟨l, du, _, _, rfl, hl, g1.lst hdu, paired_ints _, ?_, ?_⟩
      · have h9 := List.length_filter_le p (List.range ds.length)
        rw [List.length_range] at h9
        rw [List.length_map]
        omega
      · walk_at "n"
        exact hN _ _ ⟨rfl, S.gx g1 tb1⟩
    clear S hdu hpp p
    rintro σ H ⟨rfl, S⟩
    -- swaps
    refine seq_cut (fun σ H => ∃ D H0, σ = [some (.ref a), some (.ref L), some (.str od.s), some (.ref fL), some (.ref x), some (.ref ev), some (.ref D), none, none, none, none, none] ∧ LwSt K H0 fL x ev us ds ∧ H0 D = none ∧ Gx H0 H ∧ NdefX.TabsN (TbN K) H ∧ H D = some (.lst [])) (fun N hN => ?_) ?_
    · walk_at "n"
      refine ⟨by decide, fun D hD => ?_⟩
      exact hN _ _ ⟨D, H, rfl, S, hD, Gx.of (Same.upd _ hD), S.tb.ext (Same.upd _ hD), upd_same⟩
    clear S
    rintro σ H ⟨D, H0, rfl, S0, hD0, g0, tb0, hDl⟩
    refine seq_cut (fun σ H => ∃ k7 k8, ∃ p : Nat → Bool, σ = [some (.ref a), some (.ref L), some (.str od.s), some (.ref fL), some (.ref x), some (.ref ev), some (.ref D), k7, k8, none, none, none] ∧ LwSt K H fL x ev us ds ∧ H D = some (.lst (((List.range (ds.length - 1)).filter p).map fun i => V.int ((i : Nat) : Int))) ∧ ∀ i, p i = true ↔ Alk od ds (swapD ds i)) (fun N hN => ?_) ?_
    · obtain ⟨p, hpp⟩ := class_dec fun i => Alk od ds (swapD ds i)
      have S := S0.gx g0 tb0
      walk_at "n"
      refine ⟨1, rfl, -1, rfl, slL S.ev fun q1 hq1 => ?_⟩
      have ecut : cutV (nV (List.range ds.length)) none (some (-1)) = nV (List.range (ds.length - 1)) := by
        rw [cutV_last, nvl]
        unfold nV
        rw [← List.map_take, List.take_range, Nat.min_eq_left (by omega)]
      rw [ecut]
      have s1 := Same.upd (.lst (nV (List.range (ds.length - 1)))) hq1
      have hq1l : upd H q1 (.lst (nV (List.range (ds.length - 1)))) q1 = some (.lst (nV (List.range (ds.length - 1)))) := upd_same
      have nq : q1 ≠ D := fun z => by rw [z, hDl] at hq1; cases hq1
      have g1 := g0.trans (Gx.of s1)
      have tb1 := tb0.ext s1
      have hDl1 := s1 _ _ hDl
      generalize upd H q1 (.lst (nV (List.range (ds.length - 1)))) = H1 at s1 hq1l g1 tb1 hDl1 ⊢
      have wk := walk_list (K := K) (a := q1) (xs := nV (List.range (ds.length - 1)))
      rw [nV_len, List.length_range] at wk
      refine lsL hq1l ?_
      refine forW wk (fun i σ HH => ∃ k7 k8 : Option V, σ = [some (.ref a), some (.ref L), some (.str od.s), some (.ref fL), some (.ref x), some (.ref ev), some (.ref D), k7, k8, none, none, none] ∧ Gx H0 HH ∧ NdefX.TabsN (TbN K) HH ∧ HH q1 = some (.lst (nV (List.range (ds.length - 1)))) ∧ HH D = some (.lst (((List.range i).filter p).map fun i => V.int ((i : Nat) : Int)))) ⟨none, none, rfl, g1, tb1, hq1l, hDl1⟩ (fun i σ HH _ h => by
        obtain ⟨_, _, _, _, _, h, _⟩ := h
        exact SqL.of h) ?_ ?_
      · rintro i v σ H2 H3 hi ⟨k7, k8, rfl, gr, tb3, hq3, hacc⟩ ⟨rfl, y⟩
        obtain ⟨rfl, hin⟩ := nvg y
        have S3 := S0.gx gr tb3
        have hul := S3.dsv.1.length
        obtain ⟨y1, hy1⟩ : ∃ y, us[i + 1]? = some y := ⟨_, List.getElem?_eq_getElem (by omega)⟩
        obtain ⟨y2, hy2⟩ : ∃ y, us[i]? = some y := ⟨_, List.getElem?_eq_getElem (by omega)⟩
        walk_at "n"
        refine slL S3.hus fun p4 hp4 => ?_
        rw [cutV_to, show (i : Int) + 1 = ((i + 1 : Nat) : Int) by omega, show (i : Int) + 2 = ((i + 2 : Nat) : Int) by omega]
        have s4 := Same.upd (.lst (us.take i)) hp4
        refine ixL (s4 _ _ S3.hus) (atI_nat hy1) ?_
        refine ixL (s4 _ _ S3.hus) (atI_nat hy2) ?_
        refine ⟨by decide, fun p5 hp5 => ?_⟩
        have s5 := Same.upd (.lst [y1, y2]) hp5
        refine catL (s5 _ _ upd_same) upd_same (by rw [List.length_take]; simp only [List.length_cons, List.length_nil]; omega) fun p6 hp6 => ?_
        have s6 := (s4.trans s5).trans (Same.upd (.lst (us.take i ++ [y1, y2])) hp6)
        refine slL (s6 _ _ S3.hus) fun p7 hp7 => ?_
        rw [cutV_from]
        have s7' := Same.upd (.lst (us.drop (i + 2))) hp7
        have s7 := s6.trans s7'
        refine catL (s7' _ _ upd_same) upd_same (by rw [List.length_append, List.length_take, List.length_drop]; simp only [List.length_cons, List.length_nil]; omega) fun p8 hp8 => ?_
        have s8 := s7.trans (Same.upd (.lst (us.take i ++ [y1, y2] ++ us.drop (i + 2))) hp8)
        have S8 := S3.sm s8
        walk_at "n"
        refine mkDeeds upd_same (dsv_swap S8.dsv hy1 hy2) fun x9 H9 s9 nx9 hat9 => ?_
        have S9 := S8.sm s9
        walk_at "n"
        refine ⟨od, _, _, ds, swapD ds i, rfl, S9.row, hat9, S9.tb, fun H10 b g10 tb10 hb => ?_⟩
        have g := (Gx.of (s8.trans s9)).trans g10
        have ha10 := g.lst hacc
        cases hp1 : p i with
        | true =>
          rw [hb.mpr ((hpp i).mp hp1)]
          walk_at "n"
          refine ⟨V.ref D, rfl, .inl ⟨rfl, _, SqL.of ha10⟩, ?_⟩
          walk_at "n"
          refine ⟨D, _, _, rfl, rfl, ha10, ?_, ?_⟩
          · have := (by decide : 1000 < sizeLine)
            have h9 := List.length_filter_le p (List.range i)
            rw [List.length_range] at h9
            rw [List.length_map]
            omega
          · refine ⟨_, _, rfl, (gr.trans g).upd hD0 _, tabs_app ha10 tb10, by rw [upd_ne nq]; exact g.lst hq3, ?_⟩
            rw [upd_same, List.range_succ, List.filter_append, List.map_append]
            simp [hp1]
        | false =>
          have hb2 : b = false := by
            cases b with
            | false => rfl
            | true =>
              rw [(hpp i).mpr (hb.mp rfl)] at hp1
              cases hp1
          rw [hb2]
          walk_at "n"
          refine ⟨_, _, rfl, gr.trans g, tb10, g.lst hq3, ?_⟩
          rw [ha10, List.range_succ, List.filter_append]
          simp [hp1]
      · rintro σ HH ⟨k7, k8, rfl, gr, tb3, hq3, hacc⟩
        exact hN _ _ ⟨k7, k8, p, rfl, S0.gx gr tb3, hacc, hpp⟩
    clear S0 hD0 g0 tb0 hDl
    rintro σ H ⟨k7, k8, p, rfl, S, hdu, hpp⟩
    refine seq_cut (fun σ H => σ = [some (.ref a), some (.ref L), some (.str od.s), some (.ref fL), some (.ref x), some (.ref ev), some (.ref D), k7, k8, none, none, none] ∧ LwSt K H fL x ev us ds) (fun N hN => ?_) ?_
    · walk_at "n"
      refine ⟨od, _, ds, rfl, S.row, S.tb, fun H1 l p' g1 tb1 nl hl hpp' => ?_⟩
      walk_at "n"
      rw [bool_ext hpp' hpp] at hl
      refine ⟨l, D, _, _, rfl, hl, g1.lst hdu, paired_ints _, ?_, ?_⟩
      · have h9 := List.length_filter_le p (List.range (ds.length - 1))
        rw [List.length_range] at h9
        rw [List.length_map]
        omega
      · walk_at "n"
        exact hN _ _ ⟨rfl, S.gx g1 tb1⟩
    clear S hdu hpp p
    rintro σ H ⟨rfl, S⟩
    -- cores
    refine seq_cut (fun σ H => ∃ D H0, σ = [some (.ref a), some (.ref L), some (.str od.s), some (.ref fL), some (.ref x), some (.ref ev), some (.ref D), k7, k8, none, none, none] ∧ LwSt K H0 fL x ev us ds ∧ H0 D = none ∧ Gx H0 H ∧ NdefX.TabsN (TbN K) H ∧ H D = some (.lst [])) (fun N hN => ?_) ?_
    · walk_at "n"
      refine ⟨by decide, fun D hD => ?_⟩
      exact hN _ _ ⟨D, H, rfl, S, hD, Gx.of (Same.upd _ hD), S.tb.ext (Same.upd _ hD), upd_same⟩
    clear S
    rintro σ H ⟨D, H0, rfl, S0, hD0, g0, tb0, hDl⟩
    refine seq_cut (fun σ H => ∃ k9 k10, ∃ p : List Nat → Bool, ∃ us3, σ = [some (.ref a), some (.ref L), some (.str od.s), some (.ref fL), some (.ref x), some (.ref ev), some (.ref D), k7, k8, k9, k10, none] ∧ LwSt K H fL x ev us ds ∧ H D = some (.lst us3) ∧ Paired (TupN K H) us3 (upC p ds.length (ds.length + 1)) ∧ ∀ ns, p ns = true ↔ Alk od ds (pick ds ns)) (fun N hN => ?_) ?_
    · obtain ⟨p, hpp⟩ := class_dec fun ns => Alk od ds (pick ds ns)
      have S := S0.gx g0 tb0
      have hul0 := S.dsv.1.length
      have h6 := S.dsv.2.2
      walk_at "n"
      refine lenL S.hus (n := ((ds.length : Nat) : Int)) (by omega) ?_
      walk_at "n"
      refine rg1 (by omega) (by omega) ?_
      rw [show ((ds.length : Int) + 1).toNat = ds.length + 1 by omega]
      refine forW (n := ds.length + 1) (G := fun _ => True) walk_range (fun m σ HH => ∃ (k9 k10 : Option V) (us3 : List V), σ = [some (.ref a), some (.ref L), some (.str od.s), some (.ref fL), some (.ref x), some (.ref ev), some (.ref D), k7, k8, k9, k10, none] ∧ Gx H0 HH ∧ NdefX.TabsN (TbN K) HH ∧ HH D = some (.lst us3) ∧ Paired (TupN K HH) us3 (upC p ds.length m)) ⟨none, none, [], rfl, g0, tb0, hDl, .nil⟩ (fun _ _ _ _ _ => trivial) ?_ ?_
      · rintro m v σ H2 H3 hm ⟨k9, k10, us3, rfl, gr, tb3, hacc, pacc⟩ ⟨rfl, rfl⟩
        have S3 := S0.gx gr tb3
        walk_at "n"
        rw [show (0 : Int) + (m : Int) = (m : Int) by omega]
        refine lenL hacc rfl ?_
        walk_at "n"
        cases us3 with
        | cons u us3 =>
          rw [decide_eq_false (by simp only [List.length_cons]; omega)]
          walk_at "n"
          refine ⟨_, _, _, rfl, gr, tb3, hacc, ?_⟩
          rw [upC_succ, if_neg]
          · exact pacc
          · intro z
            rw [List.isEmpty_iff.mp z] at pacc
            cases pacc
        | nil =>
          rw [decide_eq_true (by rfl)]
          walk_at "n"
          have eup : upC p ds.length m = [] := List.length_eq_zero_iff.mp pacc.length.symm
          refine ⟨m, by omega, ev, List.range ds.length, rfl, S3.ev, by rw [List.length_range]; omega, fun H5 l5 us5 s5 n5 h5 p5 => ?_⟩
          have g5 := gr.trans (Gx.of s5)
          have tb5 := tb3.ext s5
          have hf5 := s5 _ _ hacc
          have hcl := chs_small (n := ds.length) (m := m) h6 (by omega)
          have hul5 := p5.length
          have lf : l5 ≠ D := fun z => by
            rw [z, hacc] at n5
            cases n5
          walk_at "n"
          refine lsL h5 ?_
          generalize hcs : chs m (List.range ds.length) = cs at p5 hcl hul5 ⊢
          refine forW (walk_list (K := K) (a := l5) (xs := us5)) (fun j σ HH => ∃ (k10 : Option V) (fs : List V), σ = [some (.ref a), some (.ref L), some (.str od.s), some (.ref fL), some (.ref x), some (.ref ev), some (.ref D), k7, k8, some (.int (m : Int)), k10, none] ∧ Gx H0 HH ∧ NdefX.TabsN (TbN K) HH ∧ HH l5 = some (.lst us5) ∧ Paired (TupN K HH) us5 cs ∧ HH D = some (.lst fs) ∧ Paired (TupN K HH) fs ((cs.take j).filter p)) ⟨k10, [], rfl, g5, tb5, h5, p5, hf5, by rw [List.take_zero]; exact .nil⟩ (fun j σ HH _ h => by
            obtain ⟨_, _, _, _, _, h, _⟩ := h
            exact SqL.of h) ?_ ?_
          · rintro j v σ H6 H7 hj ⟨k10', fs, rfl, g6, tb6, h6', p6, hf6, pf6⟩ ⟨rfl, hv⟩
            obtain ⟨ns, hns, b, rfl, hb⟩ := paired_get p6 hv
            have hnm := List.mem_of_getElem? hns
            rw [← hcs] at hnm
            have hnl := chs_item m _ _ hnm
            have hnin := chs_mem m _ _ hnm
            have S6 := S0.gx g6 tb6
            have hul := S6.dsv.1.length
            walk_at "n"
            refine tpT hb ?_
            refine lc_map (n := ns.length) (G := fun HH => SqT K HH b (nV ns)) (by rw [show ns.length = (nV ns).length by simp [nV]]; exact walk_tup) (fun _ i y _ => ∃ j, ns[i]? = some j ∧ us[j]? = some y) (by omega) (fun _ _ _ _ _ _ _ _ r => r) (fun D HH hD g => sqt_same hb (g.same hD)) (fun D i y H8 H9 acc kk hD hi gg hacc yy hkk => ?_) (fun D' ys H8 hD gg hys hlen hall => ?_)
            · obtain ⟨rfl, hy⟩ := yy
              have hi2 : ns[i]? = some ns[i] := List.getElem?_eq_getElem hi
              have hy2 : y = .int ((ns[i] : Nat) : Int) := by
                have hy : (nV ns)[i]? = some y := hy
                unfold nV at hy
                rw [List.getElem?_map, hi2] at hy
                cases hy
                rfl
              subst hy2
              have hlt : ns[i] < us.length := by
                have := List.mem_range.mp (hnin _ (List.getElem_mem hi))
                omega
              have hu := List.getElem?_eq_getElem hlt
              walk_at "n"
              exact ⟨trivial, ixL ((gg.same hD) _ _ S6.hus) (atI_nat hu) (hkk _ _ (Same.refl _) ⟨_, hi2, hu⟩)⟩
            · have s8 := gg.same hD
              have S8 := S6.sm s8
              walk_at "n"
              refine mkDeeds hys (dsv_pick S8.dsv (by omega) hlen hall) fun x9 H9 s9 nx9 hat9 => ?_
              have S9 := S8.sm s9
              walk_at "n"
              refine ⟨od, _, _, ds, pick ds ns, rfl, S9.row, hat9, S9.tb, fun H10 bb g10 tb10 hbb => ?_⟩
              have g := (Gx.of (s8.trans s9)).trans g10
              have hf10 := g.lst hf6
              have fl := pf6.length
              have fl2 := List.length_filter_le p (cs.take j)
              rw [List.length_take] at fl2
              cases hp1 : p ns with
              | true =>
                rw [hbb.mpr ((hpp ns).mp hp1)]
                walk_at "n"
                refine ⟨V.ref D, rfl, .inl ⟨rfl, _, SqL.of hf10⟩, ?_⟩
                walk_at "n"
                refine ⟨D, _, _, rfl, rfl, hf10, by have := (by decide : 100000 < sizeLine); omega, ?_⟩
                refine ⟨_, _, rfl, (g6.trans g).upd hD0 _, tabs_app hf10 tb10, ?_, ?_, upd_same, ?_⟩
                · rw [upd_ne lf]
                  exact g.lst h6'
                · exact Paired.mapP p6 fun _ _ z => (z.gx g).app hf10
                · rw [List.take_add_one, hns, List.filter_append]
                  refine paired_app (Paired.mapP pf6 fun _ _ z => (z.gx g).app hf10) ?_
                  rw [show (Option.some ns).toList = [ns] from rfl, List.filter_cons_of_pos hp1]
                  exact .cons ((TupN.gx (show TupN K H7 (.ref b) ns from ⟨b, rfl, hb⟩) g).app hf10) .nil
              | false =>
                have hb2 : bb = false := by
                  cases bb with
                  | false => rfl
                  | true =>
                    rw [(hpp ns).mpr (hbb.mp rfl)] at hp1
                    cases hp1
                rw [hb2]
                walk_at "n"
                refine ⟨_, _, rfl, g6.trans g, tb10, g.lst h6', Paired.mapP p6 fun _ _ z => z.gx g, hf10, ?_⟩
                rw [List.take_add_one, hns, List.filter_append, show (Option.some ns).toList = [ns] from rfl, List.filter_cons_of_neg (by simp [hp1])]
                simp only [List.filter_nil, List.append_nil]
                exact Paired.mapP pf6 fun _ _ z => z.gx g
          · rintro σ HH ⟨k10', fs, rfl, g6, tb6, h6', p6, hf6, pf6⟩
            rw [hul5, List.take_length] at pf6
            refine ⟨_, _, fs, rfl, g6, tb6, hf6, ?_⟩
            rw [upC_succ, eup, if_pos (by rfl), hcs]
            exact pf6
      · rintro σ HH ⟨k9, k10, us3, rfl, gr, tb3, hacc, pacc⟩
        exact hN _ _ ⟨k9, k10, p, us3, rfl, S0.gx gr tb3, hacc, pacc, hpp⟩
    clear S0 hD0 g0 tb0 hDl
    rintro σ H ⟨k9, k10, p, us3, rfl, S, hacc, pacc, hpp⟩
    refine seq_cut (fun σ H => σ = [some (.ref a), some (.ref L), some (.str od.s), some (.ref fL), some (.ref x), some (.ref ev), some (.ref D), k7, k8, k9, k10, none] ∧ LwSt K H fL x ev us ds) (fun N hN => ?_) ?_
    · walk_at "n"
      refine ⟨od, _, ds, rfl, S.row, S.tb, fun H1 l us4 p' g1 tb1 nl hl pl hpp' => ?_⟩
      walk_at "n"
      rw [bool_ext hpp' hpp] at pl
      have h6 := S.dsv.2.2
      refine ⟨l, D, _, _, rfl, hl, g1.lst hacc, Paired.mapP (paired_two pl (Paired.mapP pacc fun _ _ z => z.gx g1)) (fun v w ⟨ns, hm, h1, h2⟩ => .inr ⟨ns, h1, h2, ?_⟩), ?_, ?_⟩
      · have : ns.length ≤ ds.length + 1 := upC_item (p := p) (n := ds.length) hm
        omega
      · have := upC_len (p := p) h6 (m := ds.length + 1) (by omega)
        have := pl.length
        have : (coresOf p ds.length).length ≤ 46656 := upC_len (p := p) h6 (m := ds.length + 1) (by omega)
        omega
      · walk_at "n"
        exact hN _ _ ⟨rfl, S.gx g1 tb1⟩
    clear S hacc pacc hpp p
    rintro σ H ⟨rfl, S⟩
    -- BadOrder
    walk_at "n"
    refine rg1 (by decide) (by decide) ?_
    refine lc_map (n := 3) (G := fun _ => True) walk_range (fun _ _ y _ => y = V.bl true) (by decide) (fun _ _ _ _ _ _ _ _ r => r) (fun _ _ _ _ => trivial) (fun D i y H8 H9 acc kk hD hi gg hacc yy hkk => ?_) (fun D' ys H8 hD gg hys hlen hall => ?_)
    · obtain ⟨rfl, rfl⟩ := yy
      walk_at "n"
      rw [show (0 : Int) + (i : Int) = (i : Int) by omega]
      exact ⟨trivial, _, i, rfl, hi, hkk _ _ (Same.refl _) rfl⟩
    · have e := trues hall
      rw [e] at hys
      refine allI hys ?_
      rw [show (List.replicate ys.length true).all id = true by simp]
      exact kk _
end

end Gr

namespace Gr
open PySem PySem.Spec PyProof.Rows L2
/-! ### the end: what the top leaves -/
def gD (x : Str) (i : Nat) : He.DefD := ⟨(x, none), x, x, defArgs (top i), defBody (top i), defScope (top i), [], []⟩
def mD (c m q : Str) (i j : Nat) : He.DefD := ⟨(c, some m), m, q, defArgs (inClass (top i) j), defBody (inClass (top i) j), defScope (inClass (top i) j), [], []⟩
def fnGlobals0 : List (Str × Nat) := [("is_number", 8), ("is_kind", 9), ("check_order", 10), ("is_range", 11), ("is_cells", 12), ("is_scope", 13), ("is_told_value", 14), ("is_axis", 15), ("reach_of", 19), ("traced", 21), ("deciding_tellings", 22), ("age_of", 23), ("rows_at", 25), ("is_unlike", 26), ("first_unlike", 27)]
def fnGlobals1 : List (Str × Nat) := [("tells_for", 28), ("parted_by", 29), ("parted", 30), ("same_for_all", 31), ("needless", 32), ("swaps", 33), ("choices", 34), ("cores", 35), ("is_small", 39), ("is_small_scope", 40), ("is_shift", 41), ("is_deed", 42), ("_law_begin", 45), ("_law_draw", 46), ("_law_order", 47)]
def fnGlobals2 : List (Str × Nat) := [("_law_kind", 49), ("_law_ends", 50), ("_law_cells", 51), ("_law_scope", 52), ("_law_deed", 53), ("_law_row", 54), ("_law_like", 56), ("_law_choices", 57), ("_law_refused", 58), ("law", 59)]
def fnGlobals : List (Str × Nat) := fnGlobals0 ++ fnGlobals1 ++ fnGlobals2
def fnMeths : List (Str × Str × Str × Nat × Nat) := [("Trace", "__init__", "Trace.__init__", 20, 0), ("Trace", "tell", "Trace.tell", 20, 1), ("Trace", "shift", "Trace.shift", 20, 2), ("Trace", "insert", "Trace.insert", 20, 3), ("Trace", "remove", "Trace.remove", 20, 4), ("Trace", "move", "Trace.move", 20, 5), ("Trace", "copy", "Trace.copy", 20, 6), ("Trace", "do", "Trace.do", 20, 7), ("Trace", "tellings_at", "Trace.tellings_at", 20, 8), ("Deeds", "__init__", "Deeds.__init__", 43, 0)]
def fn : List He.DefD := (fnGlobals.map fun p => gD p.1 p.2) ++ fnMeths.map fun p => mD p.1 p.2.1 p.2.2.1 p.2.2.2.1 p.2.2.2.2
def frees : List Str := ["len", "range", "list", "tuple", "isinstance", "int", "str", "bool", "max", "min", "sorted", "zip", "enumerate", "any", "all"]
def faMore0 : List He.Fa := [.glo "KINDS", .glo "ORDERS", .int "MOST_sheets" 999999, .int "WIDEST_traces" 9, .int "MOST_traces" 3, .int "MOST_deeds" 6, .int "WIDEST_deeds" 9, .glo "Trace", .glo "Deeds", .cls "Trace", .cls "Deeds", .mkr "Trace", .mkr "Deeds", .noat "Trace" "whole"]
def faMore1 : List He.Fa := [.noat "Trace" "lanes", .noat "Trace" "files", .noat "Trace" "spots", .noat "Deeds" "deeds", .meth "Trace" "tell", .meth "Trace" "shift", .meth "Trace" "insert", .meth "Trace" "remove", .meth "Trace" "move", .meth "Trace" "copy", .meth "Trace" "do", .meth "Trace" "tellings_at", .glo "BadOrder", .exc "BadOrder", .exm "BadOrder" "BadOrder" true]
def fa : List He.Fa := (fnGlobals.map fun p => He.Fa.glo p.1) ++ (frees.map He.Fa.free) ++ (faMore0 ++ faMore1)
def ex (K : PySem.W.Frag) : Bool := He.tupB K "KINDS" [.str "ink", .str "ground", .str "face"] && He.tupB K "ORDERS" [.str "nearest", .str "newest"]
abbrev R : PySem.W.OpenRow := PySem.W.OpenLaw.row PySem.Challenge.rw_gridlooks_k11_whole_needless_deeds
abbrev hk : PySem.W.Hook := He.hookX 5 fa fn [] tfN ex
def ob (s : PySem.W.SharedT) : He.AlX := He.obsX 5 fa fn [] tfN ex (HandSHeadRun.getT s)
theorem ob_eq (s : PySem.W.SharedT) : ob s = hk.obs s.abs := He.obsX_eq (HandSHeadRun.getT_eq s)
def loose0 : List PySem.Str := ["LookError", "BadOrder", "BadDeed", "KINDS", "ORDERS", "MOST_sheets", "is_number", "is_kind", "check_order", "is_range", "is_cells", "is_scope", "is_told_value", "is_axis", "WIDEST_traces", "MOST_traces", "reach_of", "Trace", "traced", "deciding_tellings", "age_of", "rows_at", "is_unlike", "first_unlike", "tells_for", "parted_by", "parted", "same_for_all", "needless", "swaps"]
def loose1 : List PySem.Str := ["choices", "cores", "MOST_deeds", "WIDEST_deeds", "is_small", "is_small_scope", "is_shift", "is_deed", "Deeds", "_law_begin", "_law_draw", "_law_order", "_law_links", "_law_kind", "_law_ends", "_law_cells", "_law_scope", "_law_deed", "_law_row", "_law_near", "_law_like", "_law_choices", "_law_refused"]
def names : List PySem.Str := loose0 ++ loose1
theorem run (w : World) : HandSHeadRun.RunEq R (PySem.W.view R.prog [59]) hk ob 3000 names w := by
  intro os
  kernel_rfl
theorem fds_pick {K : PySem.W.Frag} (z : FuncData) : ∀ {l : List He.DefD}, (l.map He.DefD.qual).Nodup → (∀ d ∈ l, ∃ fd, FunD K d.name d.qual d.params d.body d.scope (d.dvs K) (d.kws K) (He.fAd K d.at_) fd) →
    ∃ g : Str → FuncData, ∀ d ∈ l, FunD K d.name d.qual d.params d.body d.scope (d.dvs K) (d.kws K) (He.fAd K d.at_) (g d.qual)
  | [], _, _ => ⟨fun _ => z, fun d hd => by cases hd⟩
  | d :: l, nd, h => by
    obtain ⟨n1, n2⟩ := List.nodup_cons.mp (show (d.qual :: l.map He.DefD.qual).Nodup from nd)
    obtain ⟨fd, hfd⟩ := h d List.mem_cons_self
    obtain ⟨g, hg⟩ := fds_pick z n2 fun e he => h e (List.mem_cons_of_mem _ he)
    refine ⟨fun x => if x = d.qual then fd else g x, fun e he => ?_⟩
    rcases List.mem_cons.mp he with rfl | he
    · show FunD _ _ _ _ _ _ _ _ _ (if _ = _ then _ else _)
      rw [if_pos rfl]
      exact hfd
    · show FunD _ _ _ _ _ _ _ _ _ (if _ = _ then _ else _)
      rw [if_neg fun z => n1 (by rw [← z]; exact List.mem_map_of_mem he)]
      exact hg e he
theorem facts {w : World} {K : PySem.W.Frag} {h : Heap} {mg : Str → Option Value} (X : K.In h) (G : h.Ns mainGlobals mg) (c : He.SaysX fa fn [] tfN ex w h K) : ∃ fds : Str → FuncData, Txt K mg fds := by
  have D := c.t.d
  obtain ⟨fd0, _⟩ := D.def_ 0 (d := gD "is_number" 8) rfl
  obtain ⟨g, hg⟩ := fds_pick fd0 (l := fn) (by decide +kernel) fun d hd => D.defs hd
  have gd : ∀ (i : Nat) (x : Str) (j : Nat), fn[i]? = some (gD x j) → FnP K x (top j) (He.ga K x) (g x) := fun i x j e => hg _ (List.mem_of_getElem? e)
  have md : ∀ (i : Nat) (C m q : Str) (j n : Nat), fn[i]? = some (mD C m q j n) → FunD K m q (defArgs (inClass (top j) n)) (defBody (inClass (top j) n)) (defScope (inClass (top j) n)) [] [] (He.ma K (He.ga K C) m) (g q) := fun i C m q j n e => hg _ (List.mem_of_getElem? e)
  have mo : He.tupB K "KINDS" [.str "ink", .str "ground", .str "face"] = true ∧ He.tupB K "ORDERS" [.str "nearest", .str "newest"] = true := He.ba c.more
  have f0 := gd 0 "is_number" 8 rfl
  have f1 := gd 1 "is_kind" 9 rfl
  have f2 := gd 2 "check_order" 10 rfl
  have f3 := gd 3 "is_range" 11 rfl
  have f4 := gd 4 "is_cells" 12 rfl
  have f5 := gd 5 "is_scope" 13 rfl
  have f6 := gd 6 "is_told_value" 14 rfl
  have f7 := gd 7 "is_axis" 15 rfl
  have f8 := gd 8 "reach_of" 19 rfl
  have f9 := gd 9 "traced" 21 rfl
  have f10 := gd 10 "deciding_tellings" 22 rfl
  have f11 := gd 11 "age_of" 23 rfl
  have f12 := gd 12 "rows_at" 25 rfl
  have f13 := gd 13 "is_unlike" 26 rfl
  have f14 := gd 14 "first_unlike" 27 rfl
  have f15 := gd 15 "tells_for" 28 rfl
  have f16 := gd 16 "parted_by" 29 rfl
  have f17 := gd 17 "parted" 30 rfl
  have f18 := gd 18 "same_for_all" 31 rfl
  have f19 := gd 19 "needless" 32 rfl
  have f20 := gd 20 "swaps" 33 rfl
  have f21 := gd 21 "choices" 34 rfl
  have f22 := gd 22 "cores" 35 rfl
  have f23 := gd 23 "is_small" 39 rfl
  have f24 := gd 24 "is_small_scope" 40 rfl
  have f25 := gd 25 "is_shift" 41 rfl
  have f26 := gd 26 "is_deed" 42 rfl
  have f27 := gd 27 "_law_begin" 45 rfl
  have f28 := gd 28 "_law_draw" 46 rfl
  have f29 := gd 29 "_law_order" 47 rfl
  have f30 := gd 30 "_law_kind" 49 rfl
  have f31 := gd 31 "_law_ends" 50 rfl
  have f32 := gd 32 "_law_cells" 51 rfl
  have f33 := gd 33 "_law_scope" 52 rfl
  have f34 := gd 34 "_law_deed" 53 rfl
  have f35 := gd 35 "_law_row" 54 rfl
  have f36 := gd 36 "_law_like" 56 rfl
  have f37 := gd 37 "_law_choices" 57 rfl
  have f38 := gd 38 "_law_refused" 58 rfl
  have f39 := gd 39 "law" 59 rfl
  have m0 := md 40 "Trace" "__init__" "Trace.__init__" 20 0 rfl
  have m1 := md 41 "Trace" "tell" "Trace.tell" 20 1 rfl
  have m2 := md 42 "Trace" "shift" "Trace.shift" 20 2 rfl
  have m3 := md 43 "Trace" "insert" "Trace.insert" 20 3 rfl
  have m4 := md 44 "Trace" "remove" "Trace.remove" 20 4 rfl
  have m5 := md 45 "Trace" "move" "Trace.move" 20 5 rfl
  have m6 := md 46 "Trace" "copy" "Trace.copy" 20 6 rfl
  have m7 := md 47 "Trace" "do" "Trace.do" 20 7 rfl
  have m8 := md 48 "Trace" "tellings_at" "Trace.tellings_at" 20 8 rfl
  have m9 := md 49 "Deeds" "__init__" "Deeds.__init__" 43 0 rfl
  exact ⟨g, {
    d_is_number := ⟨f0, He.glo_ok X G (D.fact 0 (f := .glo "is_number") rfl), f0.bindsN fun _ _ _ _ _ _ us hl => match us, hl with | [_, _, _], _ => rfl⟩,
    d_is_kind := ⟨f1, He.glo_ok X G (D.fact 1 (f := .glo "is_kind") rfl), f1.bindsN fun _ _ _ _ _ _ us hl => match us, hl with | [_], _ => rfl⟩,
    d_check_order := ⟨f2, He.glo_ok X G (D.fact 2 (f := .glo "check_order") rfl), f2.bindsN fun _ _ _ _ _ _ us hl => match us, hl with | [_], _ => rfl⟩,
    d_is_range := ⟨f3, He.glo_ok X G (D.fact 3 (f := .glo "is_range") rfl), f3.bindsN fun _ _ _ _ _ _ us hl => match us, hl with | [_, _], _ => rfl⟩,
    d_is_cells := ⟨f4, He.glo_ok X G (D.fact 4 (f := .glo "is_cells") rfl), f4.bindsN fun _ _ _ _ _ _ us hl => match us, hl with | [_], _ => rfl⟩,
    d_is_scope := ⟨f5, He.glo_ok X G (D.fact 5 (f := .glo "is_scope") rfl), f5.bindsN fun _ _ _ _ _ _ us hl => match us, hl with | [_], _ => rfl⟩,
    d_is_told_value := ⟨f6, He.glo_ok X G (D.fact 6 (f := .glo "is_told_value") rfl), f6.bindsN fun _ _ _ _ _ _ us hl => match us, hl with | [_], _ => rfl⟩,
    d_is_axis := ⟨f7, He.glo_ok X G (D.fact 7 (f := .glo "is_axis") rfl), f7.bindsN fun _ _ _ _ _ _ us hl => match us, hl with | [_], _ => rfl⟩,
    d_reach_of := ⟨f8, He.glo_ok X G (D.fact 8 (f := .glo "reach_of") rfl), f8.bindsN fun _ _ _ _ _ _ us hl => match us, hl with | [_], _ => rfl⟩,
    d_traced := ⟨f9, He.glo_ok X G (D.fact 9 (f := .glo "traced") rfl), f9.bindsN fun _ _ _ _ _ _ us hl => match us, hl with | [_, _], _ => rfl⟩,
    d_deciding_tellings := ⟨f10, He.glo_ok X G (D.fact 10 (f := .glo "deciding_tellings") rfl), f10.bindsN fun _ _ _ _ _ _ us hl => match us, hl with | [_, _], _ => rfl⟩,
    d_age_of := ⟨f11, He.glo_ok X G (D.fact 11 (f := .glo "age_of") rfl), f11.bindsN fun _ _ _ _ _ _ us hl => match us, hl with | [_], _ => rfl⟩,
    d_rows_at := ⟨f12, He.glo_ok X G (D.fact 12 (f := .glo "rows_at") rfl), f12.bindsN fun _ _ _ _ _ _ us hl => match us, hl with | [_, _, _, _], _ => rfl⟩,
    d_is_unlike := ⟨f13, He.glo_ok X G (D.fact 13 (f := .glo "is_unlike") rfl), f13.bindsN fun _ _ _ _ _ _ us hl => match us, hl with | [_, _, _], _ => rfl⟩,
    d_first_unlike := ⟨f14, He.glo_ok X G (D.fact 14 (f := .glo "first_unlike") rfl), f14.bindsN fun _ _ _ _ _ _ us hl => match us, hl with | [_, _], _ => rfl⟩,
    d_tells_for := ⟨f15, He.glo_ok X G (D.fact 15 (f := .glo "tells_for") rfl), f15.bindsN fun _ _ _ _ _ _ us hl => match us, hl with | [_, _, _, _], _ => rfl⟩,
    d_parted_by := ⟨f16, He.glo_ok X G (D.fact 16 (f := .glo "parted_by") rfl), f16.bindsN fun _ _ _ _ _ _ us hl => match us, hl with | [_, _, _], _ => rfl⟩,
    d_parted := ⟨f17, He.glo_ok X G (D.fact 17 (f := .glo "parted") rfl), f17.bindsN fun _ _ _ _ _ _ us hl => match us, hl with | [_, _, _], _ => rfl⟩,
    d_same_for_all := ⟨f18, He.glo_ok X G (D.fact 18 (f := .glo "same_for_all") rfl), f18.bindsN fun _ _ _ _ _ _ us hl => match us, hl with | [_, _, _], _ => rfl⟩,
    d_needless := ⟨f19, He.glo_ok X G (D.fact 19 (f := .glo "needless") rfl), f19.bindsN fun _ _ _ _ _ _ us hl => match us, hl with | [_, _], _ => rfl⟩,
    d_swaps := ⟨f20, He.glo_ok X G (D.fact 20 (f := .glo "swaps") rfl), f20.bindsN fun _ _ _ _ _ _ us hl => match us, hl with | [_, _], _ => rfl⟩,
    d_choices := ⟨f21, He.glo_ok X G (D.fact 21 (f := .glo "choices") rfl), f21.bindsN fun _ _ _ _ _ _ us hl => match us, hl with | [_, _], _ => rfl⟩,
    d_cores := ⟨f22, He.glo_ok X G (D.fact 22 (f := .glo "cores") rfl), f22.bindsN fun _ _ _ _ _ _ us hl => match us, hl with | [_, _], _ => rfl⟩,
    d_is_small := ⟨f23, He.glo_ok X G (D.fact 23 (f := .glo "is_small") rfl), f23.bindsN fun _ _ _ _ _ _ us hl => match us, hl with | [_], _ => rfl⟩,
    d_is_small_scope := ⟨f24, He.glo_ok X G (D.fact 24 (f := .glo "is_small_scope") rfl), f24.bindsN fun _ _ _ _ _ _ us hl => match us, hl with | [_], _ => rfl⟩,
    d_is_shift := ⟨f25, He.glo_ok X G (D.fact 25 (f := .glo "is_shift") rfl), f25.bindsN fun _ _ _ _ _ _ us hl => match us, hl with | [_], _ => rfl⟩,
    d_is_deed := ⟨f26, He.glo_ok X G (D.fact 26 (f := .glo "is_deed") rfl), f26.bindsN fun _ _ _ _ _ _ us hl => match us, hl with | [_], _ => rfl⟩,
    d__law_begin := ⟨f27, He.glo_ok X G (D.fact 27 (f := .glo "_law_begin") rfl), f27.bindsN fun _ _ _ _ _ _ us hl => match us, hl with | [_], _ => rfl⟩,
    d__law_draw := ⟨f28, He.glo_ok X G (D.fact 28 (f := .glo "_law_draw") rfl), f28.bindsN fun _ _ _ _ _ _ us hl => match us, hl with | [_, _], _ => rfl⟩,
    d__law_order := ⟨f29, He.glo_ok X G (D.fact 29 (f := .glo "_law_order") rfl), f29.bindsN fun _ _ _ _ _ _ us hl => match us, hl with | [_], _ => rfl⟩,
    d__law_kind := ⟨f30, He.glo_ok X G (D.fact 30 (f := .glo "_law_kind") rfl), f30.bindsN fun _ _ _ _ _ _ us hl => match us, hl with | [_], _ => rfl⟩,
    d__law_ends := ⟨f31, He.glo_ok X G (D.fact 31 (f := .glo "_law_ends") rfl), f31.bindsN fun _ _ _ _ _ _ us hl => match us, hl with | [_, _], _ => rfl⟩,
    d__law_cells := ⟨f32, He.glo_ok X G (D.fact 32 (f := .glo "_law_cells") rfl), f32.bindsN fun _ _ _ _ _ _ us hl => match us, hl with | [_], _ => rfl⟩,
    d__law_scope := ⟨f33, He.glo_ok X G (D.fact 33 (f := .glo "_law_scope") rfl), f33.bindsN fun _ _ _ _ _ _ us hl => match us, hl with | [_], _ => rfl⟩,
    d__law_deed := ⟨f34, He.glo_ok X G (D.fact 34 (f := .glo "_law_deed") rfl), f34.bindsN fun _ _ _ _ _ _ us hl => match us, hl with | [_], _ => rfl⟩,
    d__law_row := ⟨f35, He.glo_ok X G (D.fact 35 (f := .glo "_law_row") rfl), f35.bindsN fun _ _ _ _ _ _ us hl => match us, hl with | [_, _], _ => rfl⟩,
    d__law_like := ⟨f36, He.glo_ok X G (D.fact 36 (f := .glo "_law_like") rfl), f36.bindsN fun _ _ _ _ _ _ us hl => match us, hl with | [_, _], _ => rfl⟩,
    d__law_choices := ⟨f37, He.glo_ok X G (D.fact 37 (f := .glo "_law_choices") rfl), f37.bindsN fun _ _ _ _ _ _ us hl => match us, hl with | [_, _], _ => rfl⟩,
    d__law_refused := ⟨f38, He.glo_ok X G (D.fact 38 (f := .glo "_law_refused") rfl), f38.bindsN fun _ _ _ _ _ _ us hl => match us, hl with | [_, _], _ => rfl⟩,
    d_law := ⟨f39, He.glo_ok X G (D.fact 39 (f := .glo "law") rfl), f39.bindsN fun _ _ _ _ _ _ us hl => match us, hl with | [_], _ => rfl⟩,
    e_init := ⟨m0, m0.bindsN fun _ _ _ _ _ _ us hl => match us, hl with | [_, _], _ => rfl⟩,
    e_tell := ⟨m1, m1.bindsN fun _ _ _ _ _ _ us hl => match us, hl with | [_, _, _, _], _ => rfl⟩,
    e_shift := ⟨m2, m2.bindsN fun _ _ _ _ _ _ us hl => match us, hl with | [_, _, _, _], _ => rfl⟩,
    e_insert := ⟨m3, m3.bindsN fun _ _ _ _ _ _ us hl => match us, hl with | [_, _, _, _, _], _ => rfl⟩,
    e_remove := ⟨m4, m4.bindsN fun _ _ _ _ _ _ us hl => match us, hl with | [_, _, _, _], _ => rfl⟩,
    e_move := ⟨m5, m5.bindsN fun _ _ _ _ _ _ us hl => match us, hl with | [_, _, _, _, _], _ => rfl⟩,
    e_copy := ⟨m6, m6.bindsN fun _ _ _ _ _ _ us hl => match us, hl with | [_, _, _, _], _ => rfl⟩,
    e_do := ⟨m7, m7.bindsN fun _ _ _ _ _ _ us hl => match us, hl with | [_, _, _], _ => rfl⟩,
    e_tellings_at := ⟨m8, m8.bindsN fun _ _ _ _ _ _ us hl => match us, hl with | [_, _, _, _], _ => rfl⟩,
    e_Deeds_init := ⟨m9, m9.bindsN fun _ _ _ _ _ _ us hl => match us, hl with | [_, _], _ => rfl⟩,
    g_len := He.free_ok X G (D.fact 40 (f := .free "len") rfl),
    g_range := He.free_ok X G (D.fact 41 (f := .free "range") rfl),
    g_list := He.free_ok X G (D.fact 42 (f := .free "list") rfl),
    g_tuple := He.free_ok X G (D.fact 43 (f := .free "tuple") rfl),
    g_isinstance := He.free_ok X G (D.fact 44 (f := .free "isinstance") rfl),
    g_int := He.free_ok X G (D.fact 45 (f := .free "int") rfl),
    g_str := He.free_ok X G (D.fact 46 (f := .free "str") rfl),
    g_bool := He.free_ok X G (D.fact 47 (f := .free "bool") rfl),
    g_max := He.free_ok X G (D.fact 48 (f := .free "max") rfl),
    g_min := He.free_ok X G (D.fact 49 (f := .free "min") rfl),
    g_sorted := He.free_ok X G (D.fact 50 (f := .free "sorted") rfl),
    g_zip := He.free_ok X G (D.fact 51 (f := .free "zip") rfl),
    g_enumerate := He.free_ok X G (D.fact 52 (f := .free "enumerate") rfl),
    g_any := He.free_ok X G (D.fact 53 (f := .free "any") rfl),
    g_all := He.free_ok X G (D.fact 54 (f := .free "all") rfl),
    c_MOST_sheets := He.int_ok X G (D.fact 57 (f := .int "MOST_sheets" 999999) rfl),
    c_WIDEST_traces := He.int_ok X G (D.fact 58 (f := .int "WIDEST_traces" 9) rfl),
    c_MOST_traces := He.int_ok X G (D.fact 59 (f := .int "MOST_traces" 3) rfl),
    c_MOST_deeds := He.int_ok X G (D.fact 60 (f := .int "MOST_deeds" 6) rfl),
    c_WIDEST_deeds := He.int_ok X G (D.fact 61 (f := .int "WIDEST_deeds" 9) rfl),
    m_KINDS := He.glo_ok X G (D.fact 55 (f := .glo "KINDS") rfl),
    t_KINDS := fun H => He.tupB_ok mo.1 H,
    m_ORDERS := He.glo_ok X G (D.fact 56 (f := .glo "ORDERS") rfl),
    t_ORDERS := fun H => He.tupB_ok mo.2 H,
    k_Trace := He.cls_ok (D.fact 64 (f := .cls "Trace") rfl),
    m_Trace := He.glo_ok X G (D.fact 62 (f := .glo "Trace") rfl),
    mk_Trace := He.mkr_ok (D.fact 66 (f := .mkr "Trace") rfl),
    k_Deeds := He.cls_ok (D.fact 65 (f := .cls "Deeds") rfl),
    m_Deeds := He.glo_ok X G (D.fact 63 (f := .glo "Deeds") rfl),
    mk_Deeds := He.mkr_ok (D.fact 67 (f := .mkr "Deeds") rfl),
    n_whole := He.noat_ok (D.fact 68 (f := .noat "Trace" "whole") rfl),
    n_lanes := He.noat_ok (D.fact 69 (f := .noat "Trace" "lanes") rfl),
    n_files := He.noat_ok (D.fact 70 (f := .noat "Trace" "files") rfl),
    n_spots := He.noat_ok (D.fact 71 (f := .noat "Trace" "spots") rfl),
    n_deeds := He.noat_ok (D.fact 72 (f := .noat "Deeds" "deeds") rfl),
    h_tell := He.meth_ok (D.fact 73 (f := .meth "Trace" "tell") rfl),
    h_shift := He.meth_ok (D.fact 74 (f := .meth "Trace" "shift") rfl),
    h_insert := He.meth_ok (D.fact 75 (f := .meth "Trace" "insert") rfl),
    h_remove := He.meth_ok (D.fact 76 (f := .meth "Trace" "remove") rfl),
    h_move := He.meth_ok (D.fact 77 (f := .meth "Trace" "move") rfl),
    h_copy := He.meth_ok (D.fact 78 (f := .meth "Trace" "copy") rfl),
    h_do := He.meth_ok (D.fact 79 (f := .meth "Trace" "do") rfl),
    h_tellings_at := He.meth_ok (D.fact 80 (f := .meth "Trace" "tellings_at") rfl),
    x_BadOrder := He.exc_ok (D.fact 82 (f := .exc "BadOrder") rfl),
    m_BadOrder := He.glo_ok X G (D.fact 81 (f := .glo "BadOrder") rfl),
    y_BadOrder := He.exm_ok (D.fact 83 (f := .exm "BadOrder" "BadOrder" true) rfl) }⟩
end Gr
open PySem PySem.W PySem.Calls PyProof.Rows
theorem PySem.Challenge.cw_gridlooks_k11_whole_needless_deeds_holds : PySem.Challenge.rw_gridlooks_k11_whole_needless_deeds.Holds := by
  w_on; o_law
  refine HandSHeadRun.head_any (r := Gr.R) (q := view Gr.R.prog [59]) (H := Gr.hk) (ob := Gr.ob) (M := 3000) (loose := Gr.names) (d := HandSHeadRun.topDef Gr.R.prog 59) (kwd := []) Gr.ob_eq
    (by kernel_rfl) (fun s => by kernel_rfl) Gr.run (by kernel_rfl) (by kernel_rfl) (by kernel_rfl) (by rfl) (by first | assumption | decide +kernel) (by decide +kernel) ⟨rfl, rfl, rfl, rfl, rfl, by decide +kernel⟩ ?hw ?hc
  case hw => w_witness2
  case hc =>
    refine LamX.walk_ofTsE (l := PySem.Challenge.rw_gridlooks_k11_whole_needless_deeds) (n := 63) (k := 12) (x := "_law_script") (CX := fun _ => L2.CX0) rfl (by decide) (by kernel_rfl) ⟨rfl, by decide, by decide⟩ ?F (fun _ _ _ _ _ z => z)
    intro w mg fa h Y G hmg0
    obtain ⟨K, KX, c⟩ := Y
    have hmg : mg ("law" : PySem.Str) = some (.ref fa) := by
      have e : (HandSHeadRun.topDef Gr.R.prog 59).name = ("law" : PySem.Str) := by kernel_rfl
      rw [← e]
      exact hmg0
    obtain ⟨fds, T⟩ := Gr.facts KX G c
    have e := hmg.symm.trans T.d_law.mg
    cases e
    have mem : ∀ {p : Addr × Addr}, p ∈ Gr.tfN.map (He.cT K) → ∃ z ∈ Gr.tfN, He.cT K z = p := fun hp => List.mem_map.mp hp
    refine ⟨K, KX, fds "law", Gr.tfN.map (He.cT K), Gr.spLaw K, fun p hp => ?_, fun p hp => ?_, fun p hp => ?_, fun s u => ?_, fun H a ns hl _ hH hS => ?_, fun base KB GB TB => ?_⟩
    · obtain ⟨z, hz, rfl⟩ := mem hp
      exact c.empty z hz
    · obtain ⟨z, hz, rfl⟩ := mem hp
      exact c.out z hz
    · obtain ⟨z, hz, rfl⟩ := mem hp
      exact PySem.W.codeHd_of_K KX (c.hd z hz)
    · exact L2.FunD.bindsA (ps := ["_law_script"]) T.d_law.fn (fun _ _ _ _ _ _ us hl => match us, hl with | [_], _ => rfl) s [u] rfl
    · refine ⟨a, ns, rfl, hS, by omega, fun p hp => ?_, fun _ => rfl⟩
      obtain ⟨z, hz, rfl⟩ := List.mem_map.mp hp
      exact NdefX.TabN.nil (hH _ (List.mem_map_of_mem hz))
    · exact Gr.ok_law T fun p hp => TB _ (List.mem_map_of_mem hp)
