import PyProof.Rows.All
import Wide.All
import OpenK.AllK
import Wide.FinOn
import KE.KStateDown
import Lean
import HandS.ForMost
import HandS.Exc
import HandS.Defaults
import HandS.HeadEnd
import HandS.HeadHook1
import HandS.HeadHook2
import PySem.Challenge.RW_keypanes_k15_whole_each_point_has_a_pane
import HandS.Head0
import HandS.Head1
import HandS.Head2
import PyProof.NeData
import PyProof.CallFns
import HandS.Evl
import HandS.IsInst
import HandS.Deep
import HandS.TupLe
import HandS.Zip
import HandS.SortOrd
import HandS.SortInts
import HandS.More
import KE.KSortTup
import PyProof.Rows.SortKeyStr
import HandS.Walk
import KE.GoesMore
set_option Elab.async false
set_option linter.all false
set_option maxRecDepth 100000
set_option maxHeartbeats 4000000
namespace Kp
open PySem PySem.Spec PyProof.Rows L2
def top (i : Nat) : Stmt := PySem.Challenge.pw_keypanes_k15_whole_each_point_has_a_pane.main.body.getD i (.Pass ⟨0, 0, 0, 0⟩)
abbrev s_is_number : Stmt := top 12
abbrev s_is_name : Stmt := top 13
abbrev s_is_box : Stmt := top 14
abbrev s_is_key : Stmt := top 15
abbrev s_is_way : Stmt := top 16
abbrev s_is_mark : Stmt := top 17
abbrev s_is_deed : Stmt := top 18
abbrev s_rises : Stmt := top 19
abbrev s_are_marks : Stmt := top 20
abbrev s_is_known : Stmt := top 21
abbrev s_are_keys : Stmt := top 22
abbrev s_is_pane : Stmt := top 23
abbrev s_is_ground : Stmt := top 24
abbrev s_is_rooted : Stmt := top 25
abbrev s_fits_in : Stmt := top 26
abbrev s_is_plan : Stmt := top 27
abbrev s_see_plan : Stmt := top 28
abbrev s_has_name : Stmt := top 29
abbrev s_see_name : Stmt := top 30
abbrev s_the_pane : Stmt := top 31
abbrev s_going_up : Stmt := top 32
abbrev s_inside : Stmt := top 33
abbrev s_placed : Stmt := top 36
abbrev s_has_point : Stmt := top 37
abbrev s_uppermost : Stmt := top 38
abbrev s_found_at : Stmt := top 39
abbrev s_see_point : Stmt := top 40
abbrev s_at_point : Stmt := top 41
abbrev s_borders : Stmt := top 42
abbrev s_counted : Stmt := top 43
abbrev s_area_of : Stmt := top 44
abbrev s_areas : Stmt := top 45
abbrev s_bare : Stmt := top 46
abbrev s_law_cell : Stmt := top 48
abbrev s_law_pen : Stmt := top 49
abbrev s_law_draw : Stmt := top 50
abbrev s_law_pick : Stmt := top 51
abbrev s_law_mixed : Stmt := top 52
abbrev s_law_box : Stmt := top 53
abbrev s_law_key : Stmt := top 54
abbrev s_law_way : Stmt := top 55
abbrev s_law_deed : Stmt := top 56
abbrev s_law_keys : Stmt := top 57
abbrev s_law_marks : Stmt := top 58
abbrev s_law_pane : Stmt := top 59
abbrev s_law_plan : Stmt := top 60
abbrev s_law_names : Stmt := top 61
abbrev s_law_by : Stmt := top 62
abbrev s_law_ups : Stmt := top 63
abbrev s_law_inside : Stmt := top 64
abbrev s_law_is_number : Stmt := top 65
abbrev s_law : Stmt := top 66
/-- the def x stands at the module's name x -/
def Here (K : PySem.W.Frag) (mg : Str → Option Value) (x : Str) (st : Stmt) : Prop :=
  ∃ (f : Addr) (fd : FuncData), FunD K x x (defArgs st) (defBody st) (defScope st) [] [] f fd ∧ mg x = some (.ref f)
/-- what the top leaves -/
structure Top (K : PySem.W.Frag) (mg : Str → Option Value) : Prop where
  g_isinstance : mg "isinstance" = none
  g_int : mg "int" = none
  g_bool : mg "bool" = none
  g_tuple : mg "tuple" = none
  g_len : mg "len" = none
  g_all : mg "all" = none
  g_str : mg "str" = none
  g_range : mg "range" = none
  g_list : mg "list" = none
  g_dict : mg "dict" = none
  g_max : mg "max" = none
  g_sorted : mg "sorted" = none
  g_sum : mg "sum" = none
  g_zip : mg "zip" = none
  g_repr : mg "repr" = none
  c_MOST_PANES : ∃ t, mg "MOST_PANES" = some (.int 40 t)
  c_MOST_KEYS : ∃ t, mg "MOST_KEYS" = some (.int 20 t)
  c_FAR : ∃ t, mg "FAR" = some (.int 1000000 t)
  c_FAR_POINT : ∃ t, mg "FAR_POINT" = some (.int 1000000000 t)
  c_KEY_SIGNS : ∃ t, mg "KEY_SIGNS" = some (.str "abcdefghijklmnopqrstuvwxyz0123456789" t)
  c_MARKS : ∃ a, mg "MARKS" = some (.ref a) ∧ ∀ H, SqT K H a [.str "asleep", .str "hidden", .str "hold", .str "one", .str "sheet", .str "stop"]
  c_WAYS : ∃ a, mg "WAYS" = some (.ref a) ∧ ∀ H, SqT K H a [.str "above", .str "back", .str "below", .str "in", .str "left", .str "next", .str "out", .str "right"]
  f_is_number : Here K mg "is_number" s_is_number
  f_is_name : Here K mg "is_name" s_is_name
  f_is_box : Here K mg "is_box" s_is_box
  f_is_key : Here K mg "is_key" s_is_key
  f_is_way : Here K mg "is_way" s_is_way
  f_is_mark : Here K mg "is_mark" s_is_mark
  f_is_deed : Here K mg "is_deed" s_is_deed
  f_rises : Here K mg "rises" s_rises
  f_are_marks : Here K mg "are_marks" s_are_marks
  f_is_known : Here K mg "is_known" s_is_known
  f_are_keys : Here K mg "are_keys" s_are_keys
  f_is_pane : Here K mg "is_pane" s_is_pane
  f_is_ground : Here K mg "is_ground" s_is_ground
  f_is_rooted : Here K mg "is_rooted" s_is_rooted
  f_fits_in : Here K mg "fits_in" s_fits_in
  f_is_plan : Here K mg "is_plan" s_is_plan
  f_see_plan : Here K mg "see_plan" s_see_plan
  f_has_name : Here K mg "has_name" s_has_name
  f_see_name : Here K mg "see_name" s_see_name
  f_the_pane : Here K mg "the_pane" s_the_pane
  f_going_up : Here K mg "going_up" s_going_up
  f_inside : Here K mg "inside" s_inside
  f_placed : Here K mg "placed" s_placed
  f_has_point : Here K mg "has_point" s_has_point
  f_uppermost : Here K mg "uppermost" s_uppermost
  f_found_at : Here K mg "found_at" s_found_at
  f_see_point : Here K mg "see_point" s_see_point
  f_at_point : Here K mg "at_point" s_at_point
  f_borders : Here K mg "borders" s_borders
  f_counted : Here K mg "counted" s_counted
  f_area_of : Here K mg "area_of" s_area_of
  f_areas : Here K mg "areas" s_areas
  f_bare : Here K mg "bare" s_bare
  f_law_cell : Here K mg "_law_cell" s_law_cell
  f_law_pen : Here K mg "_law_pen" s_law_pen
  f_law_draw : Here K mg "_law_draw" s_law_draw
  f_law_pick : Here K mg "_law_pick" s_law_pick
  f_law_mixed : Here K mg "_law_mixed" s_law_mixed
  f_law_box : Here K mg "_law_box" s_law_box
  f_law_key : Here K mg "_law_key" s_law_key
  f_law_way : Here K mg "_law_way" s_law_way
  f_law_deed : Here K mg "_law_deed" s_law_deed
  f_law_keys : Here K mg "_law_keys" s_law_keys
  f_law_marks : Here K mg "_law_marks" s_law_marks
  f_law_pane : Here K mg "_law_pane" s_law_pane
  f_law_plan : Here K mg "_law_plan" s_law_plan
  f_law_names : Here K mg "_law_names" s_law_names
  f_law_by : Here K mg "_law_by" s_law_by
  f_law_ups : Here K mg "_law_ups" s_law_ups
  f_law_inside : Here K mg "_law_inside" s_law_inside
  f_law_is_number : Here K mg "_law_is_number" s_law_is_number
  f_law : Here K mg "law" s_law
end Kp
set_option Elab.async false
set_option linter.all false
set_option maxRecDepth 100000
set_option maxHeartbeats 0
namespace Kp
open PySem PySem.Spec PyProof.Rows L2
/-! ### the head: facts by names, the run -/
def mkD (x : Str) (i : Nat) : He.DefD := ⟨(x, none), x, x, defArgs (top i), defBody (top i), defScope (top i), [], []⟩
def fnA : List He.DefD := [mkD "is_number" 12, mkD "is_name" 13, mkD "is_box" 14, mkD "is_key" 15, mkD "is_way" 16, mkD "is_mark" 17, mkD "is_deed" 18, mkD "rises" 19, mkD "are_marks" 20, mkD "is_known" 21, mkD "are_keys" 22, mkD "is_pane" 23, mkD "is_ground" 24, mkD "is_rooted" 25, mkD "fits_in" 26, mkD "is_plan" 27, mkD "see_plan" 28, mkD "has_name" 29, mkD "see_name" 30, mkD "the_pane" 31, mkD "going_up" 32, mkD "inside" 33, mkD "placed" 36, mkD "has_point" 37, mkD "uppermost" 38, mkD "found_at" 39, mkD "see_point" 40, mkD "at_point" 41, mkD "borders" 42, mkD "counted" 43]
def fnB : List He.DefD := [mkD "area_of" 44, mkD "areas" 45, mkD "bare" 46, mkD "_law_cell" 48, mkD "_law_pen" 49, mkD "_law_draw" 50, mkD "_law_pick" 51, mkD "_law_mixed" 52, mkD "_law_box" 53, mkD "_law_key" 54, mkD "_law_way" 55, mkD "_law_deed" 56, mkD "_law_keys" 57, mkD "_law_marks" 58, mkD "_law_pane" 59, mkD "_law_plan" 60, mkD "_law_names" 61, mkD "_law_by" 62, mkD "_law_ups" 63, mkD "_law_inside" 64, mkD "_law_is_number" 65, mkD "law" 66]
def fn : List He.DefD := fnA ++ fnB
def faA : List He.Fa := [.free "isinstance", .free "int", .free "bool", .free "tuple", .free "len", .free "all", .free "str", .free "range", .free "list", .free "dict", .free "max", .free "sorted", .free "sum", .free "zip", .free "repr", .int "MOST_PANES" 40, .int "MOST_KEYS" 20, .int "FAR" 1000000, .int "FAR_POINT" 1000000000, .str "KEY_SIGNS" "abcdefghijklmnopqrstuvwxyz0123456789", .glo "MARKS", .glo "WAYS"]
def faB : List He.Fa := [.glo "is_number", .glo "is_name", .glo "is_box", .glo "is_key", .glo "is_way", .glo "is_mark", .glo "is_deed", .glo "rises", .glo "are_marks", .glo "is_known", .glo "are_keys", .glo "is_pane", .glo "is_ground", .glo "is_rooted", .glo "fits_in", .glo "is_plan", .glo "see_plan", .glo "has_name", .glo "see_name", .glo "the_pane", .glo "going_up", .glo "inside", .glo "placed", .glo "has_point", .glo "uppermost", .glo "found_at", .glo "see_point", .glo "at_point", .glo "borders", .glo "counted"]
def faC : List He.Fa := [.glo "area_of", .glo "areas", .glo "bare", .glo "_law_cell", .glo "_law_pen", .glo "_law_draw", .glo "_law_pick", .glo "_law_mixed", .glo "_law_box", .glo "_law_key", .glo "_law_way", .glo "_law_deed", .glo "_law_keys", .glo "_law_marks", .glo "_law_pane", .glo "_law_plan", .glo "_law_names", .glo "_law_by", .glo "_law_ups", .glo "_law_inside", .glo "_law_is_number", .glo "law"]
def fa : List He.Fa := faA ++ (faB ++ faC)
def exB (K : PySem.W.Frag) : Bool := He.tupB K "MARKS" [.str "asleep", .str "hidden", .str "hold", .str "one", .str "sheet", .str "stop"] &&
  He.tupB K "WAYS" [.str "above", .str "back", .str "below", .str "in", .str "left", .str "next", .str "out", .str "right"]
/-- what is looked at: the facts, the two tables -/
abbrev AlK : Type := He.AlD × Bool
def obsK (n : Nat) (g : Addr → Option Obj) : AlK := (He.obsD fa fn (He.frG g (He.asD g n)), exB (He.frG g (He.asD g n)))
def valK : AlK := (He.valD fn, true)
structure Says (K : PySem.W.Frag) : Prop where
  d : He.SaysD fa fn K
  ex : exB K = true
def hkK (n : Nat) : PySem.W.Hook where
  α := AlK
  obs := fun s => obsK n s.heap.get?
  val := fun _ => valK
  says := fun _ h => ∃ K : PySem.W.Frag, K.In h ∧ Says K
  of := fun _ _ e => ⟨_, He.frG_in, ⟨congrArg (fun z : AlK => z.1) e, congrArg (fun z : AlK => z.2) e⟩⟩
  keeps := fun _ _ _ ⟨K, hK, c⟩ k => ⟨K, PySem.W.Frag.In.keeps hK k, c⟩
abbrev hk : PySem.W.Hook := hkK 4
abbrev R : PySem.W.OpenRow := PySem.W.OpenLaw.row PySem.Challenge.rw_keypanes_k15_whole_each_point_has_a_pane
def ob (s : PySem.W.SharedT) : AlK := obsK 4 (HandSHeadRun.getT s)
theorem ob_eq (s : PySem.W.SharedT) : ob s = hk.obs s.abs := by
  have e : HandSHeadRun.getT s = s.abs.heap.get? := funext fun a => HandSHeadRun.getT_eq s a
  show obsK 4 (HandSHeadRun.getT s) = obsK 4 s.abs.heap.get?
  rw [e]
def loose0 : List PySem.Str := ["KeysError", "NoPlan", "NoName", "NoNumber", "MOST_PANES", "MOST_KEYS", "FAR", "MARKS", "WAYS", "KEY_SIGNS", "is_number", "is_name", "is_box", "is_key", "is_way", "is_mark", "is_deed", "rises", "are_marks", "is_known", "are_keys", "is_pane", "is_ground", "is_rooted", "fits_in", "is_plan", "see_plan", "has_name", "see_name", "the_pane"]
def loose1 : List PySem.Str := ["going_up", "inside", "FAR_POINT", "placed", "has_point", "uppermost", "found_at", "see_point", "at_point", "borders", "counted", "area_of", "areas", "bare", "_law_cell", "_law_pen", "_law_draw", "_law_pick", "_law_mixed", "_law_box", "_law_key", "_law_way", "_law_deed", "_law_keys", "_law_marks", "_law_pane", "_law_plan", "_law_names", "_law_by", "_law_ups"]
def loose2 : List PySem.Str := ["_law_inside", "_law_is_number"]
def loose : List PySem.Str := loose0 ++ loose1 ++ loose2
theorem run (w : World) : HandSHeadRun.RunEq R (PySem.W.view R.prog [66]) hk ob 4000 loose w := by
  intro os
  kernel_rfl
end Kp
set_option Elab.async false
set_option linter.all false
set_option maxRecDepth 100000
set_option maxHeartbeats 4000000
namespace Kp
open PySem PySem.Spec PyProof.Rows L2 Evl

/-! ### a def by its name -/
structure DefAt (P : Program) (w : World) (K : PySem.W.Frag) (mg : Str → Option Value) (base : Heap) (k : Nat) (x : Str) (ps : List Str) (sp : Sp) : Prop where
  ex : ∃ (f : Addr) (fd : FuncData), FnOk P w K mg base CX0 k f fd ps sp ∧ mg x = some (.ref f) ∧ PySem.W.keepIn K (.ref f) = true ∧ Binds K fd ps []
theorem pe_callD {X : Cx} {k j : Nat} {x : Str} {ps : List Str} {sp : Sp} {p pos : Pos} {e : Expr} {es : List Expr} {t : TA} (D : DefAt X.prog X.w X.K X.mg X.base k x ps sp) (hr : Room j X.A) (hg : Gl X x) (ha : PA X (e :: es) t)
    (hk : k ≤ j := by decide) (hdb : (x == ("__debug__" : Str)) = false := by decide) (he : starEach (e :: es) X.env = (false, eval e X.env) :: starEach es X.env := by rfl) (hpl : (backTo pos (starEach es X.env)).any (·.1) = false := by rfl) :
    PE X (.Call (.Name x p) (e :: es) [] pos) (tCall sp [] E0 t) := by
  obtain ⟨f, fd, F, hm, hkp, hb⟩ := D.ex
  exact pe_call F (hr.mono hk) hg hm hkp hb .nil pass0 ha hdb he hpl
theorem def_of {P : Program} {w : World} {K : PySem.W.Frag} {mg : Str → Option Value} {base : Heap} {x : Str} {st : Stmt} {N ps : List Str} {k : Nat} {sp : Sp} (h : Here K mg x st) (S : FnScope N ps (defScope st)) (len : ∀ vs H Q E, sp vs H Q E → vs.length = ps.length)
    (hb : ∀ (kV doc pm : Value) (an : Option Addr) (cdv ct : Value) (us : List Value), us.length = ps.length → bindArgs (PySem.W.fnOf x x (defArgs st) (defBody st) (defScope st) .none kV doc pm an cdv ct) ⟨us, []⟩ = pure (ps.zip us))
    (body : ∀ (f : Addr) (cdv : Value) (A : Around) (outer : List Env) (s : Shared) (H : Hp) (vs : List V) (Q : VK) (E : XK), Room k (A.deeper (envOfC x (defScope st) s.heap.objs.size f cdv)) → sp vs H Q E →
      ∃ t, PSs (cxOf CX0 P w K mg base N x (defScope st) f cdv A outer s H E).nox (defBody st) t ∧ t { nx := fun _ H' => Q .non H', rt := Q } (start N vs) H) : DefAt P w K mg base (k + 1) x ps sp := by
  obtain ⟨f, fd, F, hm⟩ := h
  exact ⟨f, fd, F.ok S len fun cdv A outer s H vs Q E hr hs => by
    obtain ⟨t, ht, hq⟩ := body f cdv A outer s H vs Q E hr hs
    exact ⟨t, ht.nox, hq⟩, hm, F.kp, F.bindsN hb⟩

/-! ### promises that tell a value, a new list, tuple, dict -/
def SpF (ps : List V → Hp → V → Prop) : Sp := fun vs H Q _ => ∃ z, ps vs H z ∧ ∀ H', Ex H H' → Q z H'
def SpN (ps : List V → Hp → List V → Prop) : Sp := fun vs H Q _ => ∃ xs, ps vs H xs ∧ ∀ p H', H p = none → Ex H H' → H' p = some (.lst xs) → Q (.ref p) H'
def SpU (ps : List V → Hp → List V → Prop) : Sp := fun vs H Q _ => ∃ xs, ps vs H xs ∧ ∀ p H', H p = none → Ex H H' → H' p = some (.tup xs) → Q (.ref p) H'
def SpD (ps : List V → Hp → List (Key × V) → Prop) : Sp := fun vs H Q _ => ∃ xs, ps vs H xs ∧ ∀ p H', H p = none → Ex H H' → H' p = some (.dK xs) → Q (.ref p) H'
def EvD (te : TE) (σ : L2.St) (H : Hp) (xs : List (Key × V)) : Prop := ∀ H1, Ex H H1 → ∀ Q : VK, (∀ p H2, H1 p = none → Ex H1 H2 → H2 p = some (.dK xs) → Q (.ref p) H2) → te σ H1 Q
section
variable {K : PySem.W.Frag} {σ : L2.St} {H H' : Hp} {ta tb tc te tx : TE} {t u : TT} {x y z v w : V} {r r' : R2} {D : Ends} {tz : TS}
theorem ev_callF {ps : List V → Hp → V → Prop} {E : XK} {ta : TA} {vs : List V} (h : EvA ta σ H vs) (hp : ∀ H1, Ex H H1 → ps vs H1 z) : Ev (tCall (SpF ps) [] E ta) σ H z := fun H1 e Q q =>
  h H1 e _ fun H2 e2 => ⟨z, by rw [List.append_nil]; exact hp H2 (e.trans e2), fun H3 e3 => q H3 (e2.trans e3)⟩
theorem el_callN {ps : List V → Hp → List V → Prop} {E : XK} {ta : TA} {vs xs : List V} (h : EvA ta σ H vs) (hp : ∀ H1, Ex H H1 → ps vs H1 xs) : EvL (tCall (SpN ps) [] E ta) σ H xs := fun H1 e Q q =>
  h H1 e _ fun H2 e2 => ⟨xs, by rw [List.append_nil]; exact hp H2 (e.trans e2), fun p H3 hn e3 h3 => q p H3 (fresh_back e2 hn) (e2.trans e3) h3⟩
theorem eu_callU {ps : List V → Hp → List V → Prop} {E : XK} {ta : TA} {vs xs : List V} (h : EvA ta σ H vs) (hp : ∀ H1, Ex H H1 → ps vs H1 xs) : EvU (tCall (SpU ps) [] E ta) σ H xs := fun H1 e Q q =>
  h H1 e _ fun H2 e2 => ⟨xs, by rw [List.append_nil]; exact hp H2 (e.trans e2), fun p H3 hn e3 h3 => q p H3 (fresh_back e2 hn) (e2.trans e3) h3⟩
theorem ed_callD {ps : List V → Hp → List (Key × V) → Prop} {E : XK} {ta : TA} {vs : List V} {xs : List (Key × V)} (h : EvA ta σ H vs) (hp : ∀ H1, Ex H H1 → ps vs H1 xs) : EvD (tCall (SpD ps) [] E ta) σ H xs := fun H1 e Q q =>
  h H1 e _ fun H2 e2 => ⟨xs, by rw [List.append_nil]; exact hp H2 (e.trans e2), fun p H3 hn e3 h3 => q p H3 (fresh_back e2 hn) (e2.trans e3) h3⟩
theorem ev_chain {k1 k2 : Bool} (ha : Ev ta σ H x) (hb : Ev tb σ H y) (hr : RV r x y H (.bl k1)) (hc : Ev tc σ H w) (hr' : RV r' y w H (.bl k2)) : Ev (tChain r r' ta tb tc) σ H (.bl (k1 && k2)) := fun H1 e Q q =>
  ha H1 e _ fun H2 e2 => hb H2 (e.trans e2) _ fun H3 e3 => hr H3 ((e.trans e2).trans e3) _ fun H4 e4 => ⟨k1, rfl, by
    cases k1 with
    | true =>
      show tc σ H4 fun w' H4 => r' y w' H4 Q
      exact hc H4 (((e.trans e2).trans e3).trans e4) _ fun H5 e5 => hr' H5 ((((e.trans e2).trans e3).trans e4).trans e5) Q fun H6 e6 => q H6 ((((e2.trans e3).trans e4).trans e5).trans e6)
    | false =>
      show Q (.bl false) H4
      exact q H4 ((e2.trans e3).trans e4)⟩
theorem rc_isi {t T : String} {b : Bool} (ty : ∀ H1, Ex H H1 → TyX K H1 x (.type t)) (h : kitB t T = some b) : RC (rIsi K) [x, .ty T] H (.bl b) := fun H1 e _ q =>
  ⟨x, .ty T, _, _, b, rfl, .ty T, ty H1 e, kit_ty h, q H1 (Ex.refl H1)⟩
theorem ty_int {i : Int} : ∀ H1, Ex H H1 → TyX K H1 (.int i) (.type "int") := fun _ _ => .base (.int i)
theorem ty_str {i : Str} : ∀ H1, Ex H H1 → TyX K H1 (.str i) (.type "str") := fun _ _ => .base (.str i)
theorem ty_tup {a : Addr} {xs : List V} (h : H a = some (.tup xs)) : ∀ H1, Ex H H1 → TyX K H1 (.ref a) (.type "tuple") := fun _ e => .base (.tup (e _ _ h))
theorem ty_lst {a : Addr} {xs : List V} (h : H a = some (.lst xs)) : ∀ H1, Ex H H1 → TyX K H1 (.ref a) (.type "list") := fun _ e => .base (.lst (e _ _ h))
end

/-! ### rules that lack -/
section
variable {X : Cx}
theorem call_repr_bool : CallR X (.builtin "repr") (fun xs H Q => ∃ b : Bool, xs = [.bl b] ∧ Q (.str (if b then "True" else "False")) H) := by
  intro pins s σ H xs us Q I r h
  obtain ⟨b, rfl, q⟩ := h
  obtain ⟨u, rfl, ru⟩ := vals1 r
  cases ru
  exact PySem.P.repr_of_bool ⟨.str _, H, I.tok _, ⟨_, rfl⟩, q⟩
/-- xs != [], the second an empty list -/
def rNeNil (K : PySem.W.Frag) : R2 := fun x y H Q => ∃ (a b : Addr) (xs : List V), x = .ref a ∧ y = .ref b ∧ SqL K H a xs ∧ SqL K H b [] ∧ Q (.bl (!xs.isEmpty)) H
theorem op_neNil (hu : X.A.units < cLine) : OpR X (compareOp .NotEq) (rNeNil X.K) := by
  intro pins s σ H x y v u Q I rx ry h
  obtain ⟨a, b, xs, rfl, rfl, ha, hb, q⟩ := h
  cases rx
  cases ry
  obtain ⟨its, r1, p1, _⟩ := I.list ha
  obtain ⟨its2, r2, p2, _⟩ := I.list hb
  cases r2
  have e1 := r1.length
  cases xs with
  | nil =>
    cases r1
    exact SeqAt.RcNeAt.lists (e := fun _ => true) p1.isList p2.isList rfl hu (fun j h1 _ => absurd h1 (by simp)) _ _ _ _ ⟨.bl false, H, I, rfl, q⟩
  | cons x xs =>
    cases r1 with
    | cons r r' =>
      exact SeqAt.RcNeAt.lists_lengths p1.isList p2.isList (by simp) hu _ _ _ _ ⟨.bl true, H, I, rfl, q⟩
/-- (bool, int) > (bool, int) -/
def rGtR (K : PySem.W.Frag) : R2 := fun x y H Q => ∃ (a b : Addr) (p q : Bool) (i j : Int), x = .ref a ∧ y = .ref b ∧ SqT K H a [.bl p, .int i] ∧ SqT K H b [.bl q, .int j] ∧ Q (.bl (if p = q then decide (j < i) else p && !q)) H
theorem op_gtR (hu : X.A.units < cLine) : OpR X (compareOp .Gt) (rGtR X.K) := by
  intro pins s σ H x y v u Q I rx ry h
  obtain ⟨a, b, p, q, i, j, rfl, rfl, ha, hb, k⟩ := h
  cases rx
  cases ry
  obtain ⟨its, r1, p1, _⟩ := I.tuple ha
  obtain ⟨its2, r2, p2, _⟩ := I.tuple hb
  obtain ⟨u1, u2, rfl, ru1, ru2⟩ := vals2 r1
  obtain ⟨v1, v2, rfl, rv1, rv2⟩ := vals2 r2
  cases ru1
  cases rv1
  obtain ⟨t, rfl⟩ := ru2
  obtain ⟨t', rfl⟩ := rv2
  refine Ob.RcOp.tuples_gt (e := fun n => if n = 0 then p == q else i == j) (r := fun n => if n = 0 then decide (b2i p > b2i q) else decide (j < i)) p1 p2 hu (fun n h1 h2 => ?_) (fun n h1 h2 _ => ?_) X.prog X.w _ _ ?_
  · match n, h1 with
    | 0, _ => exact SeqAt.EqAt.bool_bool p q
    | 1, _ => exact SeqAt.EqAt.int_int i t j t'
    | n + 2, h1 => exact absurd h1 (by simp)
  · match n, h1 with
    | 0, _ => exact fun prog w E Q h => PyProof.Rows.gt_bool h
    | 1, _ => exact fun prog w E Q h => PyProof.Rows.gt_int h
    | n + 2, h1 => exact absurd h1 (by simp)
  · refine ⟨_, H, I, ?_, k⟩
    show Value.bool _ = Value.bool _
    cases p <;> cases q <;> simp [Ob.lexAt, b2i]
    all_goals (by_cases hh : i = j)
    all_goals simp [hh]
end
end Kp
set_option Elab.async false
set_option linter.all false
set_option maxRecDepth 100000
set_option maxHeartbeats 4000000
/-! sorted of a list of tuples whose first items are ints (or texts), no two alike: the firsts alone are compared -/
namespace Kp
open PySem PySem.Spec PyProof.Rows L2 Evl SrtO
section
variable {prog : Program} {w : World} {A : Around} {s : Shared} {b fin : Bool} {Q : Bool → Shared → Prop}
theorem kat_self : ∀ (l : List Value) (i : Nat), Q fin s → PySem.W.KatLex prog w A b fin Q (l.zip l) i s
  | [], _, h => PySem.W.kat_nil h
  | v :: l, i, h => PySem.W.kat_cons (SeqAt.EqAt.same v prog w _ _ (PySem.W.kat_yes (kat_self l (i + 1) h)))
end
/-- a tuple whose first item is x -/
def Fst (h : Heap) (v : Value) (x : V) : Prop := ∃ a o u its n, v = .ref a ∧ h.get? a = some o ∧ o.cls = .type "tuple" ∧ o.data = .seq its n ∧ RelV x u ∧ ∃ r, its.toList = u :: r
theorem Fst.keeps {h h' : Heap} {v : Value} {x : V} (p : Fst h v x) (k : ∀ b o, h.get? b = some o → o.cls = .type "tuple" → h'.get? b = some o) : Fst h' v x := by
  obtain ⟨a, o, u, its, n, e, ho, hc, hd, r⟩ := p
  exact ⟨a, o, u, its, n, e, k a o ho hc, hc, hd, r⟩
theorem fsts_of {h : Heap} {k : Value → V} : ∀ {vs : List Value}, (∀ v ∈ vs, Fst h v (k v)) → ∃ fs : List Value, PySem.W.KatTups h vs fs ∧ fs.length = vs.length ∧ ∀ f ∈ fs, ∃ v ∈ vs, RelV (k v) f
  | [], _ => ⟨[], PySem.W.KatTups.nil, rfl, fun _ hm => by simp at hm⟩
  | v :: vs, hp => by
    obtain ⟨fs, h1, h2, h3⟩ := fsts_of (vs := vs) fun v' hm => hp v' (List.mem_cons_of_mem _ hm)
    obtain ⟨a, o, u, its, n, e, ho, hc, hd, ru, r, hr⟩ := hp v (List.mem_cons_self ..)
    have h0 : its[0]? = some u := by
      have z := congrArg (fun l : List Value => l[0]?) hr
      simpa using z
    have ru' := ru
    generalize k v = kv at ru
    subst e
    refine ⟨u :: fs, PySem.W.KatTups.cons ho hc hd h0 h1, by rw [List.length_cons, List.length_cons, h2], fun f hm => ?_⟩
    rcases List.mem_cons.mp hm with rfl | hm
    · exact ⟨_, List.mem_cons_self .., ru'⟩
    · obtain ⟨v', hv', r'⟩ := h3 f hm
      exact ⟨v', List.mem_cons_of_mem _ hv', r'⟩
/-- a kind of firsts -/
structure FK (κ : Type) where
  v : κ → V
  lt : κ → κ → Bool
  T : String
  swo : Swo lt
  ne : ∀ (x y : κ) (a b : Value), RelV (v x) a → RelV (v y) b → x ≠ y → ∀ (A : Around) (s : Shared), SeqAt.EqAt A s a b false
  one : ∀ (x y : κ) (a b : Value), RelV (v x) a → RelV (v y) b → ∀ (prog : Program) (w : World) (A : Around) (Q : Bool → Shared → Prop) (E : Value → Shared → Prop) (s : Shared), Q (lt x y) s → wpAny (model prog w) A (oneLt' true a b) Q E s
  ty : ∀ (x : κ) (a : Value), RelV (v x) a → ∀ (M : Model) (h : Heap), PySem.W.Looks M h (typeOf a) (.type T)
  tt : (Value.type T == Value.type T) = true
  tn : (Value.type T != Value.type "tuple") = true
section
variable {κ : Type} (F : FK κ) {prog : Program} {w : World} {A : Around} {s : Shared}
theorem fk_cmp {vs : List Value} {k : Value → κ} (hp : ∀ v ∈ vs, Fst s.heap v (F.v (k v))) (inj : ∀ v ∈ vs, ∀ u ∈ vs, k v = k u → v = u) : Cmp prog w A s (tuples' true) (fun p => p.1 ∈ vs) (lt2 fun v u => F.lt (k v) (k u)) := by
  intro p q hm hm'
  show wpAny (model prog w) A (keyLt' (tuples' true) p.1 q.1) (fun r s' => s' = s ∧ r = F.lt (k p.1) (k q.1)) (fun _ _ => False) s
  have h1 := hp _ hm
  have h2 := hp _ hm'
  by_cases e : k p.1 = k q.1
  · have e' := inj _ hm _ hm' e
    rw [← e']
    have hr : F.lt (k p.1) (k p.1) = false := F.swo.refl _
    obtain ⟨a, o, u, its, n, ev, ho, hc, hd, ru, r, hr'⟩ := h1
    rw [ev] at hr ⊢
    refine PySem.W.kat_lt ho hd ho hd ?_
    refine kat_self its.toList 0 ⟨rfl, ?_⟩
    rw [hr]
    simp
  · generalize k p.1 = x at e h1 ⊢
    generalize k q.1 = y at e h2 ⊢
    obtain ⟨a, o, u, its, n, ev, ho, hc, hd, ru, r, hr⟩ := h1
    obtain ⟨a', o', u', its', n', ev', ho', hc', hd', ru', r', hr'⟩ := h2
    rw [ev, ev']
    refine PySem.W.kat_lt ho hd ho' hd' ?_
    rw [hr, hr', List.zip_cons_cons]
    exact PySem.W.kat_cons (F.ne x y u u' ru ru' e _ _ prog w _ _ (PySem.W.kat_no (F.one x y u u' ru ru' prog w _ _ _ _ ⟨rfl, rfl⟩)))
theorem fk_sortable {a : Addr} {vs : List Value} {k : Value → κ} (h0 : 0 < vs.length) (hp : ∀ v ∈ vs, Fst s.heap v (F.v (k v))) (inj : ∀ v ∈ vs, ∀ u ∈ vs, k v = k u → v = u) (ha : ∀ o, s.heap.get? a = some o → o.cls ≠ .type "tuple") :
    SortableO prog w A s a vs fun v u => F.lt (k v) (k u) := by
  intro h' keep
  have hp' : ∀ v ∈ vs, Fst h' v (F.v (k v)) := fun v hm => (hp v hm).keeps fun b o e c => keep b o (fun z => by subst z; exact ha o e c) e
  obtain ⟨fs, h1, h2, h3⟩ := fsts_of hp'
  refine ⟨tuples' true, fun Q E hq => ?_, fk_cmp (s := { s with heap := h' }) F hp' inj⟩
  refine PySem.W.kat_kind (T := .type F.T) h1 (by omega) (fun f hm => ?_) F.tt ?_
  · obtain ⟨v, _, r⟩ := h3 f hm
    exact F.ty _ _ r _ _
  · rw [F.tn]
    exact hq
theorem fk_swo (k : Value → κ) : Swo fun v u => F.lt (k v) (k u) := ⟨fun x y => F.swo.asym _ _, fun x y z => F.swo.tr _ _ _⟩
/-- sorted(xs): tuples of unlike firsts -/
def rSortedK (F : FK κ) (K : PySem.W.Frag) : List V → Hp → VK → Prop := fun vs H Q => ∃ (a : Addr) (xs : List V) (k : V → κ), vs = [V.ref a] ∧ SqL K H a xs ∧ (∀ x ∈ xs, ∃ t r, x = V.ref t ∧ H t = some (.tup (F.v (k x) :: r))) ∧
  (∀ x ∈ xs, ∀ y ∈ xs, k x = k y → x = y) ∧ ∀ ys p, ys.Perm xs → ys.Pairwise (fun x y => F.lt (k y) (k x) = false) → H p = none → Q (.ref p) (upd H p (.lst ys))
theorem cr_sortedK {X : Cx} : CallR X (.builtin "sorted") (rSortedK F X.K) := by
  intro pins s σ H vs us Q I r h
  obtain ⟨a, xs, k, rfl, hs, hx, inj, q⟩ := h
  obtain ⟨its, rv, hl, hz⟩ := I.list hs
  obtain ⟨u, rfl, ru⟩ := vals1 r
  obtain rfl : u = Value.ref a := ru
  obtain ⟨e1, e2⟩ := refs_back rv fun x m => by
    obtain ⟨t, _, e, _⟩ := hx x m
    exact ⟨t, e⟩
  have hmem : ∀ v ∈ its, backV v ∈ xs := fun v hv => by rw [e1]; exact List.mem_map.mpr ⟨_, hv, rfl⟩
  have hp : ∀ v ∈ its, Fst s.heap v (F.v (k (backV v))) := fun v hv => by
    obtain ⟨t, rfl⟩ := e2 v hv
    obtain ⟨t', r', e, ht⟩ := hx _ (hmem _ hv)
    cases e
    obtain ⟨_, its2, r2, o, ho, hc, n, hd⟩ := I.hok _ _ ht
    cases r2 with
    | cons r3 r4 => exact ⟨t, o, _, _, n, rfl, ho, hc, hd, r3, _, rfl⟩
  have hi : ∀ v ∈ its, ∀ u ∈ its, k (backV v) = k (backV u) → v = u := fun v hv u hu e => by
    have q := inj _ (hmem v hv) _ (hmem u hu) e
    obtain ⟨t, rfl⟩ := e2 v hv
    obtain ⟨t', rfl⟩ := e2 u hu
    cases q
    rfl
  refine sorted_ord (fk_swo F fun v => k (backV v)) hl.isList (by rw [← rv.length]; exact hz) (fun h2 h₁ a' ha' kk => ?_) fun out h1 h2 => ?_
  · refine fk_sortable (s := { s with heap := h₁ }) F (by omega) (fun v hm => (hp v hm).keeps fun b o e _ => (kk b o e).2) hi fun o e => ?_
    have e' : some o = some (seqObj "list" its.toArray 0) := e.symm.trans ha'
    cases e'
    intro c
    exact absurd (Value.type.inj c) (by decide)
  · have h3 : ∀ u ∈ out, ∃ a, u = Value.ref a := fun u hu => e2 u (h2.perm.mem_iff.mp hu)
    obtain ⟨ep, he'⟩ := PyProof.Rows.sortedAll_at s.heap its out.toArray
    have hperm : (out.map backV).Perm xs := by
      rw [e1]
      exact h2.perm.map backV
    have hlen : (out.map backV).length ≤ sizeLine := by
      rw [hperm.length_eq]
      exact hz
    exact ⟨.ref _, upd H (s.heap.objs.size + 1) (.lst (out.map backV)), I.laid (t' := s.toks) (fun _ _ => PyProof.Rows.sortedAll_old) (Nat.le_succ _) ⟨hlen, out, ep, vals_back h3, he'⟩, rfl, q _ _ hperm (List.pairwise_map.mpr h1) (I.hok.fresh (Nat.le_succ _))⟩
end
def ltI (x y : Int) : Bool := decide (x < y)
def ltS (x y : Str) : Bool := decide (x.cps.toList < y.cps.toList)
theorem ltI_swo : Swo ltI := by
  refine ⟨fun x y h => ?_, fun x y z h1 h2 => ?_⟩
  · have a := of_decide_eq_true (p := x < y) h
    exact decide_eq_false (p := y < x) (by omega)
  · have a := of_decide_eq_false (p := y < x) h1
    have b := of_decide_eq_false (p := z < y) h2
    exact decide_eq_false (p := z < x) (by omega)
theorem ltS_swo : Swo ltS := by
  refine ⟨fun x y h => ?_, fun x y z h1 h2 => ?_⟩
  · have a := of_decide_eq_true (p := x.cps.toList < y.cps.toList) h
    exact decide_eq_false (p := y.cps.toList < x.cps.toList) (List.lt_asymm a)
  · have a := of_decide_eq_false (p := y.cps.toList < x.cps.toList) h1
    have b := of_decide_eq_false (p := z.cps.toList < y.cps.toList) h2
    exact decide_eq_false (p := z.cps.toList < x.cps.toList) (List.not_lt.mpr (List.le_trans (List.not_lt.mp a) (List.not_lt.mp b)))
def fkI : FK Int where
  v := V.int
  lt := ltI
  T := "int"
  swo := ltI_swo
  ne := fun x y a b ra rb h A s => by
    obtain ⟨t, rfl⟩ := ra
    obtain ⟨t', rfl⟩ := rb
    have e : (x == y) = false := beq_eq_false_iff_ne.mpr h
    have q := SeqAt.EqAt.int_int (A := A) (s := s) x t y t'
    rw [e] at q
    exact q
  one := fun x y a b ra rb prog w A Q E s h => by
    obtain ⟨t, rfl⟩ := ra
    obtain ⟨t', rfl⟩ := rb
    exact oneLt_int h
  ty := fun x a r M h => by
    obtain ⟨t, rfl⟩ := r
    exact PySem.W.Looks.now
  tt := by rfl
  tn := by decide +kernel
def fkS : FK Str where
  v := V.str
  lt := ltS
  T := "str"
  swo := ltS_swo
  ne := fun x y a b ra rb h A s => by
    obtain ⟨t, rfl⟩ := ra
    obtain ⟨t', rfl⟩ := rb
    have e : (x == y) = false := beq_eq_false_iff_ne.mpr h
    have q := SeqAt.EqAt.str_str (A := A) (s := s) x t y t'
    rw [e] at q
    exact q
  one := fun x y a b ra rb prog w A Q E s h => by
    obtain ⟨t, rfl⟩ := ra
    obtain ⟨t', rfl⟩ := rb
    exact oneLt_str h
  ty := fun x a r M h => by
    obtain ⟨t, rfl⟩ := r
    exact PySem.W.Looks.now
  tt := by rfl
  tn := by decide +kernel
end Kp
set_option Elab.async false
set_option linter.all false
set_option maxRecDepth 100000
set_option maxHeartbeats 4000000
/-! panes as data, and how they stand in the heap; what evaluates to what -/
namespace Kp
open PySem PySem.Spec PyProof.Rows L2 Evl

/-! ### the data -/
inductive Deed where
  | say (n : Int) | go (w : Str) | shut | still
def Deed.vs : Deed → List V
  | .say n => [.str "say", .int n]
  | .go w => [.str "go", .str w]
  | .shut => [.str "shut"]
  | .still => [.str "still"]
structure KeyD where
  pa : Addr
  key : Str
  da : Addr
  deed : Deed
/-- a pane with the places of its parts -/
structure LP where
  ad : Addr
  nm : Int
  up : Option Int
  ba : Addr
  l : Int
  t : Int
  w : Int
  h : Int
  turn : Int
  ma : Addr
  marks : List Str
  ka : Addr
  keys : List KeyD
instance : Inhabited LP := ⟨⟨0, 0, none, 0, 0, 0, 0, 0, 0, 0, [], 0, []⟩⟩
def upV : Option Int → V
  | none => .non
  | some m => .int m
structure KeyAt (H : Hp) (q : KeyD) : Prop where
  p : H q.pa = some (.tup [.str q.key, .ref q.da])
  d : H q.da = some (.tup q.deed.vs)
structure LpAt (H : Hp) (q : LP) : Prop where
  a : H q.ad = some (.tup [.int q.nm, upV q.up, .ref q.ba, .int q.turn, .ref q.ma, .ref q.ka])
  b : H q.ba = some (.tup [.int q.l, .int q.t, .int q.w, .int q.h])
  m : H q.ma = some (.tup (q.marks.map V.str))
  k : H q.ka = some (.tup (q.keys.map fun z => V.ref z.pa))
  ks : ∀ z ∈ q.keys, KeyAt H z
structure PlanAt (H : Hp) (a : Addr) (L : List LP) : Prop where
  a : H a = some (.tup (L.map fun q => V.ref q.ad))
  ps : ∀ q ∈ L, LpAt H q
/-- all tuples stand -/
def Tm (H H' : Hp) : Prop := ∀ a xs, H a = some (.tup xs) → H' a = some (.tup xs)
theorem Tm.refl (H : Hp) : Tm H H := fun _ _ h => h
theorem Tm.trans {H H1 H2 : Hp} (a : Tm H H1) (b : Tm H1 H2) : Tm H H2 := fun x o h => b x o (a x o h)
theorem Tm.of {H H' : Hp} (e : Ex H H') : Tm H H' := fun a _ h => e a _ h
theorem KeyAt.tm {H H' : Hp} {q : KeyD} (h : KeyAt H q) (e : Tm H H') : KeyAt H' q := ⟨e _ _ h.p, e _ _ h.d⟩
theorem LpAt.tm {H H' : Hp} {q : LP} (h : LpAt H q) (e : Tm H H') : LpAt H' q := ⟨e _ _ h.a, e _ _ h.b, e _ _ h.m, e _ _ h.k, fun z hz => (h.ks z hz).tm e⟩
theorem PlanAt.tm {H H' : Hp} {a : Addr} {L : List LP} (h : PlanAt H a L) (e : Tm H H') : PlanAt H' a L := ⟨e _ _ h.a, fun q hq => (h.ps q hq).tm e⟩
theorem LpAt.ex {H H' : Hp} {q : LP} (h : LpAt H q) (e : Ex H H') : LpAt H' q := h.tm (.of e)
theorem KeyAt.ex {H H' : Hp} {q : KeyD} (h : KeyAt H q) (e : Ex H H') : KeyAt H' q := h.tm (.of e)
theorem PlanAt.ex {H H' : Hp} {a : Addr} {L : List LP} (h : PlanAt H a L) (e : Ex H H') : PlanAt H' a L := h.tm (.of e)

/-! ### what is good -/
def MARKSL : List Str := ["asleep", "hidden", "hold", "one", "sheet", "stop"]
def WAYSL : List Str := ["above", "back", "below", "in", "left", "next", "out", "right"]
def strLt (x y : Str) : Prop := x.cps.toList < y.cps.toList
instance (x y : Str) : Decidable (strLt x y) := inferInstanceAs (Decidable (x.cps.toList < y.cps.toList))
def SIGNS : Str := "abcdefghijklmnopqrstuvwxyz0123456789"
def GKey (x : Str) : Prop := 1 ≤ x.length ∧ x.length ≤ 8 ∧ ∀ c ∈ x.cps.toList, c ∈ SIGNS.cps.toList
def GDeed : Deed → Prop
  | .say n => -1000000 ≤ n ∧ n ≤ 1000000
  | .go w => w ∈ WAYSL
  | .shut => True
  | .still => True
structure GPane (q : LP) : Prop where
  nm : 0 ≤ q.nm ∧ q.nm ≤ 1000000
  up : ∀ m, q.up = some m → 0 ≤ m ∧ m ≤ 1000000
  l : -1000000 ≤ q.l ∧ q.l ≤ 1000000
  t : -1000000 ≤ q.t ∧ q.t ≤ 1000000
  w : 1 ≤ q.w ∧ q.w ≤ 1000000
  h : 1 ≤ q.h ∧ q.h ≤ 1000000
  turn : -1000000 ≤ q.turn ∧ q.turn ≤ 1000000
  marks : (∀ x ∈ q.marks, x ∈ MARKSL) ∧ q.marks.Pairwise strLt ∧ q.marks.length ≤ 6
  keys : q.keys.length ≤ 20 ∧ (∀ z ∈ q.keys, GKey z.key ∧ GDeed z.deed) ∧ (q.keys.map (·.key)).Pairwise strLt
/-- a good plan; rk tells how deep a name's pane is at most -/
structure GPlan (rk : Int → Nat) (g : LP) (r : List LP) : Prop where
  len : (g :: r).length ≤ 40
  each : ∀ q ∈ g :: r, GPane q
  rise : ((g :: r).map (·.nm)).Pairwise (· < ·)
  g0 : g.nm = 0 ∧ g.up = none ∧ g.l = 0 ∧ g.t = 0 ∧ g.turn = 0 ∧ g.marks = []
  gk : ∀ z ∈ g.keys, z.deed ≠ .shut
  up : ∀ q ∈ r, ∃ m, q.up = some m ∧ m ∈ (g :: r).map (·.nm) ∧ rk m < rk q.nm ∧ (("sheet" : Str) ∈ q.marks → m = 0)
  rk : ∀ n, rk n ≤ 40

/-! ### more of what evaluates to what -/
section
variable {K : PySem.W.Frag} {σ : L2.St} {H H' : Hp} {ta tb tc te tx : TE} {t u : TT} {x y z v w : V} {r r' : R2} {D : Ends} {tz tu : TS}
theorem ix_tupK {X : Cx} {K : PySem.W.Frag} (h : X.K = K) : IxR X (rIxT K) := h ▸ ix_tup
theorem ix_listK {X : Cx} {K : PySem.W.Frag} (h : X.K = K) : IxR X (rIxL K) := h ▸ ix_list
theorem op_in_seqK {X : Cx} {K : PySem.W.Frag} (h : X.K = K) : OpR X (compareOp .In) (rIn K false) := h ▸ op_in_seq
theorem op_notIn_seqK {X : Cx} {K : PySem.W.Frag} (h : X.K = K) : OpR X (compareOp .NotIn) (rIn K true) := h ▸ op_notIn_seq
theorem cr_lenS {X : Cx} : CallR X (.builtin "len") (rLenS X.K) := call_len_seq
theorem cr_listS {X : Cx} : CallR X (.type "list") (rListS X.K) := call_list_of
def rTupS (K : PySem.W.Frag) : List V → Hp → VK → Prop := fun xs H Q => ∃ p ys, xs = [.ref p] ∧ ((SqL K H p ys ∧ ∀ l, H l = none → Q (.ref l) (upd H l (.tup ys))) ∨ (SqT K H p ys ∧ Q (.ref p) H))
theorem cr_tupS {X : Cx} : CallR X (.type "tuple") (rTupS X.K) := call_tuple_of
theorem cr_max2 {X : Cx} (hc : X.calm = true) : CallR X (.builtin "max") rMax2 := call_max2 hc
theorem units65 {k : Nat} {A : Around} (r : Room k A) : A.units + 65 < cLine := by have := r.un; omega
/-- an item of a tuple -/
theorem ev_at {p : Addr} {xs : List V} {i : Int} (ha : Ev ta σ H (.ref p)) (hp : H p = some (.tup xs)) (hi : atI xs i = some v) : Ev (tOp (rIxT K) ta (tC (.int i))) σ H v := ev_op ha ev_c (rv_ixT (st_of hp) hi)
theorem ev_atE {p : Addr} {xs : List V} {i : Int} (ha : Ev ta σ H (.ref p)) (hb : Ev tb σ H (.int i)) (hp : H p = some (.tup xs)) (hi : atI xs i = some v) : Ev (tOp (rIxT K) ta tb) σ H v := ev_op ha hb (rv_ixT (st_of hp) hi)
/-- an item of a new list -/
theorem ev_atNL {xs : List V} {i : Int} (ha : EvL ta σ H xs) (hi : atI xs i = some v) : Ev (tOp (rIxL K) ta (tC (.int i))) σ H v := ev_opL1 ha (fun _ _ => ev_c) fun p H1 hp _ => rv_ixL (sq_of hp) hi
theorem ev_lenT {p : Addr} {xs : List V} (ha : Ev ta σ H (.ref p)) (h : H p = some (.tup xs)) : Ev (tCB (rLenS K) (tCons ta tNil)) σ H (.int (xs.length : Int)) := fun H1 e Q q =>
  ha H1 e _ fun H2 e2 => ⟨p, xs, rfl, Or.inr (ex_t (e.trans e2) (st_of h)), q H2 e2⟩
/-- a call of a built-in upon a new list -/
theorem ev_cbL {r : List V → Hp → VK → Prop} {xs : List V} (ha : EvL ta σ H xs) (hr : ∀ p H1, H1 p = some (.lst xs) → Ex H H1 → RC r [.ref p] H1 z) : Ev (tCB r (tCons ta tNil)) σ H z := fun H1 e Q q =>
  ha H1 e _ fun p H2 hn e2 hp => hr p H2 hp (e.trans e2) H2 (Ex.refl H2) Q fun H3 e3 => q H3 (e2.trans e3)
theorem ev_allNL {bs : List Bool} {b : Bool} (ha : EvL ta σ H (bs.map V.bl)) (hb : bs.all id = b) : Ev (tCB (rAll K) (tCons ta tNil)) σ H (.bl b) := ev_cbL ha fun p H1 hp _ H2 e Q q => ⟨p, bs, rfl, ex_l e (sq_of hp), by rw [hb]; exact q H2 (Ex.refl H2)⟩
theorem ev_sumNL {ns : List Int} (ha : EvL ta σ H (ns.map V.int)) : Ev (tCB (rSum K) (tCons ta tNil)) σ H (.int ns.sum) := ev_cbL ha fun p H1 hp _ H2 e Q q => ⟨p, ns, rfl, ex_l e (sq_of hp), q H2 (Ex.refl H2)⟩
theorem ev_callFL {ps : List V → Hp → V → Prop} {E : XK} {xs : List V} (h : EvL te σ H xs) (hp : ∀ p H1, H1 p = some (.lst xs) → Ex H H1 → ps [.ref p] H1 z) : Ev (tCall (SpF ps) [] E (tCons te tNil)) σ H z := fun H1 e Q q =>
  h H1 e _ fun p H2 hn e2 hl => ⟨z, hp p H2 hl (e.trans e2), fun H3 e3 => q H3 (e2.trans e3)⟩
/-- x is None, x is not None; a truth that is held -/
theorem rv_isN : RV (fun x y H Q => y = .non ∧ Q (.bl (decide (x = .non))) H) x .non H (.bl (decide (x = .non))) := fun H1 _ _ q => ⟨rfl, q H1 (Ex.refl H1)⟩
theorem rv_notN : RV (fun x y H Q => y = .non ∧ Q (.bl (!decide (x = .non))) H) x .non H (.bl (!decide (x = .non))) := fun H1 _ _ q => ⟨rfl, q H1 (Ex.refl H1)⟩
/-- a slice of a tuple, not the whole -/
theorem eu_slT {tl th : TO} {a : Addr} {xs : List V} {lo hi : Option Int} (h : Ev te σ H (.ref a)) (h1 : EvO tl σ H lo) (h2 : EvO th σ H hi) (hs : H a = some (.tup xs)) (hn : ¬ (HT.sIx xs.length 0 lo = 0 ∧ HT.sIx xs.length xs.length hi = xs.length)) :
    EvU (tSl (rSlT K) te tl th) σ H (cutV xs lo hi) := fun H1 e _ q =>
  h H1 e _ fun H2 e2 => h1 H2 (e.trans e2) _ fun H3 e3 => h2 H3 ((e.trans e2).trans e3) _ fun H4 e4 =>
    ⟨a, xs, rfl, ex_t (((e.trans e2).trans e3).trans e4) (st_of hs), hn, fun p hp => q p _ (fresh_back ((e2.trans e3).trans e4) hp) (((e2.trans e3).trans e4).trans (Ex.new hp)) upd_same⟩
/-- list(t), list(new tuple) -/
theorem el_listNU {xs : List V} (ha : EvU ta σ H xs) : EvL (tCB (rListS K) (tCons ta tNil)) σ H xs := fun H1 e Q q =>
  ha H1 e _ fun p H2 hn e2 hp => ⟨p, xs, rfl, Or.inr (st_of hp), fun l hl => q l _ (fresh_back e2 hl) (e2.trans (Ex.new hl)) upd_same⟩
/-- what a comprehension makes: of typed items, those that f keeps -/
def kept {α : Type} (f : α → Bool) (g : α → V) (L : List α) : List V := (L.filter f).map g
theorem kept_snoc {α : Type} {f : α → Bool} {g : α → V} {L : List α} {i : Nat} {x : α} (h : L[i]? = some x) : kept f g (L.take (i + 1)) = if f x = true then kept f g (L.take i) ++ [g x] else kept f g (L.take i) := by
  unfold kept
  rw [List.take_add_one, h, List.filter_append, List.map_append]
  by_cases hf : f x = true
  · rw [if_pos hf]
    simp [hf]
  · rw [if_neg hf]
    simp [hf]
theorem kept_len {α : Type} {f : α → Bool} {g : α → V} {L : List α} (i : Nat) : (kept f g (L.take i)).length ≤ L.length := by
  unfold kept
  rw [List.length_map]
  refine Nat.le_trans (List.length_filter_le _ _) ?_
  rw [List.length_take]
  omega
def Kw {α : Type} (H : Hp) (f : α → Bool) (g : α → V) (L : List α) (Dl : Addr) (i : Nat) (H' : Hp) : Prop := H Dl = none ∧ Ex H H' ∧ H' Dl = some (.lst (kept f g (L.take i)))
theorem kw_turn {α : Type} {f : α → Bool} {g : α → V} {L : List α} {Dl : Addr} {i : Nat} {x : α} {σ2 : L2.St} (p : Kw H f g L Dl i H') (hx : L[i]? = some x) (hL : L.length ≤ 40000) (ht : EvT t σ2 H (f x)) (he : f x = true → Ev te σ2 H (g x)) :
    t σ2 H' fun b H3 => if b = true then te σ2 H3 fun y H4 => ∃ acc, H4 Dl = some (.lst acc) ∧ acc.length < sizeLine ∧ Kw H f g L Dl (i + 1) (upd H4 Dl (.lst (acc ++ [y]))) else Kw H f g L Dl (i + 1) H3 := by
  obtain ⟨p1, p2, p3⟩ := p
  refine ht H' p2 _ fun H3 e3 => ?_
  cases hf : f x with
  | true =>
    show te σ2 H3 fun y H4 => ∃ acc, H4 Dl = some (.lst acc) ∧ acc.length < sizeLine ∧ Kw H f g L Dl (i + 1) (upd H4 Dl (.lst (acc ++ [y])))
    refine he hf H3 (p2.trans e3) _ fun H4 e4 => ⟨_, e4 Dl _ (e3 Dl _ p3), sz_lt (by have := kept_len (f := f) (g := g) (L := L) i; omega), p1, Ex.mut ((p2.trans e3).trans e4) p1, ?_⟩
    rw [kept_snoc hx, if_pos hf]
    exact upd_same
  | false =>
    show Kw H f g L Dl (i + 1) H3
    refine ⟨p1, p2.trans e3, ?_⟩
    rw [kept_snoc hx, if_neg (by rw [hf]; decide)]
    exact e3 Dl _ p3
theorem el_yes {b : Bool} : EvT tYes σ H true := fun H1 _ _ q => q H1 (Ex.refl H1)
/-- [elt for x in t if ..], t a tuple of typed items -/
theorem el_lcT {α : Type} {a : Addr} {L : List α} {enc : α → V} {tl : TE} {j : Nat} {vs : List Nat} (f : α → Bool) (g : α → V) (h : Ev tl σ H (.ref a)) (hx : H a = some (.tup (L.map enc))) (hL : L.length ≤ 40000) (hw : ∀ x, wipe ((wipe σ vs).set j (some x)) vs = wipe σ vs)
    (ht : ∀ (x : α) H1, Ex H H1 → x ∈ L → EvT t ((wipe σ vs).set j (some (enc x))) H1 (f x)) (he : ∀ (x : α) H1, Ex H H1 → x ∈ L → f x = true → Ev te ((wipe σ vs).set j (some (enc x))) H1 (g x)) :
    EvL (tLc (iTup K tl) (gName j) t te vs) σ H (kept f g L) := fun H0 e Q q => h H0 e _ fun H1 e1 => ⟨a, rfl, ⟨_, ex_t (e.trans e1) (st_of hx)⟩, fun Dl hD =>
  lc_tup (xs := L.map enc) (Kw H1 f g L Dl) ⟨hD, Ex.new hD, upd_same⟩ (fun i H' _ p => ex_t ((e.trans e1).trans p.2.1) (st_of hx)) (fun i x H' hi p => ⟨hw x, by
    rw [List.getElem?_map] at hi
    cases hy : L[i]? with
    | none =>
      rw [hy] at hi
      cases hi
    | some y =>
      rw [hy] at hi
      obtain rfl : enc y = x := Option.some.inj hi
      exact kw_turn p hy hL (ht y H1 (e.trans e1) (List.mem_of_getElem? hy)) (he y H1 (e.trans e1) (List.mem_of_getElem? hy))⟩)
    (fun H' p => q Dl H' (fresh_back e1 p.1) (e1.trans p.2.1) (by
      have p3 := p.2.2
      rw [List.length_map, List.take_length] at p3
      exact p3))⟩
/-- over a new tuple -/
theorem el_lcNT {α : Type} {L : List α} {enc : α → V} {tl : TE} {j : Nat} {vs : List Nat} (f : α → Bool) (g : α → V) (h : EvU tl σ H (L.map enc)) (hL : L.length ≤ 40000) (hw : ∀ x, wipe ((wipe σ vs).set j (some x)) vs = wipe σ vs)
    (ht : ∀ (x : α) H1, Ex H H1 → x ∈ L → EvT t ((wipe σ vs).set j (some (enc x))) H1 (f x)) (he : ∀ (x : α) H1, Ex H H1 → x ∈ L → f x = true → Ev te ((wipe σ vs).set j (some (enc x))) H1 (g x)) :
    EvL (tLc (iTup K tl) (gName j) t te vs) σ H (kept f g L) := fun H0 e Q q => h H0 e _ fun a H1 hn e1 hx => ⟨a, rfl, ⟨_, st_of hx⟩, fun Dl hD =>
  lc_tup (xs := L.map enc) (Kw H1 f g L Dl) ⟨hD, Ex.new hD, upd_same⟩ (fun i H' _ p => ex_t p.2.1 (st_of hx)) (fun i x H' hi p => ⟨hw x, by
    rw [List.getElem?_map] at hi
    cases hy : L[i]? with
    | none =>
      rw [hy] at hi
      cases hi
    | some y =>
      rw [hy] at hi
      obtain rfl : enc y = x := Option.some.inj hi
      exact kw_turn p hy hL (ht y H1 (e.trans e1) (List.mem_of_getElem? hy)) (he y H1 (e.trans e1) (List.mem_of_getElem? hy))⟩)
    (fun H' p => q Dl H' (fresh_back e1 p.1) (e1.trans p.2.1) (by
      have p3 := p.2.2
      rw [List.length_map, List.take_length] at p3
      exact p3))⟩
/-- over a list, known or new -/
theorem el_lcLa {α : Type} {a : Addr} {L : List α} {enc : α → V} {tl : TE} {j : Nat} {vs : List Nat} (f : α → Bool) (g : α → V) (h : Ev tl σ H (.ref a)) (hx : H a = some (.lst (L.map enc))) (hL : L.length ≤ 40000) (hw : ∀ x, wipe ((wipe σ vs).set j (some x)) vs = wipe σ vs)
    (ht : ∀ (x : α) H1, Ex H H1 → x ∈ L → EvT t ((wipe σ vs).set j (some (enc x))) H1 (f x)) (he : ∀ (x : α) H1, Ex H H1 → x ∈ L → f x = true → Ev te ((wipe σ vs).set j (some (enc x))) H1 (g x)) :
    EvL (tLc (iList K tl) (gName j) t te vs) σ H (kept f g L) := fun H0 e Q q => h H0 e _ fun H1 e1 => ⟨a, rfl, ⟨_, ex_l (e.trans e1) (sq_of hx)⟩, fun Dl hD =>
  lc_list (xs := L.map enc) (Kw H1 f g L Dl) ⟨hD, Ex.new hD, upd_same⟩ (fun i H' _ p => ex_l ((e.trans e1).trans p.2.1) (sq_of hx)) (fun i x H' hi p => ⟨hw x, by
    rw [List.getElem?_map] at hi
    cases hy : L[i]? with
    | none =>
      rw [hy] at hi
      cases hi
    | some y =>
      rw [hy] at hi
      obtain rfl : enc y = x := Option.some.inj hi
      exact kw_turn p hy hL (ht y H1 (e.trans e1) (List.mem_of_getElem? hy)) (he y H1 (e.trans e1) (List.mem_of_getElem? hy))⟩)
    (fun H' p => q Dl H' (fresh_back e1 p.1) (e1.trans p.2.1) (by
      have p3 := p.2.2
      rw [List.length_map, List.take_length] at p3
      exact p3))⟩
theorem el_lcNLa {α : Type} {L : List α} {enc : α → V} {tl : TE} {j : Nat} {vs : List Nat} (f : α → Bool) (g : α → V) (h : EvL tl σ H (L.map enc)) (hL : L.length ≤ 40000) (hw : ∀ x, wipe ((wipe σ vs).set j (some x)) vs = wipe σ vs)
    (ht : ∀ (x : α) H1, Ex H H1 → x ∈ L → EvT t ((wipe σ vs).set j (some (enc x))) H1 (f x)) (he : ∀ (x : α) H1, Ex H H1 → x ∈ L → f x = true → Ev te ((wipe σ vs).set j (some (enc x))) H1 (g x)) :
    EvL (tLc (iList K tl) (gName j) t te vs) σ H (kept f g L) := fun H0 e Q q => h H0 e _ fun a H1 hn e1 hx => ⟨a, rfl, ⟨_, sq_of hx⟩, fun Dl hD =>
  lc_list (xs := L.map enc) (Kw H1 f g L Dl) ⟨hD, Ex.new hD, upd_same⟩ (fun i H' _ p => ex_l p.2.1 (sq_of hx)) (fun i x H' hi p => ⟨hw x, by
    rw [List.getElem?_map] at hi
    cases hy : L[i]? with
    | none =>
      rw [hy] at hi
      cases hi
    | some y =>
      rw [hy] at hi
      obtain rfl : enc y = x := Option.some.inj hi
      exact kw_turn p hy hL (ht y H1 (e.trans e1) (List.mem_of_getElem? hy)) (he y H1 (e.trans e1) (List.mem_of_getElem? hy))⟩)
    (fun H' p => q Dl H' (fresh_back e1 p.1) (e1.trans p.2.1) (by
      have p3 := p.2.2
      rw [List.length_map, List.take_length] at p3
      exact p3))⟩
theorem kept_all {α : Type} {g : α → V} {L : List α} : kept (fun _ => true) g L = L.map g := by
  unfold kept
  rw [List.filter_eq_self.mpr fun _ _ => rfl]
/-- over a range from 0 -/
theorem el_lcRa {ta : TA} {j : Nat} {vs : List Nat} {n : Int} (f : Nat → Bool) (g : Nat → V) (h : EvA ta σ H [.int n]) (hn : -100000 ≤ n ∧ n ≤ 40000) (hw : ∀ x, wipe ((wipe σ vs).set j (some x)) vs = wipe σ vs)
    (ht : ∀ (i : Nat) H1, Ex H H1 → (i : Int) < n → EvT t ((wipe σ vs).set j (some (.int (i : Int)))) H1 (f i)) (he : ∀ (i : Nat) H1, Ex H H1 → (i : Int) < n → f i = true → Ev te ((wipe σ vs).set j (some (.int (i : Int)))) H1 (g i)) :
    EvL (tLc (iRng1 ta) (gName j) t te vs) σ H (kept f g (List.range n.toNat)) := fun H0 e Q q => h H0 e _ fun H1 e1 => ⟨n, rfl, by omega, by omega, fun Dl hD =>
  lc_range (lo := 0) (n := n.toNat) (Kw H1 f g (List.range n.toNat) Dl) ⟨hD, Ex.new hD, upd_same⟩ (fun i H' hi p => by
    have e0 : (0 : Int) + (i : Int) = (i : Int) := Int.zero_add _
    have hr : (List.range n.toNat)[i]? = some i := by rw [List.getElem?_range hi]
    show wipe ((wipe σ vs).set j (some (.int ((0 : Int) + (i : Int))))) vs = wipe σ vs ∧ t ((wipe σ vs).set j (some (.int ((0 : Int) + (i : Int))))) H' fun b H3 => if b = true then te ((wipe σ vs).set j (some (.int ((0 : Int) + (i : Int))))) H3 fun y H4 => ∃ acc, H4 Dl = some (.lst acc) ∧ acc.length < sizeLine ∧ Kw H1 f g (List.range n.toNat) Dl (i + 1) (upd H4 Dl (.lst (acc ++ [y]))) else Kw H1 f g (List.range n.toNat) Dl (i + 1) H3
    rw [e0]
    exact ⟨hw _, kw_turn p hr (by rw [List.length_range]; omega) (ht i H1 (e.trans e1) (by omega)) (fun hf => he i H1 (e.trans e1) (by omega) hf)⟩) (fun H' p => q Dl H' (fresh_back e1 p.1) (e1.trans p.2.1) (by
      have p3 := p.2.2
      rw [List.take_of_length_le (by rw [List.length_range]; exact Nat.le_refl _)] at p3
      exact p3))⟩
theorem ev_all_true {α : Type} {L : List α} (ha : EvL ta σ H (kept (fun _ => true) (fun _ => V.bl true) L)) : Ev (tCB (rAll K) (tCons ta tNil)) σ H (.bl true) := by
  refine ev_allNL (bs := L.map fun _ => true) ?_ ?_
  · rw [kept_all] at ha
    rw [List.map_map]
    exact ha
  · simp
/-- over a text's signs -/
theorem el_lcS {z0 : Str} {tl : TE} {j : Nat} {vs : List Nat} (f : Nat → Bool) (g : Nat → V) (h : Ev tl σ H (.str z0)) (hL : z0.cps.toList.length ≤ 40000) (hw : ∀ x, wipe ((wipe σ vs).set j (some x)) vs = wipe σ vs)
    (ht : ∀ (c : Nat) H1, Ex H H1 → c ∈ z0.cps.toList → EvT t ((wipe σ vs).set j (some (.str ⟨#[c]⟩))) H1 (f c)) (he : ∀ (c : Nat) H1, Ex H H1 → c ∈ z0.cps.toList → f c = true → Ev te ((wipe σ vs).set j (some (.str ⟨#[c]⟩))) H1 (g c)) :
    EvL (tLc (iStr tl) (gName j) t te vs) σ H (kept f g z0.cps.toList) := fun H0 e Q q => h H0 e _ fun H1 e1 => ⟨z0, rfl, fun Dl hD =>
  lc_it walk_str (Kw H1 f g z0.cps.toList Dl) ⟨hD, Ex.new hD, upd_same⟩ (fun _ _ _ _ => trivial) (fun i x H' H'' hi p y => by
    obtain ⟨rfl, c, hc, rfl⟩ := y
    have hc2 : z0.cps.toList[i]? = some c := by rw [Array.getElem?_toList]; exact hc
    exact ⟨hw _, kw_turn p hc2 hL (ht c H1 (e.trans e1) (List.mem_of_getElem? hc2)) (he c H1 (e.trans e1) (List.mem_of_getElem? hc2))⟩)
    (fun H' p => q Dl H' (fresh_back e1 p.1) (e1.trans p.2.1) (by
      have p3 := p.2.2
      rw [List.take_of_length_le (by rw [Array.length_toList]; exact Nat.le_refl _)] at p3
      exact p3))⟩
theorem rv_sign {c : Nat} {z0 : Str} : RV (fun x y H Q => ∃ (c : Nat) (z : Str), x = .str ⟨#[c]⟩ ∧ y = .str z ∧ Q (.bl (decide (c ∈ z.cps.toList))) H) (.str ⟨#[c]⟩) (.str z0) H (.bl (decide (c ∈ z0.cps.toList))) := fun H1 _ _ q => ⟨c, z0, rfl, rfl, q H1 (Ex.refl H1)⟩
theorem rc_lenStr {z0 : Str} (hz : z0.length ≤ 100000) : RC (fun xs H Q => ∃ z, xs = [.str z] ∧ z.length ≤ sizeLine ∧ Q (.int z.length) H) [.str z0] H (.int z0.length) := fun H1 _ _ q => ⟨z0, rfl, sz_of hz, q H1 (Ex.refl H1)⟩
theorem rv_ltS {i j : Str} : RV (fun x y H Q => ∃ i j, x = .str i ∧ y = .str j ∧ Q (.bl (decide (i.cps.toList < j.cps.toList))) H) (.str i) (.str j) H (.bl (decide (strLt i j))) := fun H1 _ _ q => ⟨i, j, rfl, rfl, q H1 (Ex.refl H1)⟩
theorem rv_eqD {d e : PyData} (hd : ∀ H1, Ex H H1 → Dp K H1 x d) (he : ∀ H1, Ex H H1 → Dp K H1 y e) (sd : SeqAt.shaped d = true) (se : SeqAt.shaped e = true) {b : Bool} (hb : PyData.eqv d e = b) : RV (rEqD K) x y H (.bl b) := fun H1 e1 _ q => ⟨d, e, hd H1 e1, he H1 e1, sd, se, by rw [hb]; exact q H1 (Ex.refl H1)⟩
theorem rv_neD {d e : PyData} (hd : ∀ H1, Ex H H1 → Dp K H1 x d) (he : ∀ H1, Ex H H1 → Dp K H1 y e) (sd : SeqAt.shaped d = true) (se : SeqAt.shaped e = true) {b : Bool} (hb : (!PyData.eqv d e) = b) : RV (rNeD K) x y H (.bl b) := fun H1 e1 _ q => ⟨d, e, hd H1 e1, he H1 e1, sd, se, by rw [hb]; exact q H1 (Ex.refl H1)⟩
theorem rv_neNil {a b : Addr} {xs : List V} (ha : H a = some (.lst xs)) (hb : H b = some (.lst [])) : RV (rNeNil K) (.ref a) (.ref b) H (.bl (!xs.isEmpty)) := fun H1 e _ q => ⟨a, b, xs, rfl, rfl, ex_l e (sq_of ha), ex_l e (sq_of hb), q H1 (Ex.refl H1)⟩
theorem inV_str {a : Str} : ∀ {xs : List Str}, inV (.str a) (xs.map V.str) = decide (a ∈ xs)
  | [] => rfl
  | b :: xs => by
    have ih := inV_str (a := a) (xs := xs)
    unfold inV at ih ⊢
    rw [List.map_cons, List.any_cons, ih]
    show ((b == a) || decide (a ∈ xs)) = decide (a ∈ b :: xs)
    by_cases e : a = b
    · subst e
      simp
    · have e1 : (b == a) = false := beq_eq_false_iff_ne.mpr fun q => e q.symm
      rw [e1]
      simp [e]
theorem inV_int {a : Int} : ∀ {xs : List Int}, inV (.int a) (xs.map V.int) = decide (a ∈ xs)
  | [] => rfl
  | b :: xs => by
    have ih := inV_int (a := a) (xs := xs)
    unfold inV at ih ⊢
    rw [List.map_cons, List.any_cons, ih]
    show ((b == a) || decide (a ∈ xs)) = decide (a ∈ b :: xs)
    by_cases e : a = b
    · subst e
      simp
    · have e1 : (b == a) = false := beq_eq_false_iff_ne.mpr fun q => e q.symm
      rw [e1]
      simp [e]
theorem flat_str (xs : List Str) : (xs.map V.str).all flatV = true := by simp [List.all_map, flatV]
theorem flat_int (xs : List Int) : (xs.map V.int).all flatV = true := by simp [List.all_map, flatV]
/-- a, b, .. = t -/
theorem q_unpack {a : Addr} {xs : List V} {n : Nat} {g : TGs} (h : Ev te σ H (.ref a)) (hx : H a = some (.tup xs)) (hn : xs.length = n) (k : ∀ H1, Ex H H1 → g xs σ H1 (tz D)) : tSeq (tAsg te (gTup K n g)) tz D σ H := h H (Ex.refl H) _ fun H1 e => ⟨a, xs, rfl, ex_t e (st_of hx), hn, k H1 e⟩
def Deed.d : Deed → PyData
  | .say n => .tuple [.str "say", .int n]
  | .go w => .tuple [.str "go", .str w]
  | .shut => .tuple [.str "shut"]
  | .still => .tuple [.str "still"]
theorem deed_dp {a : Addr} {q : Deed} (h : H a = some (.tup q.vs)) : ∀ H1, Ex H H1 → Dp K H1 (.ref a) q.d := fun H1 e => by
  have h1 := e _ _ h
  cases q with
  | say n => exact .tup (st_of h1) (.cons (.str _) (.cons (.int _) .nil))
  | go w => exact .tup (st_of h1) (.cons (.str _) (.cons (.str _) .nil))
  | shut => exact .tup (st_of h1) (.cons (.str _) .nil)
  | still => exact .tup (st_of h1) (.cons (.str _) .nil)
theorem ways_ok : ∀ x ∈ WAYSL, PyData.strOk x = true := by decide +kernel
theorem say_ok : PyData.strOk "say" = true := by decide +kernel
theorem go_ok : PyData.strOk "go" = true := by decide +kernel
theorem shut_ok : PyData.strOk "shut" = true := by decide +kernel
theorem still_ok : PyData.strOk "still" = true := by decide +kernel
theorem deed_shaped {q : Deed} (h : GDeed q) : SeqAt.shaped q.d = true := by
  cases q with
  | say n => simp [SeqAt.shaped, Deed.d, PyData.canLay0, PyData.canLayAll0, PyData.depth, PyData.depthAll, say_ok]
  | go w => simp [SeqAt.shaped, Deed.d, PyData.canLay0, PyData.canLayAll0, PyData.depth, PyData.depthAll, go_ok, ways_ok w h]
  | shut => simp [SeqAt.shaped, Deed.d, PyData.canLay0, PyData.canLayAll0, PyData.depth, PyData.depthAll, shut_ok]
  | still => simp [SeqAt.shaped, Deed.d, PyData.canLay0, PyData.canLayAll0, PyData.depth, PyData.depthAll, still_ok]
theorem shut_shaped : SeqAt.shaped (.tuple [.str "shut"]) = true := deed_shaped (q := .shut) trivial
theorem still_shaped : SeqAt.shaped (.tuple [.str "still"]) = true := deed_shaped (q := .still) trivial
def Deed.isShut : Deed → Bool
  | .shut => true
  | _ => false
def Deed.isStill : Deed → Bool
  | .still => true
  | _ => false
theorem say_shut : (("say" : Str) == "shut") = false := by decide +kernel
theorem go_shut : (("go" : Str) == "shut") = false := by decide +kernel
theorem still_shut : (("still" : Str) == "shut") = false := by decide +kernel
theorem say_still : (("say" : Str) == "still") = false := by decide +kernel
theorem go_still : (("go" : Str) == "still") = false := by decide +kernel
theorem shut_still : (("shut" : Str) == "still") = false := by decide +kernel
theorem deed_shut (q : Deed) : PyData.eqv q.d (.tuple [.str "shut"]) = q.isShut := by
  cases q <;> simp [PyData.eqv, PyData.eqvAll, Deed.d, Deed.isShut, say_shut, go_shut, still_shut]
theorem deed_still (q : Deed) : PyData.eqv q.d (.tuple [.str "still"]) = q.isStill := by
  cases q <;> simp [PyData.eqv, PyData.eqvAll, Deed.d, Deed.isStill, say_still, go_still, shut_still]
theorem el_is {xs ys : List V} (h : EvL te σ H xs) (e : xs = ys) : EvL te σ H ys := e ▸ h
theorem s_never (h : False) : tNever D σ H := h.elim
end
end Kp
set_option Elab.async false
set_option linter.all false
set_option maxRecDepth 100000
set_option maxHeartbeats 4000000
/-! the plain law -/
namespace Kp
open PySem PySem.Spec L2

/-! ### names, lines of ups -/
def names (L : List LP) : List Int := L.map (·.nm)
def byN (L : List LP) (n : Int) : LP := (L.find? fun q => decide (q.nm = n)).getD default
def lineF (L : List LP) : Nat → Int → List Int
  | 0, n => [n]
  | k + 1, n => n :: match (byN L n).up with
    | none => []
    | some m => lineF L k m
def line (L : List LP) (n : Int) : List Int := lineF L 41 n
def GoodR (rk : Int → Nat) (L : List LP) : Prop := ∃ g r, L = g :: r ∧ GPlan rk g r
def Good (L : List LP) : Prop := ∃ rk, GoodR rk L
section
variable {L : List LP} {rk : Int → Nat}
theorem lt_nodup : ∀ {l : List Int}, l.Pairwise (· < ·) → l.Nodup := fun h => h.imp fun h => Int.ne_of_lt h
theorem GoodR.nodup (h : GoodR rk L) : (names L).Nodup := by
  obtain ⟨g, r, rfl, h⟩ := h
  exact lt_nodup h.rise
theorem map_inj : ∀ {L : List LP}, (names L).Nodup → ∀ {p q : LP}, p ∈ L → q ∈ L → p.nm = q.nm → p = q
  | [], _, _, _, hp, _, _ => by simp at hp
  | z :: L, h, p, q, hp, hq, e => by
    obtain ⟨h1, h2⟩ := List.nodup_cons.mp (show (z.nm :: names L).Nodup from h)
    rcases List.mem_cons.mp hp with rfl | hp'
    · rcases List.mem_cons.mp hq with rfl | hq'
      · rfl
      · exact absurd (List.mem_map.mpr ⟨q, hq', e.symm⟩) h1
    · rcases List.mem_cons.mp hq with rfl | hq'
      · exact absurd (List.mem_map.mpr ⟨p, hp', e⟩) h1
      · exact map_inj h2 hp' hq' e
theorem byN_mem {n : Int} (hn : n ∈ names L) : byN L n ∈ L ∧ (byN L n).nm = n := by
  obtain ⟨q, hq, rfl⟩ := List.mem_map.mp hn
  have hs : (L.find? fun z => decide (z.nm = q.nm)).isSome := List.find?_isSome.mpr ⟨q, hq, decide_eq_true rfl⟩
  obtain ⟨x, hx⟩ := Option.isSome_iff_exists.mp hs
  unfold byN
  rw [hx]
  have h2 := List.find?_some hx
  exact ⟨List.mem_of_find?_eq_some hx, of_decide_eq_true h2⟩
theorem byN_of (h : GoodR rk L) {q : LP} (hq : q ∈ L) : byN L q.nm = q := by
  obtain ⟨h1, h2⟩ := byN_mem (List.mem_map.mpr ⟨q, hq, rfl⟩ : q.nm ∈ names L)
  exact map_inj h.nodup h1 hq h2
theorem nm_mem {q : LP} (hq : q ∈ L) : q.nm ∈ names L := List.mem_map.mpr ⟨q, hq, rfl⟩
theorem GoodR.up (h : GoodR rk L) {q : LP} (hq : q ∈ L) {m : Int} (e : q.up = some m) : m ∈ names L ∧ rk m < rk q.nm := by
  obtain ⟨g, r, rfl, h⟩ := h
  rcases List.mem_cons.mp hq with rfl | hq
  · rw [h.g0.2.1] at e
    cases e
  · obtain ⟨m', e', h1, h2, _⟩ := h.up q hq
    rw [e] at e'
    cases e'
    exact ⟨h1, h2⟩
theorem GoodR.upN (h : GoodR rk L) {n : Int} (hn : n ∈ names L) {m : Int} (e : (byN L n).up = some m) : m ∈ names L ∧ rk m < rk n := by
  obtain ⟨h1, h2⟩ := byN_mem hn
  have q := h.up h1 e
  rw [h2] at q
  exact q
theorem lineF_same (h : GoodR rk L) : ∀ (k j : Nat) (n : Int), n ∈ names L → rk n ≤ k → rk n ≤ j → lineF L k n = lineF L j n
  | 0, 0, _, _, _, _ => rfl
  | 0, j + 1, n, hn, h1, h2 => by
    have e : (byN L n).up = none := by
      cases q : (byN L n).up with
      | none => rfl
      | some m => have := (h.upN hn q).2; omega
    unfold lineF
    rw [e]
  | k + 1, 0, n, hn, h1, h2 => by
    have e : (byN L n).up = none := by
      cases q : (byN L n).up with
      | none => rfl
      | some m => have := (h.upN hn q).2; omega
    unfold lineF
    rw [e]
  | k + 1, j + 1, n, hn, h1, h2 => by
    unfold lineF
    cases q : (byN L n).up with
    | none => rfl
    | some m =>
      have z := h.upN hn q
      show n :: lineF L k m = n :: lineF L j m
      rw [lineF_same h k j m z.1 (by omega) (by omega)]
theorem GoodR.rk40 (h : GoodR rk L) (n : Int) : rk n ≤ 40 := by
  obtain ⟨g, r, rfl, h⟩ := h
  exact h.rk n
theorem line_eq (h : GoodR rk L) {n : Int} (hn : n ∈ names L) : line L n = n :: (match (byN L n).up with
    | none => []
    | some m => line L m) := by
  unfold line
  rw [lineF]
  cases q : (byN L n).up with
  | none => rfl
  | some m =>
    have z := h.upN hn q
    have := h.rk40 m
    show n :: lineF L 40 m = n :: lineF L 41 m
    rw [lineF_same h 40 41 m z.1 (by omega) (by omega)]
theorem line_none (h : GoodR rk L) {n : Int} (hn : n ∈ names L) (e : (byN L n).up = none) : line L n = [n] := by
  rw [line_eq h hn, e]
theorem line_some (h : GoodR rk L) {n m : Int} (hn : n ∈ names L) (e : (byN L n).up = some m) : line L n = n :: line L m := by
  rw [line_eq h hn, e]
theorem line_self (h : GoodR rk L) {n : Int} (hn : n ∈ names L) : n ∈ line L n := by
  rw [line_eq h hn]
  exact List.mem_cons_self
theorem line_ind (h : GoodR rk L) {C : Int → Prop} (h0 : ∀ n, n ∈ names L → (byN L n).up = none → C n) (h1 : ∀ n m, n ∈ names L → (byN L n).up = some m → m ∈ names L → C m → C n) : ∀ n, n ∈ names L → C n := by
  have key : ∀ k n, rk n < k → n ∈ names L → C n := by
    intro k
    induction k with
    | zero => intro n hk; omega
    | succ k ih =>
      intro n hk hn
      cases q : (byN L n).up with
      | none => exact h0 n hn q
      | some m =>
        have z := h.upN hn q
        exact h1 n m hn q z.1 (ih m (by omega) z.1)
  exact fun n hn => key (rk n + 1) n (by omega) hn
theorem line_names (h : GoodR rk L) : ∀ n, n ∈ names L → ∀ u ∈ line L n, u ∈ names L := by
  refine line_ind h (fun n hn e u hu => ?_) fun n m hn e hm ih u hu => ?_
  · rw [line_none h hn e] at hu
    rw [List.mem_singleton.mp hu]
    exact hn
  · rw [line_some h hn e] at hu
    rcases List.mem_cons.mp hu with rfl | hu
    · exact hn
    · exact ih u hu
theorem line_sub (h : GoodR rk L) : ∀ n, n ∈ names L → ∀ u ∈ line L n, ∀ v ∈ line L u, v ∈ line L n := by
  refine line_ind h (fun n hn e u hu v hv => ?_) fun n m hn e hm ih u hu v hv => ?_
  · rw [line_none h hn e] at hu
    rw [List.mem_singleton.mp hu] at hv
    exact hv
  · rw [line_some h hn e] at hu
    rcases List.mem_cons.mp hu with rfl | hu
    · exact hv
    · rw [line_some h hn e]
      exact List.mem_cons_of_mem _ (ih u hu v hv)
theorem line_len (L : List LP) (n : Int) : (line L n).length ≤ 42 := by
  have key : ∀ k n, (lineF L k n).length ≤ k + 1 := by
    intro k
    induction k with
    | zero => intro n; exact Nat.le_refl _
    | succ k ih =>
      intro n
      unfold lineF
      rw [List.length_cons]
      cases (byN L n).up with
      | none => show 0 + 1 ≤ k + 1 + 1; omega
      | some m =>
        have := ih m
        show (lineF L k m).length + 1 ≤ k + 1 + 1
        omega
  exact key 41 n
theorem GoodR.zero (h : GoodR rk L) : (0 : Int) ∈ names L ∧ (byN L 0).up = none ∧ (byN L 0).l = 0 ∧ (byN L 0).t = 0 ∧ (byN L 0).marks = [] := by
  have h' := h
  obtain ⟨g, r, rfl, hp⟩ := h
  have hg : g ∈ g :: r := List.mem_cons_self
  have e := byN_of h' hg
  rw [hp.g0.1] at e
  rw [e]
  exact ⟨by rw [← hp.g0.1]; exact nm_mem hg, hp.g0.2.1, hp.g0.2.2.1, hp.g0.2.2.2.1, hp.g0.2.2.2.2.2⟩

/-! ### places, what is at a point -/
def HID : Str := "hidden"
def SHT : Str := "sheet"
def plc (L : List LP) (n : Int) : Int × Int × Int × Int := (((line L n).map fun u => (byN L u).l).sum, ((line L n).map fun u => (byN L u).t).sum, (byN L n).w, (byN L n).h)
def inB (b : Int × Int × Int × Int) (x y : Int) : Bool := (decide (b.1 ≤ x) && decide (x < b.1 + b.2.2.1)) && (decide (b.2.1 ≤ y) && decide (y < b.2.1 + b.2.2.2))
def cond (L : List LP) (n x y : Int) (q : LP) : Bool := decide (q.up = some n) && (!decide (HID ∈ q.marks) && inB (plc L q.nm) x y)
def rkOf (q : LP) : Bool × Int := (decide (SHT ∈ q.marks), q.nm)
def gt2 (p q : Bool × Int) : Bool := if p.1 = q.1 then decide (q.2 < p.2) else p.1 && !q.1
def stepU (c : LP → Bool) (b : Option (Bool × Int)) (q : LP) : Option (Bool × Int) :=
  if c q = true then (match b with
    | none => some (rkOf q)
    | some r => if gt2 (rkOf q) r = true then some (rkOf q) else some r) else b
def upmost (L : List LP) (n x y : Int) : Option Int := (L.foldl (stepU (cond L n x y)) none).map (·.2)
theorem stepU_of {c : LP → Bool} {b : Option (Bool × Int)} {q : LP} {r : Bool × Int} (h : stepU c b q = some r) : b = some r ∨ (c q = true ∧ rkOf q = r) := by
  unfold stepU at h
  by_cases hc : c q = true
  · rw [if_pos hc] at h
    cases b with
    | none => exact .inr ⟨hc, Option.some.inj h⟩
    | some z =>
      by_cases hg : gt2 (rkOf q) z = true
      · have h2 : (if gt2 (rkOf q) z = true then some (rkOf q) else some z) = some r := h
        rw [if_pos hg] at h2
        exact .inr ⟨hc, Option.some.inj h2⟩
      · have h2 : (if gt2 (rkOf q) z = true then some (rkOf q) else some z) = some r := h
        rw [if_neg hg] at h2
        exact .inl h2
  · rw [if_neg hc] at h
    exact .inl h
theorem foldU_of {c : LP → Bool} : ∀ {M : List LP} {b : Option (Bool × Int)} {r : Bool × Int}, M.foldl (stepU c) b = some r → b = some r ∨ ∃ q ∈ M, c q = true ∧ rkOf q = r
  | [], _, _, h => .inl h
  | z :: M, b, r, h => by
    rcases foldU_of (M := M) (show M.foldl (stepU c) (stepU c b z) = some r from h) with h1 | ⟨q, hq, h1⟩
    · rcases stepU_of h1 with h2 | h2
      · exact .inl h2
      · exact .inr ⟨z, List.mem_cons_self, h2⟩
    · exact .inr ⟨q, List.mem_cons_of_mem _ hq, h1⟩
theorem upmost_of {n x y m : Int} (h : upmost L n x y = some m) : ∃ q ∈ L, q.nm = m ∧ q.up = some n ∧ HID ∉ q.marks := by
  unfold upmost at h
  cases e : L.foldl (stepU (cond L n x y)) none with
  | none =>
    rw [e] at h
    cases h
  | some r =>
    rw [e] at h
    have hm : r.2 = m := Option.some.inj h
    rcases foldU_of e with h1 | ⟨q, hq, h1, h2⟩
    · cases h1
    · unfold cond at h1
      simp only [Bool.and_eq_true, decide_eq_true_eq, Bool.not_eq_true', decide_eq_false_iff_not] at h1
      exact ⟨q, hq, by rw [← hm, ← h2]; rfl, h1.1, h1.2.1⟩
theorem foldU_congr {c d : LP → Bool} : ∀ {M : List LP} {b : Option (Bool × Int)}, (∀ q ∈ M, c q = d q) → M.foldl (stepU c) b = M.foldl (stepU d) b
  | [], _, _ => rfl
  | z :: M, b, h => by
    show M.foldl (stepU c) (stepU c b z) = M.foldl (stepU d) (stepU d b z)
    have e : stepU c b z = stepU d b z := by
      unfold stepU
      rw [h z List.mem_cons_self]
    rw [e]
    exact foldU_congr fun q hq => h q (List.mem_cons_of_mem _ hq)
theorem upmost_congr {n x y x' y' : Int} (h : ∀ q ∈ L, inB (plc L q.nm) x y = inB (plc L q.nm) x' y') : upmost L n x y = upmost L n x' y' := by
  unfold upmost
  rw [foldU_congr (d := cond L n x' y') fun q hq => by unfold cond; rw [h q hq]]
def descF (L : List LP) (x y : Int) : Nat → Int → Int
  | 0, n => n
  | k + 1, n => match upmost L n x y with
    | none => n
    | some p => descF L x y k p
def desc (L : List LP) (x y n : Int) : Int := descF L x y 41 n
def found (L : List LP) (x y : Int) : Option Int := if inB (plc L 0) x y = true then some (desc L x y 0) else none
theorem GoodR.most (h : GoodR rk L) {n x y p : Int} (e : upmost L n x y = some p) : p ∈ names L ∧ rk n < rk p ∧ (byN L p).up = some n ∧ HID ∉ (byN L p).marks := by
  obtain ⟨q, hq, rfl, h1, h2⟩ := upmost_of e
  rw [byN_of h hq]
  exact ⟨nm_mem hq, (h.up hq h1).2, h1, h2⟩
theorem descF_same (h : GoodR rk L) {x y : Int} : ∀ (k j : Nat) (n : Int), 41 - rk n ≤ k → 41 - rk n ≤ j → descF L x y k n = descF L x y j n
  | 0, _, n, h1, _ => by have := h.rk40 n; omega
  | k + 1, 0, n, _, h2 => by have := h.rk40 n; omega
  | k + 1, j + 1, n, h1, h2 => by
    unfold descF
    cases q : upmost L n x y with
    | none => rfl
    | some p =>
      have z := (h.most q).2.1
      show descF L x y k p = descF L x y j p
      exact descF_same h k j p (by omega) (by omega)
theorem desc_none {x y n : Int} (e : upmost L n x y = none) : desc L x y n = n := by
  unfold desc descF
  rw [e]
theorem desc_some (h : GoodR rk L) {x y n p : Int} (e : upmost L n x y = some p) : desc L x y n = desc L x y p := by
  unfold desc
  rw [descF, e]
  have z := (h.most e).2.1
  show descF L x y 40 p = descF L x y 41 p
  exact descF_same h 40 41 p (by omega) (by omega)
/-- what is so of a pane, and of the uppermost part of each that it is so of -/
theorem desc_ind (h : GoodR rk L) {x y : Int} {C : Int → Prop} (h1 : ∀ n p, n ∈ names L → C n → upmost L n x y = some p → C p) : ∀ n, n ∈ names L → C n → desc L x y n ∈ names L ∧ C (desc L x y n) := by
  have key : ∀ k n, 41 - rk n < k → n ∈ names L → C n → desc L x y n ∈ names L ∧ C (desc L x y n) := by
    intro k
    induction k with
    | zero => intro n hk; omega
    | succ k ih =>
      intro n hk hn hc
      cases q : upmost L n x y with
      | none =>
        rw [desc_none q]
        exact ⟨hn, hc⟩
      | some p =>
        have z := h.most q
        have := h.rk40 p
        rw [desc_some h q]
        exact ih p (by omega) z.1 (h1 n p hn hc q)
  exact fun n hn hc => key (42 - rk n) n (by have := h.rk40 n; omega) hn hc
def NoHid (L : List LP) (n : Int) : Prop := ∀ u ∈ line L n, HID ∉ (byN L u).marks
theorem found_names (h : GoodR rk L) {x y n : Int} (e : found L x y = some n) : n ∈ names L ∧ NoHid L n := by
  unfold found at e
  by_cases hb : inB (plc L 0) x y = true
  · rw [if_pos hb] at e
    obtain rfl := Option.some.inj e
    refine desc_ind h (C := NoHid L) (fun n p hn hc q => ?_) 0 h.zero.1 fun u hu => ?_
    · obtain ⟨z1, z2, z3, z4⟩ := h.most q
      intro u hu
      rw [line_some h z1 z3] at hu
      rcases List.mem_cons.mp hu with rfl | hu
      · exact z4
      · exact hc u hu
    · rw [line_none h h.zero.1 h.zero.2.1] at hu
      rw [List.mem_singleton.mp hu, h.zero.2.2.2.2]
      simp
  · rw [if_neg hb] at e
    cases e
theorem descF_congr {x y x' y' : Int} (h : ∀ q ∈ L, inB (plc L q.nm) x y = inB (plc L q.nm) x' y') : ∀ k n, descF L x y k n = descF L x' y' k n
  | 0, _ => rfl
  | k + 1, n => by
    unfold descF
    rw [upmost_congr h]
    cases upmost L n x' y' with
    | none => rfl
    | some p => exact descF_congr h k p
theorem found_congr (h0 : (0 : Int) ∈ names L) {x y x' y' : Int} (h : ∀ q ∈ L, inB (plc L q.nm) x y = inB (plc L q.nm) x' y') : found L x y = found L x' y' := by
  unfold found desc
  obtain ⟨h1, h2⟩ := byN_mem h0
  have e := h _ h1
  rw [h2] at e
  rw [e, descF_congr h]
theorem plc0 (h : GoodR rk L) : plc L 0 = (0, 0, (byN L 0).w, (byN L 0).h) := by
  unfold plc
  rw [line_none h h.zero.1 h.zero.2.1]
  simp [h.zero.2.2.1, h.zero.2.2.2.1]
theorem found_in (h : GoodR rk L) {x y : Int} (hx : 0 ≤ x ∧ x < (byN L 0).w) (hy : 0 ≤ y ∧ y < (byN L 0).h) : ∃ n, found L x y = some n := by
  unfold found
  rw [plc0 h]
  have e : inB (0, 0, (byN L 0).w, (byN L 0).h) x y = true := by
    simp [inB]
    omega
  rw [if_pos e]
  exact ⟨_, rfl⟩

/-! ### borders -/
def edC (b : Int × Int × Int × Int) (side : Bool) : Int := if side = true then b.2.1 else b.1
def edD (b : Int × Int × Int × Int) (side : Bool) : Int := if side = true then b.2.2.2 else b.2.2.1
structure IsBord (L : List LP) (side : Bool) (most : Int) (bs : List Int) : Prop where
  rise : bs.Pairwise (· < ·)
  mem : ∀ z, z ∈ bs ↔ z = 0 ∨ z = most ∨ (0 < z ∧ z < most ∧ ∃ q ∈ L, z = edC (plc L q.nm) side ∨ z = edC (plc L q.nm) side + edD (plc L q.nm) side)
theorem rise_uniq : ∀ {xs ys : List Int}, xs.Pairwise (· < ·) → ys.Pairwise (· < ·) → (∀ z, z ∈ xs ↔ z ∈ ys) → xs = ys
  | [], [], _, _, _ => rfl
  | [], y :: ys, _, _, h => absurd ((h y).mpr List.mem_cons_self) (by simp)
  | x :: xs, [], _, _, h => absurd ((h x).mp List.mem_cons_self) (by simp)
  | x :: xs, y :: ys, hx, hy, h => by
    obtain ⟨x1, x2⟩ := List.pairwise_cons.mp hx
    obtain ⟨y1, y2⟩ := List.pairwise_cons.mp hy
    have e : x = y := by
      rcases List.mem_cons.mp ((h x).mp List.mem_cons_self) with e | e
      · exact e
      · rcases List.mem_cons.mp ((h y).mpr List.mem_cons_self) with e' | e'
        · exact e'.symm
        · have a := y1 x e
          have b := x1 y e'
          omega
    subst e
    rw [rise_uniq x2 y2 fun z => ?_]
    constructor
    · intro hz
      rcases List.mem_cons.mp ((h z).mp (List.mem_cons_of_mem _ hz)) with e | e
      · have := x1 z hz; omega
      · exact e
    · intro hz
      rcases List.mem_cons.mp ((h z).mpr (List.mem_cons_of_mem _ hz)) with e | e
      · have := y1 z hz; omega
      · exact e
theorem IsBord.uniq {side : Bool} {most : Int} {xs ys : List Int} (a : IsBord L side most xs) (b : IsBord L side most ys) : xs = ys := rise_uniq a.rise b.rise fun z => by rw [a.mem, b.mem]
def at0 (l : List Int) (i : Nat) : Int := l.getD i 0
theorem at0_get {l : List Int} {i : Nat} (h : i < l.length) : l[i]? = some (at0 l i) := by
  unfold at0
  rw [List.getD_eq_getElem?_getD, List.getElem?_eq_getElem h]
  rfl
theorem at0_mem {l : List Int} {i : Nat} (h : i < l.length) : at0 l i ∈ l := List.mem_of_getElem? (at0_get h)
theorem at0_lt {l : List Int} (hl : l.Pairwise (· < ·)) {i j : Nat} (h : i < j) (hj : j < l.length) : at0 l i < at0 l j := by
  have hi : i < l.length := Nat.lt_trans h hj
  have e1 := at0_get hi
  have e2 := at0_get hj
  rw [List.getElem?_eq_getElem hi] at e1
  rw [List.getElem?_eq_getElem hj] at e2
  rw [← Option.some.inj e1, ← Option.some.inj e2]
  exact List.pairwise_iff_getElem.mp hl i j hi hj h
theorem at0_of {l : List Int} {z : Int} (h : z ∈ l) : ∃ i, i < l.length ∧ at0 l i = z := by
  obtain ⟨i, hi, e⟩ := List.mem_iff_getElem.mp h
  refine ⟨i, hi, ?_⟩
  have e1 := at0_get hi
  rw [List.getElem?_eq_getElem hi] at e1
  rw [← Option.some.inj e1, e]
theorem at0_le {l : List Int} (hl : l.Pairwise (· < ·)) {i j : Nat} (h : i ≤ j) (hj : j < l.length) : at0 l i ≤ at0 l j := by
  rcases Nat.lt_or_ge i j with h1 | h1
  · exact Int.le_of_lt (at0_lt hl h1 hj)
  · have : i = j := by omega
    subst this
    exact Int.le_refl _
section
variable {side : Bool} {most : Int} {A : List Int}
theorem IsBord.ge (a : IsBord L side most A) (hm : 1 ≤ most) {z : Int} (hz : z ∈ A) : 0 ≤ z ∧ z ≤ most := by
  rcases (a.mem z).mp hz with h | h | h
  · omega
  · omega
  · omega
theorem IsBord.len (a : IsBord L side most A) (hm : 1 ≤ most) : 2 ≤ A.length := by
  obtain ⟨i, hi, ei⟩ := at0_of ((a.mem 0).mpr (.inl rfl))
  obtain ⟨j, hj, ej⟩ := at0_of ((a.mem most).mpr (.inr (.inl rfl)))
  have : i ≠ j := fun e => by subst e; omega
  omega
theorem IsBord.first (a : IsBord L side most A) (hm : 1 ≤ most) : at0 A 0 = 0 := by
  have hl := a.len hm
  obtain ⟨i, hi, ei⟩ := at0_of ((a.mem 0).mpr (.inl rfl))
  have h1 := at0_le a.rise (Nat.zero_le i) hi
  have h2 := (a.ge hm (at0_mem (l := A) (i := 0) (by omega))).1
  omega
theorem IsBord.last (a : IsBord L side most A) (hm : 1 ≤ most) : at0 A (A.length - 1) = most := by
  have hl := a.len hm
  obtain ⟨i, hi, ei⟩ := at0_of ((a.mem most).mpr (.inr (.inl rfl)))
  have h1 := at0_le a.rise (show i ≤ A.length - 1 by omega) (by omega)
  have h2 := (a.ge hm (at0_mem (l := A) (i := A.length - 1) (by omega))).2
  omega
/-- in which strip a number lies -/
theorem IsBord.strip (a : IsBord L side most A) (hm : 1 ≤ most) {x : Int} (hx : 0 ≤ x ∧ x < most) : ∃ i, i + 1 < A.length ∧ at0 A i ≤ x ∧ x < at0 A (i + 1) := by
  have key : ∀ k, k < A.length → x < at0 A k → ∃ i, i + 1 < A.length ∧ at0 A i ≤ x ∧ x < at0 A (i + 1) := by
    intro k
    induction k with
    | zero =>
      intro _ h
      rw [a.first hm] at h
      omega
    | succ k ih =>
      intro hk h
      by_cases hc : x < at0 A k
      · exact ih (by omega) hc
      · exact ⟨k, hk, by omega, h⟩
  have hl := a.len hm
  exact key (A.length - 1) (by omega) (by rw [a.last hm]; exact hx.2)
/-- no border lies within a strip -/
theorem IsBord.within (a : IsBord L side most A) (hm : 1 ≤ most) {i : Nat} (hi : i + 1 < A.length) {z : Int} (h1 : at0 A i < z) (h2 : z < at0 A (i + 1)) : z ∉ A := fun hz => by
  obtain ⟨j, hj, ej⟩ := at0_of hz
  rcases Nat.lt_or_ge i j with h | h
  · have := at0_le a.rise (show i + 1 ≤ j by omega) hj
    omega
  · have := at0_le a.rise h (by omega : i < A.length)
    omega
theorem IsBord.same (a : IsBord L side most A) (hm : 1 ≤ most) {i : Nat} (hi : i + 1 < A.length) {x : Int} (h1 : at0 A i ≤ x) (h2 : x < at0 A (i + 1)) {q : LP} (hq : q ∈ L) :
    (decide (edC (plc L q.nm) side ≤ x) && decide (x < edC (plc L q.nm) side + edD (plc L q.nm) side)) = (decide (edC (plc L q.nm) side ≤ at0 A i) && decide (at0 A i < edC (plc L q.nm) side + edD (plc L q.nm) side)) := by
  have r1 := a.ge hm (at0_mem (l := A) (i := i) (by omega))
  have r2 := a.ge hm (at0_mem hi)
  generalize hc : edC (plc L q.nm) side = c
  generalize hd : edD (plc L q.nm) side = d
  have e1 : decide (c ≤ x) = decide (c ≤ at0 A i) := by
    by_cases g : c ≤ at0 A i
    · rw [decide_eq_true g, decide_eq_true (by omega)]
    · rw [decide_eq_false g]
      refine decide_eq_false fun g2 => ?_
      exact a.within hm hi (z := c) (by omega) (by omega) ((a.mem c).mpr (.inr (.inr ⟨by omega, by omega, q, hq, .inl hc.symm⟩)))
  have e2 : decide (x < c + d) = decide (at0 A i < c + d) := by
    by_cases g : x < c + d
    · rw [decide_eq_true g, decide_eq_true (by omega)]
    · rw [decide_eq_false g]
      symm
      refine decide_eq_false fun g2 => ?_
      exact a.within hm hi (z := c + d) g2 (by omega) ((a.mem (c + d)).mpr (.inr (.inr ⟨by omega, by omega, q, hq, .inr (by rw [hc, hd])⟩)))
  rw [e1, e2]
end

/-! ### sums -/
def S (f : Nat → Int) : Nat → Int
  | 0 => 0
  | k + 1 => S f k + f k
theorem S_congr {f g : Nat → Int} : ∀ {k : Nat}, (∀ i, i < k → f i = g i) → S f k = S g k
  | 0, _ => rfl
  | k + 1, h => by
    show S f k + f k = S g k + g k
    rw [S_congr fun i hi => h i (by omega), h k (by omega)]
theorem S_nonneg {f : Nat → Int} : ∀ {k : Nat}, (∀ i, i < k → 0 ≤ f i) → 0 ≤ S f k
  | 0, _ => Int.le_refl _
  | k + 1, h => by
    have a := S_nonneg (f := f) (k := k) fun i hi => h i (by omega)
    have b := h k (by omega)
    show 0 ≤ S f k + f k
    omega
theorem S_ge {f : Nat → Int} : ∀ {k : Nat}, (∀ i, i < k → 0 ≤ f i) → ∀ i, i < k → f i ≤ S f k
  | 0, _, i, hi => by omega
  | k + 1, h, i, hi => by
    show f i ≤ S f k + f k
    have a := S_nonneg (f := f) (k := k) fun i hi => h i (by omega)
    have b := h k (by omega)
    by_cases e : i = k
    · subst e
      omega
    · have := S_ge (f := f) (k := k) (fun i hi => h i (by omega)) i (by omega)
      omega
theorem S_zero {f : Nat → Int} {k : Nat} (h : ∀ i, i < k → f i = 0) : S f k = 0 := by
  rw [S_congr (g := fun _ => 0) h]
  induction k with
  | zero => rfl
  | succ k ih =>
    show S (fun _ => 0) k + 0 = 0
    rw [ih fun i hi => h i (by omega)]
    rfl
theorem S_mul (f : Nat → Int) (e : Int) : ∀ k, S (fun i => f i * e) k = S f k * e
  | 0 => by simp [S]
  | k + 1 => by
    show S (fun i => f i * e) k + f k * e = (S f k + f k) * e
    rw [S_mul f e k, Int.add_mul]
theorem S_tele (a : Nat → Int) : ∀ k, S (fun i => a (i + 1) - a i) k = a k - a 0
  | 0 => by simp [S]
  | k + 1 => by
    show S (fun i => a (i + 1) - a i) k + (a (k + 1) - a k) = a (k + 1) - a 0
    rw [S_tele a k]
    omega
theorem sum_add (l : List Int) (f g : Int → Int) : (l.map fun n => f n + g n).sum = (l.map f).sum + (l.map g).sum := by
  induction l with
  | nil => rfl
  | cons a l ih =>
    simp only [List.map_cons, List.sum_cons, ih]
    omega
theorem sum_S (l : List Int) (f : Int → Nat → Int) : ∀ k, (l.map fun n => S (f n) k).sum = S (fun i => (l.map fun n => f n i).sum) k
  | 0 => by
    show (l.map fun _ => (0 : Int)).sum = 0
    induction l with
    | nil => rfl
    | cons a l ih => simp only [List.map_cons, List.sum_cons, ih]; rfl
  | k + 1 => by
    show (l.map fun n => S (f n) k + f n k).sum = S (fun i => (l.map fun n => f n i).sum) k + (l.map fun n => f n k).sum
    rw [sum_add, sum_S l f k]
theorem sum_pick {l : List Int} {v : Int} {c : Int} (hn : l.Nodup) (hv : v ∈ l) : (l.map fun n => if (some v : Option Int) = some n then c else 0).sum = c := by
  induction l with
  | nil => simp at hv
  | cons a l ih =>
    obtain ⟨h1, h2⟩ := List.nodup_cons.mp hn
    rw [List.map_cons, List.sum_cons]
    by_cases e : v = a
    · subst e
      rw [if_pos rfl]
      have z : (l.map fun n => if (some v : Option Int) = some n then c else 0).sum = 0 := by
        have : (l.map fun n => if (some v : Option Int) = some n then c else 0) = l.map fun _ => (0 : Int) := List.map_congr_left fun n hn => if_neg fun q => h1 (by rw [Option.some.inj q]; exact hn)
        rw [this]
        clear this ih hn hv h1 h2
        induction l with
        | nil => rfl
        | cons a l ih => simp only [List.map_cons, List.sum_cons, ih]; rfl
      omega
    · rw [if_neg fun q => e (Option.some.inj q)]
      rw [ih h2 ((List.mem_cons.mp hv).resolve_left e)]
      omega
def cellA (A D : List Int) (i j : Nat) : Int := (at0 A (i + 1) - at0 A i) * (at0 D (j + 1) - at0 D j)
def cellN (L : List LP) (A D : List Int) (n : Int) (j i : Nat) : Int := if found L (at0 A i) (at0 D j) = some n then cellA A D i j else 0
def areaF (L : List LP) (A D : List Int) (n : Int) : Int := S (fun j => S (cellN L A D n j) (A.length - 1)) (D.length - 1)
section
variable {A D : List Int} {W Hh : Int}
theorem cellA_pos (a : IsBord L false W A) (d : IsBord L true Hh D) {i j : Nat} (hi : i < A.length - 1) (hj : j < D.length - 1) : 0 < cellA A D i j :=
  Int.mul_pos (by have := at0_lt a.rise (show i < i + 1 by omega) (by omega); omega) (by have := at0_lt d.rise (show j < j + 1 by omega) (by omega); omega)
theorem cellN_nonneg (a : IsBord L false W A) (d : IsBord L true Hh D) {n : Int} {i j : Nat} (hi : i < A.length - 1) (hj : j < D.length - 1) : 0 ≤ cellN L A D n j i := by
  unfold cellN
  split
  · exact Int.le_of_lt (cellA_pos a d hi hj)
  · exact Int.le_refl _
theorem areaF_nonneg (a : IsBord L false W A) (d : IsBord L true Hh D) (n : Int) : 0 ≤ areaF L A D n := S_nonneg fun j hj => S_nonneg fun i hi => cellN_nonneg a d hi hj
theorem areas_sum (h : GoodR rk L) (a : IsBord L false (byN L 0).w A) (d : IsBord L true (byN L 0).h D) (hw : 1 ≤ (byN L 0).w) (hh : 1 ≤ (byN L 0).h) : ((names L).map (areaF L A D)).sum = (byN L 0).w * (byN L 0).h := by
  have e1 : ((names L).map (areaF L A D)).sum = S (fun j => S (fun i => cellA A D i j) (A.length - 1)) (D.length - 1) := by
    show ((names L).map fun n => S (fun j => S (cellN L A D n j) (A.length - 1)) (D.length - 1)).sum = _
    rw [sum_S]
    refine S_congr fun j hj => ?_
    show ((names L).map fun n => S (cellN L A D n j) (A.length - 1)).sum = _
    rw [sum_S]
    refine S_congr fun i hi => ?_
    have hx : 0 ≤ at0 A i ∧ at0 A i < (byN L 0).w := ⟨(a.ge hw (at0_mem (by omega))).1, by
      have := at0_lt a.rise (show i < A.length - 1 from hi) (by omega)
      rw [a.last hw] at this
      exact this⟩
    have hy : 0 ≤ at0 D j ∧ at0 D j < (byN L 0).h := ⟨(d.ge hh (at0_mem (by omega))).1, by
      have := at0_lt d.rise (show j < D.length - 1 from hj) (by omega)
      rw [d.last hh] at this
      exact this⟩
    obtain ⟨v, hv⟩ := found_in h hx hy
    show ((names L).map fun n => if found L (at0 A i) (at0 D j) = some n then cellA A D i j else 0).sum = cellA A D i j
    rw [hv]
    exact sum_pick h.nodup (found_names h hv).1
  rw [e1]
  have e2 : (fun j => S (fun i => cellA A D i j) (A.length - 1)) = fun j => (at0 D (j + 1) - at0 D j) * (byN L 0).w := funext fun j => by
    show S (fun i => (at0 A (i + 1) - at0 A i) * (at0 D (j + 1) - at0 D j)) (A.length - 1) = _
    rw [S_mul (fun i => at0 A (i + 1) - at0 A i), S_tele (at0 A), a.last hw, a.first hw, Int.sub_zero, Int.mul_comm]
  rw [e2, S_mul (fun j => at0 D (j + 1) - at0 D j), S_tele (at0 D), d.last hh, d.first hh, Int.sub_zero, Int.mul_comm]
theorem le_sum : ∀ {l : List Int}, (∀ z ∈ l, 0 ≤ z) → ∀ z ∈ l, z ≤ l.sum
  | [], _, z, hz => by simp at hz
  | a :: l, h, z, hz => by
    rw [List.sum_cons]
    have h0 := h a List.mem_cons_self
    have hs : 0 ≤ l.sum := by
      clear hz
      have h' : ∀ z ∈ l, 0 ≤ z := fun z hz => h z (List.mem_cons_of_mem _ hz)
      clear h h0
      induction l with
      | nil => exact Int.le_refl _
      | cons b l ih =>
        rw [List.sum_cons]
        have := h' b List.mem_cons_self
        have := ih fun z hz => h' z (List.mem_cons_of_mem _ hz)
        omega
    rcases List.mem_cons.mp hz with rfl | hz
    · omega
    · have := le_sum (fun z hz => h z (List.mem_cons_of_mem _ hz)) z hz
      omega
/-- at a point there is a pane, of some area -/
theorem area_at (h : GoodR rk L) (a : IsBord L false (byN L 0).w A) (d : IsBord L true (byN L 0).h D) (hw : 1 ≤ (byN L 0).w) (hh : 1 ≤ (byN L 0).h) {x y : Int} (hx : 0 ≤ x ∧ x < (byN L 0).w) (hy : 0 ≤ y ∧ y < (byN L 0).h) :
    ∃ n, found L x y = some n ∧ n ∈ names L ∧ 1 ≤ areaF L A D n := by
  obtain ⟨n, hn⟩ := found_in h hx hy
  obtain ⟨i, hi, i1, i2⟩ := a.strip hw hx
  obtain ⟨j, hj, j1, j2⟩ := d.strip hh hy
  have e : found L x y = found L (at0 A i) (at0 D j) := found_congr h.zero.1 fun q hq => by
    have s1 := a.same hw hi i1 i2 hq
    have s2 := d.same hh hj j1 j2 hq
    unfold inB
    have s1' : (decide ((plc L q.nm).1 ≤ x) && decide (x < (plc L q.nm).1 + (plc L q.nm).2.2.1)) = (decide ((plc L q.nm).1 ≤ at0 A i) && decide (at0 A i < (plc L q.nm).1 + (plc L q.nm).2.2.1)) := s1
    have s2' : (decide ((plc L q.nm).2.1 ≤ y) && decide (y < (plc L q.nm).2.1 + (plc L q.nm).2.2.2)) = (decide ((plc L q.nm).2.1 ≤ at0 D j) && decide (at0 D j < (plc L q.nm).2.1 + (plc L q.nm).2.2.2)) := s2
    rw [s1', s2']
  refine ⟨n, hn, (found_names h hn).1, ?_⟩
  have c1 := cellA_pos a d (show i < A.length - 1 by omega) (show j < D.length - 1 by omega)
  have c2 : cellN L A D n j i = cellA A D i j := by
    unfold cellN
    rw [← e, hn, if_pos rfl]
  have c3 : cellN L A D n j i ≤ S (cellN L A D n j) (A.length - 1) := S_ge (fun i hi => cellN_nonneg a d hi (by omega)) i (by omega)
  have c4 : S (cellN L A D n j) (A.length - 1) ≤ areaF L A D n := S_ge (f := fun j => S (cellN L A D n j) (A.length - 1)) (fun j hj => S_nonneg fun i hi => cellN_nonneg a d hi hj) j (by omega)
  omega
/-- what is hidden has no area -/
theorem area_hid (h : GoodR rk L) {n u : Int} (hu : u ∈ line L n) (hh : HID ∈ (byN L u).marks) : areaF L A D n = 0 := by
  refine S_zero fun j hj => S_zero fun i hi => ?_
  unfold cellN
  rw [if_neg]
  intro e
  exact (found_names h e).2 u hu hh
end
end
end Kp
set_option Elab.async false
set_option linter.all false
set_option maxRecDepth 100000
set_option maxHeartbeats 4000000
/-! dicts, pairs, walks with several names: what evaluates to what -/
namespace Kp
open PySem PySem.Spec PyProof.Rows L2 Evl
def Pl (H : Hp) (a : Addr) (L : List LP) : Prop := PlanAt H a L ∧ Good L
theorem Pl.tm {H H' : Hp} {a : Addr} {L : List LP} (h : Pl H a L) (e : Tm H H') : Pl H' a L := ⟨h.1.tm e, h.2⟩
theorem Pl.ex {H H' : Hp} {a : Addr} {L : List LP} (h : Pl H a L) (e : Ex H H') : Pl H' a L := ⟨h.1.ex e, h.2⟩
theorem Good.len {L : List LP} (h : Good L) : L.length ≤ 40 := by
  obtain ⟨rk, g, r, rfl, h⟩ := h
  exact h.len
theorem Pl.len {H : Hp} {a : Addr} {L : List LP} (h : Pl H a L) : L.length ≤ 40000 := by
  have := h.2.len
  omega
theorem Pl.byN {H : Hp} {a : Addr} {L : List LP} (h : Pl H a L) {n : Int} (hn : n ∈ names L) : LpAt H (byN L n) := h.1.ps _ (byN_mem hn).1
def hasK (kvs : List (Key × V)) (n : Int) : Bool := (valV kvs (Sum.inl n)).isSome
theorem hasK_put {kvs : List (Key × V)} {k n : Int} {v : V} : hasK (putK kvs (Sum.inl k) v) n = (decide (n = k) || hasK kvs n) := by
  unfold hasK
  rw [valV_put]
  by_cases e : n = k
  · subst e
    simp
  · rw [if_neg fun q => e (Sum.inl.inj q)]
    simp [e]
theorem put_len {κ : Type} [DecidableEq κ] (c : List (κ × V)) (k : κ) (x : V) : (putK c k x).length ≤ c.length + 1 := by
  unfold putK
  split
  · rw [List.length_map]
    omega
  · rw [List.length_append]
    exact Nat.le_refl _
section
variable {K : PySem.W.Frag} {σ : L2.St} {H H' : Hp} {ta tb tc te tx td ty tv : TE} {t u : TT} {x y z v w : V} {r r' : R2} {D : Ends} {tz tu : TS}
theorem ev_dget {a : Addr} {n : Int} {kvs : List (Key × V)} (hd : Ev td σ H (.ref a)) (hk : Ev ty σ H (.int n)) (h : H a = some (.dK kvs)) (hv : valV kvs (Sum.inl n) = some v) : Ev (tDGet td ty) σ H v := fun H1 e Q q =>
  hd H1 e _ fun H2 e2 => hk H2 (e.trans e2) _ fun H3 e3 => ⟨a, v, rfl, by
    rw [← hv]
    exact DGet.k (k := Sum.inl n) (e3 _ _ (e2 _ _ (e _ _ h))), q H3 (e2.trans e3)⟩
theorem et_din {a : Addr} {n : Int} {kvs : List (Key × V)} (hk : Ev ty σ H (.int n)) (hd : Ev td σ H (.ref a)) (h : H a = some (.dK kvs)) : EvT (tB (tDIn ty td)) σ H (hasK kvs n) := fun H1 e Q q =>
  hk H1 e _ fun H2 e2 => hd H2 (e.trans e2) _ fun H3 e3 => ⟨a, _, rfl, DGet.k (k := Sum.inl n) (e3 _ _ (e2 _ _ (e _ _ h))), _, rfl, q H3 (e2.trans e3)⟩
theorem et_dnotin {a : Addr} {n : Int} {kvs : List (Key × V)} (hk : Ev ty σ H (.int n)) (hd : Ev td σ H (.ref a)) (h : H a = some (.dK kvs)) : EvT (tB (tDNotIn ty td)) σ H (!hasK kvs n) := fun H1 e Q q =>
  hk H1 e _ fun H2 e2 => hd H2 (e.trans e2) _ fun H3 e3 => ⟨a, _, rfl, DGet.k (k := Sum.inl n) (e3 _ _ (e2 _ _ (e _ _ h))), _, rfl, q H3 (e2.trans e3)⟩
theorem s_dput {a : Addr} {n : Int} {kvs : List (Key × V)} (hv : Ev tv σ H v) (hd : Ev td σ H (.ref a)) (hk : Ev ty σ H (.int n)) (h : H a = some (.dK kvs)) (hl : kvs.length < 100000) (k : ∀ H1, Ex H H1 → D.nx σ (upd H1 a (.dK (putK kvs (Sum.inl n) v)))) : sDPut td ty tv D σ H :=
  hv H (Ex.refl H) _ fun H2 e2 => hd H2 e2 _ fun H3 e3 => hk H3 (e2.trans e3) _ fun H4 e4 => ⟨a, _, rfl, DPut.k (k := Sum.inl n) (e4 _ _ (e3 _ _ (e2 _ _ h))) (sz_lt hl), k H4 ((e2.trans e3).trans e4)⟩
theorem q_dput {a : Addr} {n : Int} {kvs : List (Key × V)} (hv : Ev tv σ H v) (hd : Ev td σ H (.ref a)) (hk : Ev ty σ H (.int n)) (h : H a = some (.dK kvs)) (hl : kvs.length < 100000) (k : ∀ H1, Ex H H1 → tz D σ (upd H1 a (.dK (putK kvs (Sum.inl n) v)))) : tSeq (sDPut td ty tv) tz D σ H :=
  s_dput (D := { D with nx := tz D }) hv hd hk h hl k
theorem q_asgD {i : Nat} {xs : List (Key × V)} (h : EvD te σ H xs) (k : ∀ p H1, H p = none → Ex H H1 → H1 p = some (.dK xs) → tz D (σ.set i (some (.ref p))) H1) : tSeq (tAsg te (gName i)) tz D σ H := h H (Ex.refl H) _ fun p H1 hp e h1 => k p H1 hp e h1
theorem s_retD {xs : List (Key × V)} (h : EvD te σ H xs) (k : ∀ p H1, H p = none → Ex H H1 → H1 p = some (.dK xs) → D.rt (.ref p) H1) : tRet te D σ H := h H (Ex.refl H) _ k
theorem ed_disp1 {k : Int} {tk tw : TE} (hk : Ev tk σ H (.int k)) (hv : Ev tw σ H v) : EvD (tDisp [(tk, tw)]) σ H [(Sum.inl k, v)] := fun H1 e Q q p hp =>
  hk _ (e.trans (Ex.new hp)) _ fun H2 e2 => hv H2 ((e.trans (Ex.new hp)).trans e2) _ fun H3 e3 => ⟨e3 _ _ (e2 _ _ upd_same), [(Sum.inl k, v)], rfl, (by show 1 ≤ 15; decide), q p _ hp (Ex.mut ((Ex.new hp).trans (e2.trans e3)) hp) upd_same⟩
theorem ed_disp2 {k k' : Int} {v' : V} {tk tw tk' tw' : TE} (hk : Ev tk σ H (.int k)) (hv : Ev tw σ H v) (hk' : Ev tk' σ H (.int k')) (hv' : Ev tw' σ H v') : EvD (tDisp [(tk, tw), (tk', tw')]) σ H (mergeK [] [(Sum.inl k, v), (Sum.inl k', v')]) := fun H1 e Q q p hp =>
  hk _ (e.trans (Ex.new hp)) _ fun H2 e2 => hv H2 ((e.trans (Ex.new hp)).trans e2) _ fun H3 e3 => hk' H3 (((e.trans (Ex.new hp)).trans e2).trans e3) _ fun H4 e4 => hv' H4 ((((e.trans (Ex.new hp)).trans e2).trans e3).trans e4) _ fun H5 e5 =>
    ⟨e5 _ _ (e4 _ _ (e3 _ _ (e2 _ _ upd_same))), [(Sum.inl k, v), (Sum.inl k', v')], rfl, (by show 2 ≤ 15; decide), q p _ hp (Ex.mut ((Ex.new hp).trans (((e2.trans e3).trans e4).trans e5)) hp) upd_same⟩
/-- the first operand a new tuple, the second a new list -/
theorem ev_opUL {xs ys : List V} (ha : EvU ta σ H xs) (hb : EvL tb σ H ys) (hr : ∀ p q H1, H1 p = some (.tup xs) → H1 q = some (.lst ys) → Ex H H1 → RV r (.ref p) (.ref q) H1 z) : Ev (tOp r ta tb) σ H z := fun H1 e Q k =>
  ha H1 e _ fun p H2 _ e2 hp => hb H2 (e.trans e2) _ fun q H3 _ e3 hq => hr p q H3 (e3 p _ hp) hq ((e.trans e2).trans e3) H3 (Ex.refl H3) Q fun H4 e4 => k H4 ((e2.trans e3).trans e4)
/-- a for over a new tuple -/
theorem q_forNT {g : TG} {xs : List V} {tl : TE} (h : EvU tl σ H xs) (Pv : Addr → Nat → L2.St → Hp → Prop) (h0 : ∀ p H1, H p = none → Ex H H1 → H1 p = some (.tup xs) → Pv p 0 σ H1) (hl : ∀ p i σ' H', i ≤ xs.length → Pv p i σ' H' → SqT K H' p xs)
    (hs : ∀ p i x σ' H', xs[i]? = some x → Pv p i σ' H' → g x σ' H' fun σ2 H2 => tu { D with nx := Pv p (i + 1), ct := Pv p (i + 1), bk := tz D } σ2 H2) (hd : ∀ p σ' H', Pv p xs.length σ' H' → tz D σ' H') : tSeq (tFor (iTup K tl) g tu) tz D σ H :=
  h H (Ex.refl H) _ fun p H1 hp e h1 => ⟨p, rfl, ⟨xs, st_of h1⟩, for_tup (Pv p) (h0 p H1 hp e h1) (hl p) (hs p) (hd p)⟩
/-- a comprehension over a tuple whose target is any -/
theorem el_lcTg {α : Type} {a : Addr} {L : List α} {enc : α → V} {tl : TE} {g : TG} {vs : List Nat} (f : α → Bool) (gv : α → V) (sf : α → L2.St) (h : Ev tl σ H (.ref a)) (hx : H a = some (.tup (L.map enc))) (hL : L.length ≤ 40000)
    (hg : ∀ (x : α) H1, Ex H H1 → x ∈ L → ∀ Q : L2.St → Hp → Prop, (∀ H2, Ex H1 H2 → Q (sf x) H2) → g (enc x) (wipe σ vs) H1 Q) (hw : ∀ x, wipe (sf x) vs = wipe σ vs)
    (ht : ∀ (x : α) H1, Ex H H1 → x ∈ L → EvT t (sf x) H1 (f x)) (he : ∀ (x : α) H1, Ex H H1 → x ∈ L → f x = true → Ev te (sf x) H1 (gv x)) :
    EvL (tLc (iTup K tl) g t te vs) σ H (kept f gv L) := fun H0 e Q q => h H0 e _ fun H1 e1 => ⟨a, rfl, ⟨_, ex_t (e.trans e1) (st_of hx)⟩, fun Dl hD =>
  lc_tup (xs := L.map enc) (Kw H1 f gv L Dl) ⟨hD, Ex.new hD, upd_same⟩ (fun i H' _ p => ex_t ((e.trans e1).trans p.2.1) (st_of hx)) (fun i x H' hi p => by
    rw [List.getElem?_map] at hi
    cases hy : L[i]? with
    | none =>
      rw [hy] at hi
      cases hi
    | some y =>
      rw [hy] at hi
      obtain rfl : enc y = x := Option.some.inj hi
      have hm := List.mem_of_getElem? hy
      refine hg y H' ((e.trans e1).trans p.2.1) hm _ fun H2 e2 => ⟨hw y, kw_turn ⟨p.1, p.2.1.trans e2, e2 _ _ p.2.2⟩ hy hL (ht y H1 (e.trans e1) hm) (he y H1 (e.trans e1) hm)⟩)
    (fun H' p => q Dl H' (fresh_back e1 p.1) (e1.trans p.2.1) (by
      have p3 := p.2.2
      rw [List.length_map, List.take_length] at p3
      exact p3))⟩

/-! ### lists of new pairs -/
def PairsAt (H : Hp) (ps : List Addr) (kvs : List (V × V)) : Prop := Paired (fun a kv => H a = some (.tup [kv.1, kv.2])) ps kvs
theorem PairsAt.tm {H H' : Hp} (e : Tm H H') : ∀ {ps : List Addr} {kvs : List (V × V)}, PairsAt H ps kvs → PairsAt H' ps kvs
  | _, _, .nil => .nil
  | _, _, .cons r t => .cons (e _ _ r) (PairsAt.tm e t)
theorem PairsAt.snoc {H : Hp} {p : Addr} {kv : V × V} (hp : H p = some (.tup [kv.1, kv.2])) : ∀ {ps : List Addr} {kvs : List (V × V)}, PairsAt H ps kvs → PairsAt H (ps ++ [p]) (kvs ++ [kv])
  | _, _, .nil => .cons hp .nil
  | _, _, .cons r t => .cons r (PairsAt.snoc hp t)
theorem PairsAt.len {H : Hp} : ∀ {ps : List Addr} {kvs : List (V × V)}, PairsAt H ps kvs → ps.length = kvs.length
  | _, _, .nil => rfl
  | _, _, .cons _ t => congrArg Nat.succ (PairsAt.len t)
def EvP (te : TE) (σ : L2.St) (H : Hp) (kvs : List (V × V)) : Prop := ∀ H1, Ex H H1 → ∀ Q : VK, (∀ p ps H2, H1 p = none → Ex H1 H2 → H2 p = some (.lst (ps.map V.ref)) → PairsAt H2 ps kvs → Q (.ref p) H2) → te σ H1 Q
def Kv {α : Type} (H : Hp) (kv : α → V × V) (L : List α) (Dl : Addr) (i : Nat) (H' : Hp) : Prop := H Dl = none ∧ Ex H H' ∧ ∃ ps, H' Dl = some (.lst (ps.map V.ref)) ∧ PairsAt H' ps ((L.take i).map kv)
theorem kv_turn {α : Type} {kv : α → V × V} {L : List α} {Dl : Addr} {i : Nat} {x0 : α} {σ2 : L2.St} (p : Kv H kv L Dl i H') (hx : L[i]? = some x0) (hL : L.length ≤ 40000) (he : EvU te σ2 H [(kv x0).1, (kv x0).2]) :
    tYes σ2 H' fun b H3 => if b = true then te σ2 H3 fun y H4 => ∃ acc, H4 Dl = some (.lst acc) ∧ acc.length < sizeLine ∧ Kv H kv L Dl (i + 1) (upd H4 Dl (.lst (acc ++ [y]))) else Kv H kv L Dl (i + 1) H3 := by
  obtain ⟨p1, p2, ps, p3, p4⟩ := p
  show te σ2 H' fun y H4 => ∃ acc, H4 Dl = some (.lst acc) ∧ acc.length < sizeLine ∧ Kv H kv L Dl (i + 1) (upd H4 Dl (.lst (acc ++ [y])))
  refine he H' p2 _ fun b H4 hb e4 hb4 => ?_
  have l1 := p4.len
  rw [List.length_map, List.length_take] at l1
  refine ⟨_, e4 _ _ p3, sz_lt (by rw [List.length_map]; omega), p1, Ex.mut (p2.trans e4) p1, ps ++ [b], ?_, ?_⟩
  · rw [upd_same, List.map_append]
    rfl
  · have tm : Tm H4 (upd H4 Dl (.lst (ps.map V.ref ++ [.ref b]))) := fun c xs hc => by
      rw [upd_ne (ne_of hc (e4 _ _ p3) (by intro z; cases z))]
      exact hc
    rw [List.take_add_one, hx, List.map_append]
    exact PairsAt.snoc (tm _ _ hb4) ((p4.tm (.of e4)).tm tm)
/-- [(k, v) for x in t] -/
theorem ep_lcT {α : Type} {a : Addr} {L : List α} {enc : α → V} {tl : TE} {j : Nat} {vs : List Nat} (kv : α → V × V) (h : Ev tl σ H (.ref a)) (hx : H a = some (.tup (L.map enc))) (hL : L.length ≤ 40000) (hw : ∀ x, wipe ((wipe σ vs).set j (some x)) vs = wipe σ vs)
    (he : ∀ (x : α) H1, Ex H H1 → x ∈ L → EvU te ((wipe σ vs).set j (some (enc x))) H1 [(kv x).1, (kv x).2]) :
    EvP (tLc (iTup K tl) (gName j) tYes te vs) σ H (L.map kv) := fun H0 e Q q => h H0 e _ fun H1 e1 => ⟨a, rfl, ⟨_, ex_t (e.trans e1) (st_of hx)⟩, fun Dl hD =>
  lc_tup (xs := L.map enc) (Kv H1 kv L Dl) ⟨hD, Ex.new hD, [], upd_same, .nil⟩ (fun i H' _ p => ex_t ((e.trans e1).trans p.2.1) (st_of hx)) (fun i x H' hi p => ⟨hw x, by
    rw [List.getElem?_map] at hi
    cases hy : L[i]? with
    | none =>
      rw [hy] at hi
      cases hi
    | some y =>
      rw [hy] at hi
      obtain rfl : enc y = x := Option.some.inj hi
      exact kv_turn p hy hL (he y H1 (e.trans e1) (List.mem_of_getElem? hy))⟩)
    (fun H' ⟨p1, p2, ps, p3, p4⟩ => q Dl ps H' (fresh_back e1 p1) (e1.trans p2) p3 (by
      rw [List.length_map, List.take_length] at p4
      exact p4))⟩
theorem paired_key {H : Hp} : ∀ {ps : List Addr} {kvs : List (Key × V)}, PairsAt H ps (kvs.map fun kv => (kV kv.1, kv.2)) → Paired (fun p kv => SqT K H p [kV kv.1, kv.2]) ps kvs
  | [], [], _ => .nil
  | p :: ps, kv :: kvs, h => by
    cases h with
    | cons r t => exact .cons (st_of r) (paired_key t)
  | [], _ :: _, h => by cases h
  | _ :: _, [], h => by cases h
/-- dict(list of pairs) -/
theorem ed_dictP {kvs : List (Key × V)} (h : EvP te σ H (kvs.map fun kv => (kV kv.1, kv.2))) :
    EvD (tCB (fun xs H Q => ∃ (a : Addr) (ps : List Addr) (kvs : List (Key × V)), xs = [.ref a] ∧ SqL K H a (ps.map V.ref) ∧ Paired (fun p kv => SqT K H p [kV kv.1, kv.2]) ps kvs ∧ ∀ p, H p = none → Q (.ref p) (upd H p (.dK (mergeK [] kvs)))) (tCons te tNil)) σ H (mergeK [] kvs) := fun H1 e Q q =>
  h H1 e _ fun p ps H2 hn e2 hp hq => ⟨p, ps, kvs, rfl, sq_of hp, paired_key hq, fun d hd => q d _ (fresh_back e2 hd) (e2.trans (Ex.new hd)) upd_same⟩
theorem ed_is {xs ys : List (Key × V)} (h : EvD te σ H xs) (e : xs = ys) : EvD te σ H ys := e ▸ h
theorem ep_is {xs ys : List (V × V)} (h : EvP te σ H xs) (e : xs = ys) : EvP te σ H ys := e ▸ h
theorem mergeK_app : ∀ (more acc : List (Key × V)), ((acc ++ more).map (·.1)).Nodup → mergeK acc more = acc ++ more
  | [], acc, _ => by rw [List.append_nil]; rfl
  | kv :: more, acc, h => by
    have hn : valV acc kv.1 = none := by
      cases q : valV acc kv.1 with
      | none => rfl
      | some v =>
        have hm := valV_in q
        rw [List.map_append, List.map_cons] at h
        have := (List.nodup_append.mp h).2.2 _ hm _ List.mem_cons_self
        exact absurd rfl this
    show mergeK (putK acc kv.1 kv.2) more = acc ++ kv :: more
    rw [putK_new kv.2 hn, mergeK_app more (acc ++ [(kv.1, kv.2)]) (by rw [List.append_assoc]; exact h), List.append_assoc]
    rfl
theorem mergeK_nd {kvs : List (Key × V)} (h : (kvs.map (·.1)).Nodup) : mergeK [] kvs = kvs := mergeK_app kvs [] h
/-- a table over the names of a plan -/
def tab (L : List LP) (f : LP → V) : List (Key × V) := L.map fun q => (Sum.inl q.nm, f q)
theorem tab_nd {L : List LP} (h : (names L).Nodup) (f : LP → V) : ((tab L f).map (·.1)).Nodup := by
  unfold tab
  rw [List.map_map]
  have e : (L.map ((fun x : Key × V => x.1) ∘ fun q => ((Sum.inl q.nm : Key), f q))) = (names L).map (Sum.inl : Int → Key) := by
    unfold names
    rw [List.map_map]
    rfl
  rw [e]
  exact List.Pairwise.map _ (fun a b hab q => hab (Sum.inl.inj q)) h
theorem tab_val {L : List LP} (h : (names L).Nodup) (f : LP → V) {n : Int} (hn : n ∈ names L) : valV (tab L f) (Sum.inl n) = some (f (byN L n)) := by
  unfold tab valV
  rw [List.find?_map]
  have e : ((fun kv : Key × V => decide (kv.1 = Sum.inl n)) ∘ fun q : LP => ((Sum.inl q.nm : Key), f q)) = fun q => decide (q.nm = n) := by
    funext q
    show decide ((Sum.inl q.nm : Key) = Sum.inl n) = decide (q.nm = n)
    by_cases z : q.nm = n
    · rw [z]
      simp
    · simp [z]
  rw [e]
  obtain ⟨q, hq, hqn⟩ := List.mem_map.mp hn
  have hs : (L.find? fun z => decide (z.nm = n)).isSome := List.find?_isSome.mpr ⟨q, hq, decide_eq_true hqn⟩
  obtain ⟨x, hx⟩ := Option.isSome_iff_exists.mp hs
  unfold byN
  rw [hx]
  rfl
theorem tab_put {L : List LP} (h : (names L).Nodup) (f : LP → V) {n : Int} (hn : n ∈ names L) (v : V) : putK (tab L f) (Sum.inl n) v = tab L fun q => if q.nm = n then v else f q := by
  unfold putK
  have hs : ((tab L f).any fun kv => decide (kv.1 = Sum.inl n)) = true := by
    rw [valV_any, tab_val h f hn]
    rfl
  rw [if_pos hs]
  unfold tab
  rw [List.map_map]
  refine List.map_congr_left fun q _ => ?_
  show (if (Sum.inl q.nm : Key) = Sum.inl n then ((Sum.inl q.nm : Key), v) else ((Sum.inl q.nm : Key), f q)) = (Sum.inl q.nm, if q.nm = n then v else f q)
  by_cases z : q.nm = n
  · rw [if_pos (by rw [z]), if_pos z]
  · rw [if_neg fun e => z (Sum.inl.inj e), if_neg z]
theorem cut1 {x0 : V} {xs : List V} : cutV (x0 :: xs) (some 1) none = xs := by
  unfold cutV
  have e : HT.sIx (x0 :: xs).length 0 (some 1) = 1 := by
    have q := HT.sIx_nat (x0 :: xs).length 0 1
    rw [show ((1 : Nat) : Int) = 1 from rfl] at q
    rw [q, List.length_cons]
    omega
  rw [e, HT.sIx_none]
  show xs.take (xs.length + 1 - 1) = xs
  rw [Nat.add_sub_cancel, List.take_length]
theorem cut1_not {x0 : V} {xs : List V} : ¬ (HT.sIx (x0 :: xs).length 0 (some 1) = 0 ∧ HT.sIx (x0 :: xs).length (x0 :: xs).length none = (x0 :: xs).length) := by
  have q := HT.sIx_nat (x0 :: xs).length 0 1
  rw [show ((1 : Nat) : Int) = 1 from rfl] at q
  rw [q, List.length_cons]
  omega
/-- t[1:] -/
theorem eu_tail {a : Addr} {x0 : V} {xs : List V} (h : Ev te σ H (.ref a)) (hs : H a = some (.tup (x0 :: xs))) : EvU (tSl (rSlT K) te (tPart (tC (.int 1))) tNoPart) σ H xs := by
  have q := eu_slT (K := K) h (eo_some (i := 1) ev_c) eo_none hs cut1_not
  rw [cut1] at q
  exact q
end
end Kp
set_option Elab.async false
set_option linter.all false
set_option maxRecDepth 100000
set_option maxHeartbeats 4000000
/-! the borders as one list, dicts whose values are all True -/
namespace Kp
open PySem PySem.Spec PyProof.Rows L2 Evl
def ins (z : Int) : List Int → List Int
  | [] => [z]
  | x :: l => if z < x then z :: x :: l else if z = x then x :: l else x :: ins z l
theorem ins_mem {z w : Int} : ∀ {l : List Int}, w ∈ ins z l ↔ w = z ∨ w ∈ l
  | [] => by simp [ins]
  | x :: l => by
    unfold ins
    by_cases h1 : z < x
    · rw [if_pos h1]
      simp
    · rw [if_neg h1]
      by_cases h2 : z = x
      · rw [if_pos h2]
        subst h2
        simp
      · rw [if_neg h2]
        have ih := ins_mem (z := z) (w := w) (l := l)
        rw [List.mem_cons, ih, List.mem_cons]
        constructor
        · rintro (h | h | h)
          · exact .inr (.inl h)
          · exact .inl h
          · exact .inr (.inr h)
        · rintro (h | h | h)
          · exact .inr (.inl h)
          · exact .inl h
          · exact .inr (.inr h)
theorem ins_rise {z : Int} : ∀ {l : List Int}, l.Pairwise (· < ·) → (ins z l).Pairwise (· < ·)
  | [], _ => List.pairwise_singleton _ _
  | x :: l, h => by
    obtain ⟨h1, h2⟩ := List.pairwise_cons.mp h
    unfold ins
    by_cases g1 : z < x
    · rw [if_pos g1]
      refine List.pairwise_cons.mpr ⟨fun w hw => ?_, h⟩
      rcases List.mem_cons.mp hw with e | hw
      · omega
      · have := h1 w hw
        omega
    · rw [if_neg g1]
      by_cases g2 : z = x
      · rw [if_pos g2]
        exact h
      · rw [if_neg g2]
        refine List.pairwise_cons.mpr ⟨fun w hw => ?_, ins_rise h2⟩
        rcases ins_mem.mp hw with e | hw
        · omega
        · exact h1 w hw
def cands (L : List LP) (side : Bool) (most : Int) : List Int := 0 :: most :: (L.flatMap fun q => [edC (plc L q.nm) side, edC (plc L q.nm) side + edD (plc L q.nm) side]).filter fun z => decide (0 < z ∧ z < most)
def brd (L : List LP) (side : Bool) (most : Int) : List Int := (cands L side most).foldr ins []
theorem fold_ins : ∀ l : List Int, (l.foldr ins []).Pairwise (· < ·) ∧ ∀ w, w ∈ l.foldr ins [] ↔ w ∈ l
  | [] => ⟨List.Pairwise.nil, fun w => Iff.rfl⟩
  | z :: l => by
    obtain ⟨h1, h2⟩ := fold_ins l
    refine ⟨ins_rise h1, fun w => ?_⟩
    show w ∈ ins z (l.foldr ins []) ↔ w ∈ z :: l
    rw [ins_mem, h2, List.mem_cons]
theorem brd_is (L : List LP) (side : Bool) (most : Int) : IsBord L side most (brd L side most) := by
  obtain ⟨h1, h2⟩ := fold_ins (cands L side most)
  refine ⟨h1, fun z => ?_⟩
  unfold brd
  rw [h2]
  unfold cands
  rw [List.mem_cons, List.mem_cons, List.mem_filter, List.mem_flatMap, decide_eq_true_eq]
  constructor
  · rintro (h | h | ⟨⟨q, hq, h⟩, g1, g2⟩)
    · exact .inl h
    · exact .inr (.inl h)
    · refine .inr (.inr ⟨g1, g2, q, hq, ?_⟩)
      simpa using h
  · rintro (h | h | ⟨g1, g2, q, hq, h⟩)
    · exact .inl h
    · exact .inr (.inl h)
    · exact .inr (.inr ⟨⟨q, hq, by simpa using h⟩, g1, g2⟩)
theorem ins_len {z : Int} : ∀ {l : List Int}, (ins z l).length ≤ l.length + 1
  | [] => Nat.le_refl _
  | x :: l => by
    unfold ins
    split
    · exact Nat.le_refl _
    · split
      · exact Nat.le_succ _
      · have := ins_len (z := z) (l := l)
        rw [List.length_cons, List.length_cons]
        omega
theorem fold_len : ∀ l : List Int, (l.foldr ins []).length ≤ l.length
  | [] => Nat.le_refl _
  | z :: l => by
    have h1 := ins_len (z := z) (l := l.foldr ins [])
    have h2 := fold_len l
    show (ins z (l.foldr ins [])).length ≤ l.length + 1
    omega
theorem brd_len (L : List LP) (side : Bool) (most : Int) : (brd L side most).length ≤ 2 + 2 * L.length := by
  refine Nat.le_trans (fold_len _) ?_
  unfold cands
  rw [List.length_cons, List.length_cons]
  have h1 := List.length_filter_le (fun z => decide (0 < z ∧ z < most)) (L.flatMap fun q => [edC (plc L q.nm) side, edC (plc L q.nm) side + edD (plc L q.nm) side])
  have h2 : ∀ (f : LP → List Int), (∀ q, (f q).length = 2) → ∀ M : List LP, (M.flatMap f).length = 2 * M.length := fun f hf M => by
    induction M with
    | nil => rfl
    | cons q M ih =>
      rw [List.flatMap_cons, List.length_append, ih, hf, List.length_cons]
      omega
  have h3 := h2 (fun q => [edC (plc L q.nm) side, edC (plc L q.nm) side + edD (plc L q.nm) side]) (fun _ => rfl) L
  omega
def mostOf (L : List LP) (side : Bool) : Int := if side = true then (byN L 0).h else (byN L 0).w
def brdS (L : List LP) (side : Bool) : List Int := brd L side (mostOf L side)
def areaN (L : List LP) (n : Int) : Int := areaF L (brdS L false) (brdS L true) n
/-- a dict of keys, all True -/
def tabT (ks : List Int) : List (Key × V) := ks.map fun k => (Sum.inl k, V.bl true)
theorem tabT_has (ks : List Int) (k : Int) : ((tabT ks).any fun kv => decide (kv.1 = Sum.inl k)) = decide (k ∈ ks) := by
  unfold tabT
  induction ks with
  | nil => rfl
  | cons a ks ih =>
    rw [List.map_cons, List.any_cons, ih]
    by_cases e : k = a
    · subst e
      simp
    · have e2 : decide ((Sum.inl a : Key) = Sum.inl k) = false := decide_eq_false fun q => e (Sum.inl.inj q).symm
      show (decide ((Sum.inl a : Key) = Sum.inl k) || decide (k ∈ ks)) = decide (k ∈ a :: ks)
      rw [e2]
      simp [e]
theorem tabT_put (ks : List Int) (k : Int) : putK (tabT ks) (Sum.inl k) (.bl true) = tabT (if k ∈ ks then ks else ks ++ [k]) := by
  unfold putK
  rw [tabT_has]
  by_cases e : k ∈ ks
  · rw [decide_eq_true e, if_pos rfl, if_pos e]
    unfold tabT
    rw [List.map_map]
    refine List.map_congr_left fun x _ => ?_
    show (if (Sum.inl x : Key) = Sum.inl k then ((Sum.inl x : Key), V.bl true) else (Sum.inl x, V.bl true)) = (Sum.inl x, V.bl true)
    split <;> rfl
  · rw [decide_eq_false e, if_neg (by decide), if_neg e]
    unfold tabT
    rw [List.map_append]
    rfl
theorem tabT_keys (ks : List Int) : (tabT ks).map (fun kv => kV kv.1) = ks.map V.int := by
  unfold tabT
  rw [List.map_map]
  rfl
theorem tabT_two {m : Int} (h : 1 ≤ m) : mergeK [] [((Sum.inl 0 : Key), V.bl true), (Sum.inl m, V.bl true)] = tabT [0, m] := by
  refine mergeK_nd (kvs := [((Sum.inl 0 : Key), V.bl true), (Sum.inl m, V.bl true)]) ?_
  show [(Sum.inl 0 : Key), Sum.inl m].Nodup
  refine List.nodup_cons.mpr ⟨fun hm => ?_, List.nodup_cons.mpr ⟨by simp, List.nodup_nil⟩⟩
  have := Sum.inl.inj (List.mem_singleton.mp hm)
  omega
/-- the keys so far: of M's places -/
structure KsInv (L : List LP) (side : Bool) (m : Int) (M : List LP) (ks : List Int) : Prop where
  nd : ks.Nodup
  mem : ∀ z, z ∈ ks ↔ z = 0 ∨ z = m ∨ (0 < z ∧ z < m ∧ ∃ q ∈ M, z = edC (plc L q.nm) side ∨ z = edC (plc L q.nm) side + edD (plc L q.nm) side)
theorem ks_add_nd {ks : List Int} {k : Int} (h : ks.Nodup) : (if k ∈ ks then ks else ks ++ [k]).Nodup := by
  split
  · exact h
  · exact nd_snoc h (by assumption)
theorem ks_add_mem {ks : List Int} {k z : Int} : z ∈ (if k ∈ ks then ks else ks ++ [k]) ↔ z ∈ ks ∨ z = k := by
  split
  · rename_i hk
    constructor
    · exact .inl
    · rintro (h | h)
      · exact h
      · rw [h]; exact hk
  · rw [List.mem_append, List.mem_singleton]
theorem ks_add_len {ks : List Int} {k : Int} : (if k ∈ ks then ks else ks ++ [k]).length ≤ ks.length + 1 := by
  split
  · omega
  · rw [List.length_append]
    exact Nat.le_refl _
theorem nd_lt {l : List Int} (h1 : l.Pairwise (· ≤ ·)) (h2 : l.Nodup) : l.Pairwise (· < ·) := by
  have q := List.Pairwise.and h1 h2
  exact q.imp fun {a b} h => by
    have h3 := h.1
    have h4 := h.2
    omega
end Kp
set_option Elab.async false
set_option linter.all false
set_option maxRecDepth 100000
set_option maxHeartbeats 4000000
/-! what a pen changes, what stands; readings part by part -/
namespace Kp
open PySem PySem.Spec PyProof.Rows L2 Evl
def Xp (p : Addr) (H H' : Hp) : Prop := ∀ a o, a ≠ p → H a = some o → H' a = some o
def Pen (p : Addr) (H : Hp) : Prop := ∃ n f : Int, H p = some (.lst [.int n, .int f])
section
variable {p q l : Addr} {H H' H1 H2 : Hp}
theorem Xp.refl (p : Addr) (H : Hp) : Xp p H H := fun _ _ _ h => h
theorem Xp.trans (a : Xp p H H1) (b : Xp p H1 H2) : Xp p H H2 := fun x o n h => b x o n (a x o n h)
theorem Xp.of (e : Ex H H') : Xp p H H' := fun a o _ h => e a o h
theorem Pen.ex (h : Pen p H) (e : Ex H H') : Pen p H' := by
  obtain ⟨n, f, h⟩ := h
  exact ⟨n, f, e _ _ h⟩
theorem Pen.some (h : Pen p H) {a : Addr} (ha : H a = none) : a ≠ p := fun e => by
  obtain ⟨n, f, h⟩ := h
  rw [e, h] at ha
  cases ha
theorem Xp.tm (x : Xp p H H') (pn : Pen p H) : Tm H H' := fun a xs h => by
  obtain ⟨n, f, hp⟩ := pn
  exact x a _ (ne_of h hp (by intro z; cases z)) h
theorem Xp.fresh (x : Xp p H H') (pn : Pen p H') {a : Addr} (h : H' a = none) : H a = none := by
  cases h1 : H a with
  | none => rfl
  | some o =>
    rw [x a o (pn.some h) h1] at h
    cases h
theorem Xp.new {o : HO} (x : Xp p H H') (h : H a = none) : Xp p H (upd H' a o) := fun b u n e => by
  rw [upd_ne (ne_of_none e h)]
  exact x b u n e
theorem Xp.pen {o : HO} (x : Xp p H H') : Xp p H (upd H' p o) := fun b u n e => by
  rw [upd_ne n]
  exact x b u n e
theorem Pen.upd (h : Pen p H) {a : Addr} {o : HO} (n : a ≠ p) : Pen p (upd H a o) := by
  obtain ⟨c, f, h⟩ := h
  exact ⟨c, f, by rw [upd_ne n.symm]; exact h⟩
end
def SpP (Pre : Addr → List V → Hp → Prop) (Post : List V → Hp → V → Hp → Prop) : Sp := fun vs H Q _ => ∃ p r, vs = .ref p :: r ∧ Pen p H ∧ Pre p r H ∧ ∀ v H', Xp p H H' → Pen p H' → Post r H v H' → Q v H'
section
variable {K : PySem.W.Frag} {σ : L2.St} {H : Hp} {te tb : TE} {ta tr : TA} {Q : VK} {v : V} {p : Addr} {r : R2} {D : Ends} {t u : TS} {g : TG} {c : TT} {E : XK}
theorem er (h : Ev te σ H v) (k : ∀ H1, Ex H H1 → Q v H1) : te σ H Q := h H (Ex.refl H) Q k
theorem ea {vs : List V} {Q : List V → Hp → Prop} (h : EvA ta σ H vs) (k : ∀ H1, Ex H H1 → Q vs H1) : ta σ H Q := h H (Ex.refl H) Q k
theorem c_op (h : te σ H fun x H1 => tb σ H1 fun y H2 => r x y H2 Q) : tOp r te tb σ H Q := h
theorem c_test {Q : Bool → Hp → Prop} (h : te σ H fun x H1 => ∃ k, x = .bl k ∧ Q k H1) : tTest te σ H Q := h
theorem c_if (h : c σ H fun b H1 => if b = true then t D σ H1 else u D σ H1) : tIfS c t u D σ H := h
theorem c_seq (h : t { D with nx := u D } σ H) : tSeq t u D σ H := h
theorem c_asg (h : te σ H fun x H1 => g x σ H1 D.nx) : tAsg te g D σ H := h
theorem c_cons {Q : List V → Hp → Prop} (h : te σ H fun x H1 => tr σ H1 fun xs H2 => Q (x :: xs) H2) : tCons te tr σ H Q := h
theorem c_nil {Q : List V → Hp → Prop} (h : Q [] H) : tNil σ H Q := h
theorem c_tup (h : ta σ H fun xs H1 => xs.length ≤ sizeLine ∧ ∀ p, H1 p = none → Q (.ref p) (upd H1 p (.tup xs))) : tTup ta σ H Q := h
theorem c_lst (h : ta σ H fun xs H1 => xs.length ≤ sizeLine ∧ ∀ p, H1 p = none → Q (.ref p) (upd H1 p (.lst xs))) : tLst ta σ H Q := h
theorem c_ret (h : te σ H D.rt) : tRet te D σ H := h
theorem c_drop (h : te σ H fun _ H1 => D.nx σ H1) : tDrop te D σ H := h
theorem c_cb {rc : List V → Hp → VK → Prop} (h : ta σ H fun vs H1 => rc vs H1 Q) : tCB rc ta σ H Q := h
theorem c_call {sp : Sp} (h : ta σ H fun vs H1 => sp (vs ++ []) H1 Q E) : tCall sp [] E ta σ H Q := h
theorem ifT {A B : Prop} {b : Bool} (hb : b = true) (h : A) : if b = true then A else B := by rw [if_pos hb]; exact h
theorem ifF {A B : Prop} {b : Bool} (hb : b = false) (h : B) : if b = true then A else B := by rw [if_neg (by rw [hb]; decide)]; exact h
theorem if2 {A B : Prop} {b : Bool} (h1 : b = true → A) (h2 : b = false → B) : if b = true then A else B := by
  cases b with
  | true => exact h1 rfl
  | false => exact h2 rfl
theorem g_call {Pre : Addr → List V → Hp → Prop} {Post : List V → Hp → V → Hp → Prop} {vs : List V} (ha : EvA ta σ H (.ref p :: vs)) (hp : Pen p H) (hpre : ∀ H1, Ex H H1 → Pre p vs H1) (k : ∀ v H0 H', Ex H H0 → Xp p H H' → Pen p H' → Post vs H0 v H' → Q v H') : tCall (SpP Pre Post) [] E ta σ H Q :=
  ha H (Ex.refl H) _ fun H1 e1 => ⟨p, vs, by rw [List.append_nil], hp.ex e1, hpre H1 e1, fun v H' x pn po => k v H1 H' e1 ((Xp.of e1).trans x) pn po⟩
end
end Kp
set_option Elab.async false
set_option linter.all false
set_option maxRecDepth 100000
set_option maxHeartbeats 4000000
/-! the looks at a plan's parts: numbers, names, boxes, keys, deeds, marks -/
namespace Kp
open PySem PySem.Spec PyProof.Rows L2 Evl
section
variable {P : Program} {w : World} {K : PySem.W.Frag} {mg : Str → Option Value} {base : Heap}
def ps_is_number (vs : List V) (_ : Hp) (z : V) : Prop := ∃ n lo hi : Int, vs = [.int n, .int lo, .int hi] ∧ lo ≤ n ∧ n ≤ hi ∧ z = .bl true
theorem sc_is_number : FnScope ["thing", "least", "greatest"] ["thing", "least", "greatest"] (defScope s_is_number) := ⟨rfl, rfl, rfl, by decide +kernel, rfl, by decide +kernel, by decide +kernel⟩
theorem d_is_number (T : Top K mg) : DefAt P w K mg base 1 "is_number" ["thing", "least", "greatest"] (SpF ps_is_number) := by
  refine def_of T.f_is_number sc_is_number (by rintro _ _ _ _ ⟨_, ⟨_, _, _, rfl, _⟩, _⟩; rfl) (fun _ _ _ _ _ _ us hl => match us, hl with | [_, _, _], _ => rfl) ?_
  intro f cdv A outer s H vs Q E hr h
  obtain ⟨z, ⟨n, lo, hi, rfl, h1, h2, rfl⟩, k⟩ := h
  refine ⟨_, (pss_one (ps_ret (pe_and (pe_callB call_isi (by rfl) T.g_isinstance PyProof.Rows.boot_isinstance (pa_cons (pv 0) (pa_cons (pe_bltn (v := .ty "int") (by rfl) T.g_int PyProof.Rows.boot_int rfl) pa_nil))) (pe_and (pe_not (pe_callB call_isi (by rfl) T.g_isinstance PyProof.Rows.boot_isinstance (pa_cons (pv 0) (pa_cons (pe_bltn (v := .ty "bool") (by rfl) T.g_bool PyProof.Rows.boot_bool rfl) pa_nil)))) (pe_one (pe_chain op_le op_le (pv 1) (pv 0) (pv 2))))))), ?_⟩
  refine s_ret (ev_is (ev_andV (ev_cb (ea_cons (ev_var rfl) (ea_cons ev_c ea_nil)) (rc_isi (b := true) ty_int (by decide +kernel))) fun _ =>
    ev_andV (ev_notV (ev_cb (ea_cons (ev_var rfl) (ea_cons ev_c ea_nil)) (rc_isi (b := false) ty_int (by decide +kernel)))) fun _ =>
      ev_chain (ev_var rfl) (ev_var rfl) rv_I0 (ev_var rfl) rv_I0) ?_) k
  rw [decide_eq_true h1, decide_eq_true h2]
  rfl

def ps_is_name (vs : List V) (_ : Hp) (z : V) : Prop := ∃ n : Int, vs = [.int n] ∧ 0 ≤ n ∧ n ≤ 1000000 ∧ z = .bl true
theorem sc_is_name : FnScope ["thing"] ["thing"] (defScope s_is_name) := ⟨rfl, rfl, rfl, by decide +kernel, rfl, by decide +kernel, by decide +kernel⟩
theorem d_is_name (T : Top K mg) : DefAt P w K mg base 2 "is_name" ["thing"] (SpF ps_is_name) := by
  refine def_of T.f_is_name sc_is_name (by rintro _ _ _ _ ⟨_, ⟨_, rfl, _⟩, _⟩; rfl) (fun _ _ _ _ _ _ us hl => match us, hl with | [_], _ => rfl) ?_
  intro f cdv A outer s H vs Q E hr h
  obtain ⟨z, ⟨n, rfl, h1, h2, rfl⟩, k⟩ := h
  obtain ⟨tF, hFAR⟩ := T.c_FAR
  refine ⟨_, (pss_one (ps_ret (pe_callD (d_is_number T) hr rfl (pa_cons (pv 0) (pa_cons pe_int (pa_cons (pe_glob (v := .int 1000000) rfl hFAR ⟨_, rfl⟩) pa_nil)))))), ?_⟩
  exact s_ret (ev_callF (ea_cons (ev_var rfl) (ea_cons ev_c (ea_cons ev_c ea_nil))) fun _ _ => ⟨_, _, _, rfl, h1, h2, rfl⟩) k

def ps_is_box (vs : List V) (H : Hp) (z : V) : Prop := ∃ (a : Addr) (l t w h : Int), vs = [.ref a] ∧ H a = some (.tup [.int l, .int t, .int w, .int h]) ∧
  (-1000000 ≤ l ∧ l ≤ 1000000) ∧ (-1000000 ≤ t ∧ t ≤ 1000000) ∧ (1 ≤ w ∧ w ≤ 1000000) ∧ (1 ≤ h ∧ h ≤ 1000000) ∧ z = .bl true
theorem sc_is_box : FnScope ["thing", "side"] ["thing"] (defScope s_is_box) := ⟨rfl, rfl, rfl, by decide +kernel, rfl, by decide +kernel, by decide +kernel⟩
theorem d_is_box (T : Top K mg) : DefAt P w K mg base 2 "is_box" ["thing"] (SpF ps_is_box) := by
  refine def_of T.f_is_box sc_is_box (by rintro _ _ _ _ ⟨_, ⟨_, _, _, _, _, rfl, _⟩, _⟩; rfl) (fun _ _ _ _ _ _ us hl => match us, hl with | [_], _ => rfl) ?_
  intro f cdv A outer s H vs Q E hr h
  obtain ⟨z, ⟨a, l, t, wd, ht, rfl, ha, h1, h2, h3, h4, rfl⟩, k⟩ := h
  obtain ⟨tF, hFAR⟩ := T.c_FAR
  refine ⟨_, (pss_cons (ps_if (PW.pt (pw_or (pt_not (pt_val (pe_callB call_isi (by rfl) T.g_isinstance PyProof.Rows.boot_isinstance (pa_cons (pv 0) (pa_cons (pe_bltn (v := .ty "tuple") (by rfl) T.g_tuple PyProof.Rows.boot_tuple rfl) pa_nil))))) (pw_or1 (pt_cmpR op_ne (pe_callB cr_lenS (by rfl) T.g_len PySem.boot_len (pa_cons (pv 0) pa_nil)) pe_int (nomark _))))) (pss_one (ps_ret pe_bl)) pss_nil) (pss_cons (ps_if (pt_not (pt_val (pe_callB (cr_all rfl) (by rfl) T.g_all PyProof.Rows.boot_all (pa_cons (pe_lc (own := [("side", 1)]) (g := (gName 1)) (tt := tYes) rfl sc_is_box.nd (pi_tup (pe_slice sl_tup (pv 0) po_none (po_some pe_int))) (blkOk_by (own := [("side", 1)]) (N := ["thing", "side"]) (sc := defScope s_is_box) (by decide +kernel)) (fun _ _ _ _ _ => (pg_name (i := 1) sc_is_box.nd rfl (Or.inl rfl))) (fun _ _ _ _ _ => pts_nil) (fun _ _ _ _ _ => (pe_callD (d_is_number T) hr rfl (pa_cons (pv 1) (pa_cons (pe_un un_neg (pe_glob (v := .int 1000000) rfl hFAR ⟨_, rfl⟩)) (pa_cons (pe_glob (v := .int 1000000) rfl hFAR ⟨_, rfl⟩) pa_nil)))))) pa_nil)))) (pss_one (ps_ret pe_bl)) pss_nil) (pss_one (ps_ret (pe_callB (cr_all rfl) (by rfl) T.g_all PyProof.Rows.boot_all (pa_cons (pe_lc (own := [("side", 1)]) (g := (gName 1)) (tt := tYes) rfl sc_is_box.nd (pi_tup (pe_slice sl_tup (pv 0) (po_some pe_int) po_none)) (blkOk_by (own := [("side", 1)]) (N := ["thing", "side"]) (sc := defScope s_is_box) (by decide +kernel)) (fun _ _ _ _ _ => (pg_name (i := 1) sc_is_box.nd rfl (Or.inl rfl))) (fun _ _ _ _ _ => pts_nil) (fun _ _ _ _ _ => (pe_callD (d_is_number T) hr rfl (pa_cons (pv 1) (pa_cons pe_int (pa_cons (pe_glob (v := .int 1000000) rfl hFAR ⟨_, rfl⟩) pa_nil)))))) pa_nil)))))), ?_⟩
  refine q_when (b := false) (et_is (et_or (et_not (et_B (ev_cb (ea_cons (ev_var rfl) (ea_cons ev_c ea_nil)) (rc_isi (b := true) (ty_tup ha) (by decide +kernel))))) fun _ =>
    et_test (ev_op (ev_lenT (ev_var rfl) ha) ev_c (rv_ne rfl))) rfl) (fun q => by cases q) fun _ H1 e1 => ?_
  have ha1 := e1 _ _ ha
  refine q_when (b := false) (et_is (et_not (et_B (ev_all_true (el_lcNT (L := [l, t]) (enc := V.int) (fun _ => true) (fun _ => .bl true) (eu_slT (xs := [.int l, .int t, .int wd, .int ht]) (ev_var rfl) eo_none (eo_some ev_c) ha1 (by show ¬ (HT.sIx 4 0 none = 0 ∧ HT.sIx 4 4 (some 2) = 4); decide)) (by show 2 ≤ 40000; decide) (fun _ => rfl)
    (fun _ _ _ _ => el_yes (b := true)) (fun x H2 e2 hx _ => ev_callF (ea_cons (ev_var rfl) (ea_cons (ev_un ev_c ru_neg) (ea_cons ev_c ea_nil))) fun _ _ => ⟨_, _, _, rfl, ?_, ?_, rfl⟩))))) rfl) (fun q => by cases q) fun _ H2 e2 => ?_
  · simp at hx
    omega
  · simp at hx
    omega
  have ha2 := e2 _ _ ha1
  refine s_ret (ev_all_true (el_lcNT (L := [wd, ht]) (enc := V.int) (fun _ => true) (fun _ => .bl true) (eu_slT (xs := [.int l, .int t, .int wd, .int ht]) (ev_var rfl) (eo_some ev_c) eo_none ha2 (by show ¬ (HT.sIx 4 0 (some 2) = 0 ∧ HT.sIx 4 4 none = 4); decide)) (by show 2 ≤ 40000; decide) (fun _ => rfl)
    (fun _ _ _ _ => el_yes (b := true)) (fun x H3 e3 hx _ => ev_callF (ea_cons (ev_var rfl) (ea_cons ev_c (ea_cons ev_c ea_nil))) fun _ _ => ⟨_, _, _, rfl, ?_, ?_, rfl⟩))) fun H3 e3 => k H3 ((e1.trans e2).trans e3)
  · simp at hx
    omega
  · simp at hx
    omega

def ps_is_key (vs : List V) (_ : Hp) (z : V) : Prop := ∃ x : Str, vs = [.str x] ∧ GKey x ∧ z = .bl true
theorem sc_is_key : FnScope ["thing", "sign"] ["thing"] (defScope s_is_key) := ⟨rfl, rfl, rfl, by decide +kernel, rfl, by decide +kernel, by decide +kernel⟩
theorem d_is_key (T : Top K mg) : DefAt P w K mg base 1 "is_key" ["thing"] (SpF ps_is_key) := by
  refine def_of T.f_is_key sc_is_key (by rintro _ _ _ _ ⟨_, ⟨_, rfl, _⟩, _⟩; rfl) (fun _ _ _ _ _ _ us hl => match us, hl with | [_], _ => rfl) ?_
  intro f cdv A outer s H vs Q E hr h
  obtain ⟨z, ⟨x, rfl, ⟨g1, g2, g3⟩, rfl⟩, k⟩ := h
  obtain ⟨tK, hKEY_SIGNS⟩ := T.c_KEY_SIGNS
  refine ⟨_, (pss_cons (ps_if (PW.pt (pw_or (pt_not (pt_val (pe_callB call_isi (by rfl) T.g_isinstance PyProof.Rows.boot_isinstance (pa_cons (pv 0) (pa_cons (pe_bltn (v := .ty "str") (by rfl) T.g_str PyProof.Rows.boot_str rfl) pa_nil))))) (pw_or (pt_cmpR op_lt (pe_callB call_len_str (by rfl) T.g_len PySem.boot_len (pa_cons (pv 0) pa_nil)) pe_int (nomark _)) (pw_or1 (pt_cmpR op_gt (pe_callB call_len_str (by rfl) T.g_len PySem.boot_len (pa_cons (pv 0) pa_nil)) pe_int (nomark _)))))) (pss_one (ps_ret pe_bl)) pss_nil) (pss_one (ps_ret (pe_callB (cr_all rfl) (by rfl) T.g_all PyProof.Rows.boot_all (pa_cons (pe_lc (own := [("sign", 1)]) (g := (gName 1)) (tt := tYes) rfl sc_is_key.nd (pi_str (pv 0)) (blkOk_by (own := [("sign", 1)]) (N := ["thing", "sign"]) (sc := defScope s_is_key) (by decide +kernel)) (fun _ _ _ _ _ => (pg_name (i := 1) sc_is_key.nd rfl (Or.inl rfl))) (fun _ _ _ _ _ => pts_nil) (fun _ _ _ _ _ => (pe_cmpR op_in_sign (pv 1) (pe_glob (v := .str "abcdefghijklmnopqrstuvwxyz0123456789") rfl hKEY_SIGNS ⟨_, rfl⟩) (by rfl)))) pa_nil))))), ?_⟩
  refine q_when (b := false) (et_is (et_or (et_not (et_B (ev_cb (ea_cons (ev_var rfl) (ea_cons ev_c ea_nil)) (rc_isi (b := true) ty_str (by decide +kernel))))) fun _ =>
    et_or (et_test (ev_op (ev_cb (ea_cons (ev_var rfl) ea_nil) (rc_lenStr (by omega))) ev_c rv_I0)) fun _ => et_test (ev_op (ev_cb (ea_cons (ev_var rfl) ea_nil) (rc_lenStr (by omega))) ev_c rv_I0)) ?_) (fun q => by cases q) fun _ H1 e1 => ?_
  · rw [decide_eq_false (by omega), decide_eq_false (by omega)]
    rfl
  refine s_ret (ev_all_true (el_lcS (fun _ => true) (fun _ => .bl true) (ev_var rfl) (by rw [Array.length_toList]; exact Nat.le_trans g2 (by decide)) (fun _ => rfl) (fun _ _ _ _ => el_yes (b := true)) fun c H2 e2 hc _ => ev_is (ev_op (ev_var rfl) ev_c rv_sign) ?_)) fun H2 e2 => k H2 (e1.trans e2)
  exact congrArg V.bl (decide_eq_true (g3 c hc))

def ps_in (l : List Str) (vs : List V) (_ : Hp) (z : V) : Prop := ∃ x : Str, vs = [.str x] ∧ x ∈ l ∧ z = .bl true
theorem sc_is_way : FnScope ["thing"] ["thing"] (defScope s_is_way) := ⟨rfl, rfl, rfl, by decide +kernel, rfl, by decide +kernel, by decide +kernel⟩
theorem d_is_way (T : Top K mg) : DefAt P w K mg base 1 "is_way" ["thing"] (SpF (ps_in WAYSL)) := by
  refine def_of T.f_is_way sc_is_way (by rintro _ _ _ _ ⟨_, ⟨_, rfl, _⟩, _⟩; rfl) (fun _ _ _ _ _ _ us hl => match us, hl with | [_], _ => rfl) ?_
  intro f cdv A outer s H vs Q E hr h
  obtain ⟨z, ⟨x, rfl, hx, rfl⟩, k⟩ := h
  obtain ⟨aWAYS, hWAYS, hq⟩ := T.c_WAYS
  refine ⟨_, (pss_one (ps_ret (pe_and (pe_callB call_isi (by rfl) T.g_isinstance PyProof.Rows.boot_isinstance (pa_cons (pv 0) (pa_cons (pe_bltn (v := .ty "str") (by rfl) T.g_str PyProof.Rows.boot_str rfl) pa_nil))) (pe_one (pe_cmpR op_in_seq (pv 0) (pe_glob (v := .ref aWAYS) rfl hWAYS rfl) (by rfl)))))), ?_⟩
  refine s_ret (ev_is (ev_andV (ev_cb (ea_cons (ev_var rfl) (ea_cons ev_c ea_nil)) (rc_isi (b := true) ty_str (by decide +kernel))) fun _ => ev_op (ev_var rfl) ev_c (rv_isT (xs := WAYSL.map V.str) (hq H) rfl (flat_str _))) ?_) k
  rw [inV_str, decide_eq_true hx]
  rfl
theorem sc_is_mark : FnScope ["thing"] ["thing"] (defScope s_is_mark) := ⟨rfl, rfl, rfl, by decide +kernel, rfl, by decide +kernel, by decide +kernel⟩
theorem d_is_mark (T : Top K mg) : DefAt P w K mg base 1 "is_mark" ["thing"] (SpF (ps_in MARKSL)) := by
  refine def_of T.f_is_mark sc_is_mark (by rintro _ _ _ _ ⟨_, ⟨_, rfl, _⟩, _⟩; rfl) (fun _ _ _ _ _ _ us hl => match us, hl with | [_], _ => rfl) ?_
  intro f cdv A outer s H vs Q E hr h
  obtain ⟨z, ⟨x, rfl, hx, rfl⟩, k⟩ := h
  obtain ⟨aMARKS, hMARKS, hq⟩ := T.c_MARKS
  refine ⟨_, (pss_one (ps_ret (pe_and (pe_callB call_isi (by rfl) T.g_isinstance PyProof.Rows.boot_isinstance (pa_cons (pv 0) (pa_cons (pe_bltn (v := .ty "str") (by rfl) T.g_str PyProof.Rows.boot_str rfl) pa_nil))) (pe_one (pe_cmpR op_in_seq (pv 0) (pe_glob (v := .ref aMARKS) rfl hMARKS rfl) (by rfl)))))), ?_⟩
  refine s_ret (ev_is (ev_andV (ev_cb (ea_cons (ev_var rfl) (ea_cons ev_c ea_nil)) (rc_isi (b := true) ty_str (by decide +kernel))) fun _ => ev_op (ev_var rfl) ev_c (rv_isT (xs := MARKSL.map V.str) (hq H) rfl (flat_str _))) ?_) k
  rw [inV_str, decide_eq_true hx]
  rfl

def ps_is_deed (vs : List V) (H : Hp) (z : V) : Prop := ∃ (a : Addr) (q : Deed), vs = [.ref a] ∧ H a = some (.tup q.vs) ∧ GDeed q ∧ z = .bl true
theorem sc_is_deed : FnScope ["thing"] ["thing"] (defScope s_is_deed) := ⟨rfl, rfl, rfl, by decide +kernel, rfl, by decide +kernel, by decide +kernel⟩
theorem d_is_deed (T : Top K mg) : DefAt P w K mg base 2 "is_deed" ["thing"] (SpF ps_is_deed) := by
  refine def_of T.f_is_deed sc_is_deed (by rintro _ _ _ _ ⟨_, ⟨_, _, rfl, _⟩, _⟩; rfl) (fun _ _ _ _ _ _ us hl => match us, hl with | [_], _ => rfl) ?_
  intro f cdv A outer s H vs Q E hr h
  obtain ⟨z, ⟨a, q, rfl, ha, hg, rfl⟩, k⟩ := h
  obtain ⟨tF, hFAR⟩ := T.c_FAR
  refine ⟨_, (pss_cons (ps_if (PW.pt (pw_or (pt_not (pt_val (pe_callB call_isi (by rfl) T.g_isinstance PyProof.Rows.boot_isinstance (pa_cons (pv 0) (pa_cons (pe_bltn (v := .ty "tuple") (by rfl) T.g_tuple PyProof.Rows.boot_tuple rfl) pa_nil))))) (pw_or (pt_cmpR op_lt (pe_callB cr_lenS (by rfl) T.g_len PySem.boot_len (pa_cons (pv 0) pa_nil)) pe_int (nomark _)) (pw_or1 (pt_not (pt_val (pe_callB call_isi (by rfl) T.g_isinstance PyProof.Rows.boot_isinstance (pa_cons (pe_ix ix_tup (pv 0) pe_int (fun _ _ => rfl)) (pa_cons (pe_bltn (v := .ty "str") (by rfl) T.g_str PyProof.Rows.boot_str rfl) pa_nil))))))))) (pss_one (ps_ret pe_bl)) pss_nil) (pss_cons (ps_if (PW.pt (pw_or (pt_cmpR (op_eqD hr.units) (pv 0) (pe_tup (pa_cons pe_str pa_nil)) (nomark _)) (pw_or1 (pt_cmpR (op_eqD hr.units) (pv 0) (pe_tup (pa_cons pe_str pa_nil)) (nomark _))))) (pss_one (ps_ret pe_bl)) pss_nil) (pss_cons (ps_if (pt_cmpR op_ne (pe_callB cr_lenS (by rfl) T.g_len PySem.boot_len (pa_cons (pv 0) pa_nil)) pe_int (nomark _)) (pss_one (ps_ret pe_bl)) pss_nil) (pss_cons (ps_if (pt_cmpR op_eq (pe_ix ix_tup (pv 0) pe_int (fun _ _ => rfl)) pe_str (nomark _)) (pss_one (ps_ret (pe_callD (d_is_number T) hr rfl (pa_cons (pe_ix ix_tup (pv 0) pe_int (fun _ _ => rfl)) (pa_cons (pe_un un_neg (pe_glob (v := .int 1000000) rfl hFAR ⟨_, rfl⟩)) (pa_cons (pe_glob (v := .int 1000000) rfl hFAR ⟨_, rfl⟩) pa_nil)))))) pss_nil) (pss_one (ps_ret (pe_and (pe_cmpR op_eq (pe_ix ix_tup (pv 0) pe_int (fun _ _ => rfl)) pe_str (nomark _)) (pe_one (pe_callD (d_is_way T) hr rfl (pa_cons (pe_ix ix_tup (pv 0) pe_int (fun _ _ => rfl)) pa_nil)))))))))), ?_⟩
  have hfirst : ∃ (c : Str) (r : List V), q.vs = V.str c :: r := by
    cases q <;> exact ⟨_, _, rfl⟩
  obtain ⟨c, r, hcr⟩ := hfirst
  have h0 : atI q.vs 0 = some (.str c) := by rw [hcr]; exact atI_nat (j := 0) rfl
  refine q_when (b := false) (et_is (et_or (et_not (et_B (ev_cb (ea_cons (ev_var rfl) (ea_cons ev_c ea_nil)) (rc_isi (b := true) (ty_tup ha) (by decide +kernel))))) fun _ =>
    et_or (et_test (ev_op (ev_lenT (ev_var rfl) ha) ev_c rv_I0)) fun _ => et_not (et_B (ev_cb (ea_cons (ev_at (ev_var rfl) ha h0) (ea_cons ev_c ea_nil)) (rc_isi (b := true) ty_str (by decide +kernel))))) ?_) (fun q => by cases q) fun _ H1 e1 => ?_
  · rw [hcr, List.length_cons, decide_eq_false (by omega)]
    rfl
  have ha1 := e1 _ _ ha
  refine q_when (et_or (et_test (ev_opU (ev_var rfl) (eu_tup (ea_cons ev_c ea_nil) (by show 1 ≤ 100000; decide)) fun p H2 hp e2 => rv_eqD (deed_dp (e2 _ _ ha1)) (deed_dp (q := .shut) hp) (deed_shaped hg) shut_shaped (deed_shut q))) fun _ =>
    et_test (ev_opU (ev_var rfl) (eu_tup (ea_cons ev_c ea_nil) (by show 1 ≤ 100000; decide)) fun p H2 hp e2 => rv_eqD (deed_dp (e2 _ _ ha1)) (deed_dp (q := .still) hp) (deed_shaped hg) still_shaped (deed_still q)))
    (fun _ H2 e2 => s_ret ev_c fun H3 e3 => k H3 ((e1.trans e2).trans e3)) fun hb H2 e2 => ?_
  have ha2 := e2 _ _ ha1
  refine q_when (b := false) (et_is (et_test (ev_op (ev_lenT (ev_var rfl) ha2) ev_c (rv_ne rfl))) ?_) (fun q => by cases q) fun _ H3 e3 => ?_
  · cases q with
    | say n => rfl
    | go w => rfl
    | shut => cases hb
    | still => cases hb
  have ha3 := e3 _ _ ha2
  cases q with
  | say n =>
    refine q_when (b := true) (et_is (et_test (ev_op (ev_at (xs := [.str "say", .int n]) (ev_var rfl) ha3 (atI_nat (j := 0) rfl)) ev_c (rv_eq rfl))) (by decide +kernel)) (fun _ H4 e4 => ?_) fun q => by cases q
    exact s_ret (ev_callF (ea_cons (ev_at (xs := [.str "say", .int n]) (ev_var rfl) (e4 _ _ ha3) (atI_nat (j := 1) rfl)) (ea_cons (ev_un ev_c ru_neg) (ea_cons ev_c ea_nil))) fun _ _ => ⟨_, _, _, rfl, hg.1, hg.2, rfl⟩) fun H5 e5 => k H5 ((((e1.trans e2).trans e3).trans e4).trans e5)
  | go x =>
    refine q_when (b := false) (et_is (et_test (ev_op (ev_at (xs := [.str "go", .str x]) (ev_var rfl) ha3 (atI_nat (j := 0) rfl)) ev_c (rv_eq rfl))) (by decide +kernel)) (fun q => by cases q) (fun _ H4 e4 => ?_)
    exact s_ret (ev_is (ev_andV (ev_is (ev_op (ev_at (xs := [.str "go", .str x]) (ev_var rfl) (e4 _ _ ha3) (atI_nat (j := 0) rfl)) ev_c (rv_eq rfl)) (congrArg V.bl (show decide (V.str "go" = V.str "go") = true by decide +kernel))) fun _ => ev_callF (ea_cons (ev_at (xs := [.str "go", .str x]) (ev_var rfl) (e4 _ _ ha3) (atI_nat (j := 1) rfl)) ea_nil) fun _ _ => ⟨_, rfl, hg, rfl⟩) rfl) fun H5 e5 => k H5 ((((e1.trans e2).trans e3).trans e4).trans e5)
  | shut => cases hb
  | still => cases hb
end
end Kp
set_option Elab.async false
set_option linter.all false
set_option maxRecDepth 100000
set_option maxHeartbeats 4000000
/-! the looks at panes -/
namespace Kp
open PySem PySem.Spec PyProof.Rows L2 Evl
section
variable {P : Program} {w : World} {K : PySem.W.Frag} {mg : Str → Option Value} {base : Heap}
def ps_rises (vs : List V) (H : Hp) (z : V) : Prop := ∃ a : Addr, vs = [.ref a] ∧ z = .bl true ∧ ((∃ xs : List Str, H a = some (.tup (xs.map V.str)) ∧ xs.length ≤ 1000 ∧ xs.Pairwise strLt) ∨
  (∃ xs : List Str, H a = some (.lst (xs.map V.str)) ∧ xs.length ≤ 1000 ∧ xs.Pairwise strLt) ∨ ∃ ns : List Int, H a = some (.lst (ns.map V.int)) ∧ ns.length ≤ 1000 ∧ ns.Pairwise (· < ·))
theorem atI_map {α : Type} {f : α → V} {xs : List α} {i : Nat} (h : i < xs.length) {z : Int} (e : z = (i : Int)) : atI (xs.map f) z = some (f xs[i]) := by
  rw [e]
  exact atI_nat (by rw [List.getElem?_map, List.getElem?_eq_getElem h]; rfl)
theorem sc_rises : FnScope ["thing", "at"] ["thing"] (defScope s_rises) := ⟨rfl, rfl, rfl, by decide +kernel, rfl, by decide +kernel, by decide +kernel⟩
theorem d_rises (T : Top K mg) : DefAt P w K mg base 1 "rises" ["thing"] (SpF ps_rises) := by
  refine def_of T.f_rises sc_rises (by rintro _ _ _ _ ⟨_, ⟨_, rfl, _⟩, _⟩; rfl) (fun _ _ _ _ _ _ us hl => match us, hl with | [_], _ => rfl) ?_
  intro f cdv A outer s H vs Q E hr h
  obtain ⟨z, ⟨a, rfl, rfl, h⟩, k⟩ := h
  rcases h with ⟨xs, ha, hl, hp⟩ | ⟨xs, ha, hl, hp⟩ | ⟨xs, ha, hl, hp⟩
  · refine ⟨_, (pss_one (ps_ret (pe_callB (cr_all rfl) (by rfl) T.g_all PyProof.Rows.boot_all (pa_cons (pe_lc (own := [("at", 1)]) (g := (gName 1)) (tt := tYes) rfl sc_rises.nd (pi_range1 rfl T.g_range (pa_cons (pe_op op_sub (pe_callB cr_lenS (by rfl) T.g_len PySem.boot_len (pa_cons (pv 0) pa_nil)) pe_int) pa_nil)) (blkOk_by (own := [("at", 1)]) (N := ["thing", "at"]) (sc := defScope s_rises) (by decide +kernel)) (fun _ _ _ _ _ => (pg_name (i := 1) sc_rises.nd rfl (Or.inl rfl))) (fun _ _ _ _ _ => pts_nil) (fun _ _ _ _ _ => (pe_cmpR op_lt_str (pe_ix (ix_tupK (K := K) rfl) (pv 0) (pv 1) (fun _ _ => rfl)) (pe_ix (ix_tupK (K := K) rfl) (pv 0) (pe_op op_add (pv 1) pe_int) (fun _ _ => rfl)) (nomark _)))) pa_nil)))), ?_⟩
    refine s_ret (ev_all_true (el_lcRa (fun _ => true) (fun _ => .bl true) (ea_cons (ev_op (ev_lenT (ev_var rfl) ha) ev_c rv_I0) ea_nil) (by rw [List.length_map]; omega) (fun _ => rfl) (fun _ _ _ _ => el_yes (b := true)) fun i H2 e2 hi _ => ?_)) k
    rw [List.length_map] at hi
    have h1 : i < xs.length := by omega
    have h2 : i + 1 < xs.length := by omega
    refine ev_is (ev_op (ev_atE (ev_var rfl) (ev_var rfl) (e2 _ _ ha) (atI_map h1 rfl)) (ev_atE (ev_var rfl) (ev_op (ev_var rfl) ev_c rv_I0) (e2 _ _ ha) (atI_map h2 (by omega))) rv_ltS) ?_
    exact congrArg V.bl (decide_eq_true (List.pairwise_iff_getElem.mp hp i (i + 1) h1 h2 (by omega)))
  · refine ⟨_, (pss_one (ps_ret (pe_callB (cr_all rfl) (by rfl) T.g_all PyProof.Rows.boot_all (pa_cons (pe_lc (own := [("at", 1)]) (g := (gName 1)) (tt := tYes) rfl sc_rises.nd (pi_range1 rfl T.g_range (pa_cons (pe_op op_sub (pe_callB cr_lenS (by rfl) T.g_len PySem.boot_len (pa_cons (pv 0) pa_nil)) pe_int) pa_nil)) (blkOk_by (own := [("at", 1)]) (N := ["thing", "at"]) (sc := defScope s_rises) (by decide +kernel)) (fun _ _ _ _ _ => (pg_name (i := 1) sc_rises.nd rfl (Or.inl rfl))) (fun _ _ _ _ _ => pts_nil) (fun _ _ _ _ _ => (pe_cmpR op_lt_str (pe_ix (ix_listK (K := K) rfl) (pv 0) (pv 1) (fun _ _ => rfl)) (pe_ix (ix_listK (K := K) rfl) (pv 0) (pe_op op_add (pv 1) pe_int) (fun _ _ => rfl)) (nomark _)))) pa_nil)))), ?_⟩
    refine s_ret (ev_all_true (el_lcRa (fun _ => true) (fun _ => .bl true) (ea_cons (ev_op (ev_len (ev_var rfl) (sq_of ha)) ev_c rv_I0) ea_nil) (by rw [List.length_map]; omega) (fun _ => rfl) (fun _ _ _ _ => el_yes (b := true)) fun i H2 e2 hi _ => ?_)) k
    rw [List.length_map] at hi
    have h1 : i < xs.length := by omega
    have h2 : i + 1 < xs.length := by omega
    refine ev_is (ev_op (ev_op (ev_var rfl) (ev_var rfl) (rv_ixL (sq_of (e2 _ _ ha)) (atI_map h1 rfl))) (ev_op (ev_var rfl) (ev_op (ev_var rfl) ev_c rv_I0) (rv_ixL (sq_of (e2 _ _ ha)) (atI_map h2 (by omega)))) rv_ltS) ?_
    exact congrArg V.bl (decide_eq_true (List.pairwise_iff_getElem.mp hp i (i + 1) h1 h2 (by omega)))
  · refine ⟨_, (pss_one (ps_ret (pe_callB (cr_all rfl) (by rfl) T.g_all PyProof.Rows.boot_all (pa_cons (pe_lc (own := [("at", 1)]) (g := (gName 1)) (tt := tYes) rfl sc_rises.nd (pi_range1 rfl T.g_range (pa_cons (pe_op op_sub (pe_callB cr_lenS (by rfl) T.g_len PySem.boot_len (pa_cons (pv 0) pa_nil)) pe_int) pa_nil)) (blkOk_by (own := [("at", 1)]) (N := ["thing", "at"]) (sc := defScope s_rises) (by decide +kernel)) (fun _ _ _ _ _ => (pg_name (i := 1) sc_rises.nd rfl (Or.inl rfl))) (fun _ _ _ _ _ => pts_nil) (fun _ _ _ _ _ => (pe_cmpR op_lt (pe_ix (ix_listK (K := K) rfl) (pv 0) (pv 1) (fun _ _ => rfl)) (pe_ix (ix_listK (K := K) rfl) (pv 0) (pe_op op_add (pv 1) pe_int) (fun _ _ => rfl)) (nomark _)))) pa_nil)))), ?_⟩
    refine s_ret (ev_all_true (el_lcRa (fun _ => true) (fun _ => .bl true) (ea_cons (ev_op (ev_len (ev_var rfl) (sq_of ha)) ev_c rv_I0) ea_nil) (by rw [List.length_map]; omega) (fun _ => rfl) (fun _ _ _ _ => el_yes (b := true)) fun i H2 e2 hi _ => ?_)) k
    rw [List.length_map] at hi
    have h1 : i < xs.length := by omega
    have h2 : i + 1 < xs.length := by omega
    refine ev_is (ev_op (ev_op (ev_var rfl) (ev_var rfl) (rv_ixL (sq_of (e2 _ _ ha)) (atI_map h1 rfl))) (ev_op (ev_var rfl) (ev_op (ev_var rfl) ev_c rv_I0) (rv_ixL (sq_of (e2 _ _ ha)) (atI_map h2 (by omega)))) rv_I0) ?_
    exact congrArg V.bl (decide_eq_true (List.pairwise_iff_getElem.mp hp i (i + 1) h1 h2 (by omega)))

def ps_are_marks (vs : List V) (H : Hp) (z : V) : Prop := ∃ (a : Addr) (xs : List Str), vs = [.ref a] ∧ H a = some (.tup (xs.map V.str)) ∧ (∀ x ∈ xs, x ∈ MARKSL) ∧ xs.Pairwise strLt ∧ xs.length ≤ 1000 ∧ z = .bl true
theorem sc_are_marks : FnScope ["thing", "one"] ["thing"] (defScope s_are_marks) := ⟨rfl, rfl, rfl, by decide +kernel, rfl, by decide +kernel, by decide +kernel⟩
theorem d_are_marks (T : Top K mg) : DefAt P w K mg base 2 "are_marks" ["thing"] (SpF ps_are_marks) := by
  refine def_of T.f_are_marks sc_are_marks (by rintro _ _ _ _ ⟨_, ⟨_, _, rfl, _⟩, _⟩; rfl) (fun _ _ _ _ _ _ us hl => match us, hl with | [_], _ => rfl) ?_
  intro f cdv A outer s H vs Q E hr h
  obtain ⟨z, ⟨a, xs, rfl, ha, hm, hp, hl, rfl⟩, k⟩ := h
  refine ⟨_, (pss_one (ps_ret (pe_and (pe_callB call_isi (by rfl) T.g_isinstance PyProof.Rows.boot_isinstance (pa_cons (pv 0) (pa_cons (pe_bltn (v := .ty "tuple") (by rfl) T.g_tuple PyProof.Rows.boot_tuple rfl) pa_nil))) (pe_and (pe_callB (cr_all rfl) (by rfl) T.g_all PyProof.Rows.boot_all (pa_cons (pe_lc (own := [("one", 1)]) (g := (gName 1)) (tt := tYes) rfl sc_are_marks.nd (pi_tup (pv 0)) (blkOk_by (own := [("one", 1)]) (N := ["thing", "one"]) (sc := defScope s_are_marks) (by decide +kernel)) (fun _ _ _ _ _ => (pg_name (i := 1) sc_are_marks.nd rfl (Or.inl rfl))) (fun _ _ _ _ _ => pts_nil) (fun _ _ _ _ _ => (pe_callD (d_is_mark T) hr rfl (pa_cons (pv 1) pa_nil)))) pa_nil)) (pe_one (pe_callD (d_rises T) hr rfl (pa_cons (pv 0) pa_nil))))))), ?_⟩
  exact s_ret (ev_is (ev_andV (ev_cb (ea_cons (ev_var rfl) (ea_cons ev_c ea_nil)) (rc_isi (b := true) (ty_tup ha) (by decide +kernel))) fun _ =>
    ev_andV (ev_all_true (el_lcT (fun _ => true) (fun _ => .bl true) (ev_var rfl) ha (by omega) (fun _ => rfl) (fun _ _ _ _ => el_yes (b := true)) fun x H2 e2 hx _ => ev_callF (ea_cons (ev_var rfl) ea_nil) fun _ _ => ⟨_, rfl, hm x hx, rfl⟩)) fun _ =>
      ev_callF (ea_cons (ev_var rfl) ea_nil) fun H1 e1 => ⟨a, rfl, rfl, .inl ⟨xs, e1 _ _ ha, hl, hp⟩⟩) rfl) k

def ps_is_known (vs : List V) (H : Hp) (z : V) : Prop := ∃ q : KeyD, vs = [.ref q.pa] ∧ KeyAt H q ∧ GKey q.key ∧ GDeed q.deed ∧ z = .bl true
theorem sc_is_known : FnScope ["thing"] ["thing"] (defScope s_is_known) := ⟨rfl, rfl, rfl, by decide +kernel, rfl, by decide +kernel, by decide +kernel⟩
theorem d_is_known (T : Top K mg) : DefAt P w K mg base 3 "is_known" ["thing"] (SpF ps_is_known) := by
  refine def_of T.f_is_known sc_is_known (by rintro _ _ _ _ ⟨_, ⟨_, rfl, _⟩, _⟩; rfl) (fun _ _ _ _ _ _ us hl => match us, hl with | [_], _ => rfl) ?_
  intro f cdv A outer s H vs Q E hr h
  obtain ⟨z, ⟨q, rfl, ha, hk, hd, rfl⟩, k⟩ := h
  refine ⟨_, (pss_one (ps_ret (pe_and (pe_callB call_isi (by rfl) T.g_isinstance PyProof.Rows.boot_isinstance (pa_cons (pv 0) (pa_cons (pe_bltn (v := .ty "tuple") (by rfl) T.g_tuple PyProof.Rows.boot_tuple rfl) pa_nil))) (pe_and (pe_cmpR op_eq (pe_callB cr_lenS (by rfl) T.g_len PySem.boot_len (pa_cons (pv 0) pa_nil)) pe_int (nomark _)) (pe_and (pe_callD (d_is_key T) hr rfl (pa_cons (pe_ix ix_tup (pv 0) pe_int (fun _ _ => rfl)) pa_nil)) (pe_one (pe_callD (d_is_deed T) hr rfl (pa_cons (pe_ix ix_tup (pv 0) pe_int (fun _ _ => rfl)) pa_nil)))))))), ?_⟩
  exact s_ret (ev_is (ev_andV (ev_cb (ea_cons (ev_var rfl) (ea_cons ev_c ea_nil)) (rc_isi (b := true) (ty_tup ha.p) (by decide +kernel))) fun _ =>
    ev_andV (ev_is (ev_op (ev_lenT (ev_var rfl) ha.p) ev_c (rv_eq rfl)) (show _ = V.bl true from rfl)) fun _ =>
      ev_andV (ev_callF (ea_cons (ev_at (ev_var rfl) ha.p (atI_nat (j := 0) rfl)) ea_nil) fun _ _ => ⟨_, rfl, hk, rfl⟩) fun _ =>
        ev_callF (ea_cons (ev_at (ev_var rfl) ha.p (atI_nat (j := 1) rfl)) ea_nil) fun H1 e1 => ⟨_, _, rfl, e1 _ _ ha.d, hd, rfl⟩) rfl) k

def GKeys (l : List KeyD) : Prop := l.length ≤ 20 ∧ (∀ z ∈ l, GKey z.key ∧ GDeed z.deed) ∧ (l.map (·.key)).Pairwise strLt
def ps_are_keys (vs : List V) (H : Hp) (z : V) : Prop := ∃ (a : Addr) (l : List KeyD), vs = [.ref a] ∧ H a = some (.tup (l.map fun q => V.ref q.pa)) ∧ (∀ q ∈ l, KeyAt H q) ∧ GKeys l ∧ z = .bl true
theorem sc_are_keys : FnScope ["thing", "one"] ["thing"] (defScope s_are_keys) := ⟨rfl, rfl, rfl, by decide +kernel, rfl, by decide +kernel, by decide +kernel⟩
theorem d_are_keys (T : Top K mg) : DefAt P w K mg base 4 "are_keys" ["thing"] (SpF ps_are_keys) := by
  refine def_of T.f_are_keys sc_are_keys (by rintro _ _ _ _ ⟨_, ⟨_, _, rfl, _⟩, _⟩; rfl) (fun _ _ _ _ _ _ us hl => match us, hl with | [_], _ => rfl) ?_
  intro f cdv A outer s H vs Q E hr h
  obtain ⟨z, ⟨a, l, rfl, ha, hks, ⟨g1, g2, g3⟩, rfl⟩, k⟩ := h
  obtain ⟨tM, hMOST_KEYS⟩ := T.c_MOST_KEYS
  refine ⟨_, (pss_cons (ps_if (PW.pt (pw_or (pt_not (pt_val (pe_callB call_isi (by rfl) T.g_isinstance PyProof.Rows.boot_isinstance (pa_cons (pv 0) (pa_cons (pe_bltn (v := .ty "tuple") (by rfl) T.g_tuple PyProof.Rows.boot_tuple rfl) pa_nil))))) (pw_or (pt_cmpR op_gt (pe_callB cr_lenS (by rfl) T.g_len PySem.boot_len (pa_cons (pv 0) pa_nil)) (pe_glob (v := .int 20) rfl hMOST_KEYS ⟨_, rfl⟩) (nomark _)) (pw_or1 (pt_not (pt_val (pe_callB (cr_all rfl) (by rfl) T.g_all PyProof.Rows.boot_all (pa_cons (pe_lc (own := [("one", 1)]) (g := (gName 1)) (tt := tYes) rfl sc_are_keys.nd (pi_tup (pv 0)) (blkOk_by (own := [("one", 1)]) (N := ["thing", "one"]) (sc := defScope s_are_keys) (by decide +kernel)) (fun _ _ _ _ _ => (pg_name (i := 1) sc_are_keys.nd rfl (Or.inl rfl))) (fun _ _ _ _ _ => pts_nil) (fun _ _ _ _ _ => (pe_callD (d_is_known T) hr rfl (pa_cons (pv 1) pa_nil)))) pa_nil)))))))) (pss_one (ps_ret pe_bl)) pss_nil) (pss_one (ps_ret (pe_callD (d_rises T) hr rfl (pa_cons (pe_lc (own := [("one", 1)]) (g := (gName 1)) (tt := tYes) rfl sc_are_keys.nd (pi_tup (pv 0)) (blkOk_by (own := [("one", 1)]) (N := ["thing", "one"]) (sc := defScope s_are_keys) (by decide +kernel)) (fun _ _ _ _ _ => (pg_name (i := 1) sc_are_keys.nd rfl (Or.inl rfl))) (fun _ _ _ _ _ => pts_nil) (fun _ _ _ _ _ => (pe_ix (ix_tupK (K := K) rfl) (pv 1) pe_int (fun _ _ => rfl)))) pa_nil))))), ?_⟩
  refine q_when (b := false) (et_is (et_or (et_not (et_B (ev_cb (ea_cons (ev_var rfl) (ea_cons ev_c ea_nil)) (rc_isi (b := true) (ty_tup ha) (by decide +kernel))))) fun _ =>
    et_or (et_test (ev_op (ev_lenT (ev_var rfl) ha) ev_c rv_I0)) fun _ => et_not (et_B (ev_all_true (el_lcT (fun _ => true) (fun _ => .bl true) (ev_var rfl) ha (by omega) (fun _ => rfl) (fun _ _ _ _ => el_yes (b := true)) fun x H2 e2 hx _ =>
      ev_callF (ea_cons (ev_var rfl) ea_nil) fun H3 e3 => ⟨x, rfl, (hks x hx).ex (e2.trans e3), (g2 x hx).1, (g2 x hx).2, rfl⟩)))) ?_) (fun q => by cases q) fun _ H1 e1 => ?_
  · rw [List.length_map, decide_eq_false (by omega)]
    rfl
  refine s_ret (ev_callFL (el_lcT (fun _ => true) (fun q : KeyD => V.str q.key) (ev_var rfl) (e1 _ _ ha) (by omega) (fun _ => rfl) (fun _ _ _ _ => el_yes (b := true)) fun x H2 e2 hx _ =>
    ev_at (ev_var rfl) (e2 _ _ (e1 _ _ (hks x hx).p)) (atI_nat (j := 0) rfl)) fun p H2 hp e2 => ⟨p, rfl, rfl, .inr (.inl ⟨l.map (·.key), ?_, by rw [List.length_map]; omega, g3⟩)⟩) fun H2 e2 => k H2 (e1.trans e2)
  rw [kept_all] at hp
  rw [hp, List.map_map]
  rfl

def ps_is_pane (vs : List V) (H : Hp) (z : V) : Prop := ∃ q : LP, vs = [.ref q.ad] ∧ LpAt H q ∧ GPane q ∧ z = .bl true
theorem sc_is_pane : FnScope ["thing", "name", "up", "box", "turn", "marks", "keys"] ["thing"] (defScope s_is_pane) := ⟨rfl, rfl, rfl, by decide +kernel, rfl, by decide +kernel, by decide +kernel⟩
theorem d_is_pane (T : Top K mg) : DefAt P w K mg base 5 "is_pane" ["thing"] (SpF ps_is_pane) := by
  refine def_of T.f_is_pane sc_is_pane (by rintro _ _ _ _ ⟨_, ⟨_, rfl, _⟩, _⟩; rfl) (fun _ _ _ _ _ _ us hl => match us, hl with | [_], _ => rfl) ?_
  intro f cdv A outer s H vs Q E hr h
  obtain ⟨z, ⟨q, rfl, ha, g, rfl⟩, k⟩ := h
  obtain ⟨tF, hFAR⟩ := T.c_FAR
  refine ⟨_, (pss_cons (ps_if (PW.pt (pw_or (pt_not (pt_val (pe_callB call_isi (by rfl) T.g_isinstance PyProof.Rows.boot_isinstance (pa_cons (pv 0) (pa_cons (pe_bltn (v := .ty "tuple") (by rfl) T.g_tuple PyProof.Rows.boot_tuple rfl) pa_nil))))) (pw_or1 (pt_cmpR op_ne (pe_callB cr_lenS (by rfl) T.g_len PySem.boot_len (pa_cons (pv 0) pa_nil)) pe_int (nomark _))))) (pss_one (ps_ret pe_bl)) pss_nil) (pss_cons (ps_asg (pv 0) (pg_tup rfl (pgs_cons (pg_name (i := 1) sc_is_pane.nd rfl (Or.inl rfl)) (pgs_cons (pg_name (i := 2) sc_is_pane.nd rfl (Or.inl rfl)) (pgs_cons (pg_name (i := 3) sc_is_pane.nd rfl (Or.inl rfl)) (pgs_cons (pg_name (i := 4) sc_is_pane.nd rfl (Or.inl rfl)) (pgs_cons (pg_name (i := 5) sc_is_pane.nd rfl (Or.inl rfl)) (pgs_cons (pg_name (i := 6) sc_is_pane.nd rfl (Or.inl rfl)) pgs_nil)))))))) (pss_cons (ps_if (PW.pt (pw_or (pt_not (pt_val (pe_callD (d_is_name T) hr rfl (pa_cons (pv 1) pa_nil)))) (pw_or1 (pt_not (PW.pt (pw_or (pt_cmpR op_isN (pv 2) pe_non (nomark _)) (pw_or1 (pt_val (pe_callD (d_is_name T) hr rfl (pa_cons (pv 2) pa_nil)))))))))) (pss_one (ps_ret pe_bl)) pss_nil) (pss_one (ps_ret (pe_and (pe_callD (d_is_box T) hr rfl (pa_cons (pv 3) pa_nil)) (pe_and (pe_callD (d_is_number T) hr rfl (pa_cons (pv 4) (pa_cons (pe_un un_neg (pe_glob (v := .int 1000000) rfl hFAR ⟨_, rfl⟩)) (pa_cons (pe_glob (v := .int 1000000) rfl hFAR ⟨_, rfl⟩) pa_nil)))) (pe_and (pe_callD (d_are_marks T) hr rfl (pa_cons (pv 5) pa_nil)) (pe_one (pe_callD (d_are_keys T) hr rfl (pa_cons (pv 6) pa_nil))))))))))), ?_⟩
  refine q_when (b := false) (et_is (et_or (et_not (et_B (ev_cb (ea_cons (ev_var rfl) (ea_cons ev_c ea_nil)) (rc_isi (b := true) (ty_tup ha.a) (by decide +kernel))))) fun _ =>
    et_test (ev_op (ev_lenT (ev_var rfl) ha.a) ev_c (rv_ne rfl))) rfl) (fun q => by cases q) fun _ H1 e1 => ?_
  refine q_unpack (ev_var rfl) (e1 _ _ ha.a) rfl fun H2 e2 => ?_
  refine ⟨_, _, rfl, _, _, rfl, _, _, rfl, _, _, rfl, _, _, rfl, _, _, rfl, rfl, ?_⟩
  have hb := ha.ex (e1.trans e2)
  refine q_when (b := false) (et_is (et_or (et_not (et_B (ev_callF (ea_cons (ev_var rfl) ea_nil) fun _ _ => ⟨_, rfl, g.nm.1, g.nm.2, rfl⟩))) fun _ =>
    et_not (a := true) ?_) ?_) (fun q => by cases q) fun _ H3 e3 => ?_
  · cases hu : q.up with
    | none => exact et_is (et_or (et_test (ev_op (ev_var rfl) ev_c rv_isN)) (b := true) fun z => by cases z) rfl
    | some m => exact et_is (et_or (et_test (ev_op (ev_var rfl) ev_c rv_isN)) fun z => et_B (ev_callF (ea_cons (ev_var rfl) ea_nil) fun _ _ => ⟨m, rfl, (g.up m hu).1, (g.up m hu).2, rfl⟩)) (by simp)
  · rfl
  have hc := hb.ex e3
  exact s_ret (ev_is (ev_andV (ev_callF (ea_cons (ev_var rfl) ea_nil) fun H4 e4 => ⟨_, _, _, _, _, rfl, e4 _ _ hc.b, g.l, g.t, g.w, g.h, rfl⟩) fun _ =>
    ev_andV (ev_callF (ea_cons (ev_var rfl) (ea_cons (ev_un ev_c ru_neg) (ea_cons ev_c ea_nil))) fun _ _ => ⟨_, _, _, rfl, g.turn.1, g.turn.2, rfl⟩) fun _ =>
      ev_andV (ev_callF (ea_cons (ev_var rfl) ea_nil) fun H4 e4 => ⟨_, _, rfl, e4 _ _ hc.m, g.marks.1, g.marks.2.1, Nat.le_trans g.marks.2.2 (by decide), rfl⟩) fun _ =>
        ev_callF (ea_cons (ev_var rfl) ea_nil) fun H4 e4 => ⟨_, _, rfl, e4 _ _ hc.k, fun z hz => (hc.ks z hz).ex e4, g.keys, rfl⟩) rfl) fun H4 e4 => k H4 (((e1.trans e2).trans e3).trans e4)
end
end Kp
set_option Elab.async false
set_option linter.all false
set_option maxRecDepth 100000
set_option maxHeartbeats 4000000
/-! the looks at plans -/
namespace Kp
open PySem PySem.Spec PyProof.Rows L2 Evl
theorem nil_shaped : SeqAt.shaped (.tuple []) = true := by simp [SeqAt.shaped, PyData.canLay0, PyData.canLayAll0, PyData.depth, PyData.depthAll]
theorem two_shaped (i j : Int) : SeqAt.shaped (.tuple [.int i, .int j]) = true := by simp [SeqAt.shaped, PyData.canLay0, PyData.canLayAll0, PyData.depth, PyData.depthAll]
theorem deed_lay {q : Deed} (h : GDeed q) : q.d.canLay0 = true := SeqAt.canLay_of_shaped (deed_shaped h)
theorem deed_depth (q : Deed) : q.d.depth ≤ 1 := by
  cases q <;> simp [Deed.d, PyData.depth, PyData.depthAll]
theorem deeds_shaped {l : List KeyD} (h : ∀ z ∈ l, GDeed z.deed) : SeqAt.shaped (.list (l.map fun z => z.deed.d)) = true := by
  have h1 : ∀ l : List KeyD, (∀ z ∈ l, GDeed z.deed) → PyData.canLayAll0 (l.map fun z => z.deed.d) = true ∧ PyData.depthAll (l.map fun z => z.deed.d) ≤ 1 := by
    intro l
    induction l with
    | nil => intro _; simp [PyData.canLayAll0, PyData.depthAll]
    | cons a l ih =>
      intro h
      obtain ⟨i1, i2⟩ := ih fun z hz => h z (List.mem_cons_of_mem _ hz)
      have d1 := deed_lay (h a List.mem_cons_self)
      have d2 := deed_depth a.deed
      rw [List.map_cons]
      refine ⟨by rw [PyData.canLayAll0, d1, i1]; rfl, ?_⟩
      rw [PyData.depthAll]
      omega
  obtain ⟨h2, h3⟩ := h1 l h
  unfold SeqAt.shaped
  rw [PyData.canLay0, PyData.depth, h2]
  simp
  omega
section
variable {P : Program} {w : World} {K : PySem.W.Frag} {mg : Str → Option Value} {base : Heap}
theorem deeds_dp {H : Hp} {p : Addr} {l : List KeyD} (hp : H p = some (.lst (l.map fun z => V.ref z.da))) (hk : ∀ z ∈ l, KeyAt H z) : Dp K H (.ref p) (.list (l.map fun z => z.deed.d)) := by
  refine .lst (sq_of hp) ?_
  clear hp
  induction l with
  | nil => exact .nil
  | cons a l ih => exact .cons (deed_dp (hk a List.mem_cons_self).d H (Ex.refl H)) (ih fun z hz => hk z (List.mem_cons_of_mem _ hz))
def ps_is_ground (vs : List V) (H : Hp) (z : V) : Prop := ∃ q : LP, vs = [.ref q.ad] ∧ LpAt H q ∧ (q.nm = 0 ∧ q.up = none ∧ q.l = 0 ∧ q.t = 0 ∧ q.turn = 0 ∧ q.marks = []) ∧ q.keys.length ≤ 20 ∧ (∀ z ∈ q.keys, GDeed z.deed ∧ z.deed ≠ .shut) ∧ z = .bl true
theorem sc_is_ground : FnScope ["pane", "name", "up", "box", "turn", "marks", "keys", "key", "deed"] ["pane"] (defScope s_is_ground) := ⟨rfl, rfl, rfl, by decide +kernel, rfl, by decide +kernel, by decide +kernel⟩
theorem d_is_ground (T : Top K mg) : DefAt P w K mg base 1 "is_ground" ["pane"] (SpF ps_is_ground) := by
  refine def_of T.f_is_ground sc_is_ground (by rintro _ _ _ _ ⟨_, ⟨_, rfl, _⟩, _⟩; rfl) (fun _ _ _ _ _ _ us hl => match us, hl with | [_], _ => rfl) ?_
  intro f cdv A outer s H vs Q E hr h
  obtain ⟨z, ⟨q, rfl, ha, ⟨g1, g2, g3, g4, g5, g6⟩, gl, gk, rfl⟩, k⟩ := h
  refine ⟨_, (pss_cons (ps_asg (pv 0) (pg_tup rfl (pgs_cons (pg_name (i := 1) sc_is_ground.nd rfl (Or.inl rfl)) (pgs_cons (pg_name (i := 2) sc_is_ground.nd rfl (Or.inl rfl)) (pgs_cons (pg_name (i := 3) sc_is_ground.nd rfl (Or.inl rfl)) (pgs_cons (pg_name (i := 4) sc_is_ground.nd rfl (Or.inl rfl)) (pgs_cons (pg_name (i := 5) sc_is_ground.nd rfl (Or.inl rfl)) (pgs_cons (pg_name (i := 6) sc_is_ground.nd rfl (Or.inl rfl)) pgs_nil)))))))) (pss_cons (ps_if (PW.pt (pw_or (pt_cmpR op_ne (pv 1) pe_int (nomark _)) (pw_or (pt_cmpR op_notN (pv 2) pe_non (nomark _)) (pw_or (pt_cmpR (op_neD hr.units) (pe_slice sl_tup (pv 3) po_none (po_some pe_int)) (pe_tup (pa_cons pe_int (pa_cons pe_int pa_nil))) (nomark _)) (pw_or (pt_cmpR op_ne (pv 4) pe_int (nomark _)) (pw_or1 (pt_cmpR (op_neD hr.units) (pv 5) (pe_tup pa_nil) (nomark _)))))))) (pss_one (ps_ret pe_bl)) pss_nil) (pss_one (ps_ret (pe_cmpR (op_notInD (units65 hr)) (pe_tup (pa_cons pe_str pa_nil)) (pe_lc (own := [("key", 7), ("deed", 8)]) (g := (gTup K 2 (gCons (gName 7) (gCons (gName 8) gNil)))) (tt := tYes) rfl sc_is_ground.nd (pi_tup (pv 6)) (blkOk_by (own := [("key", 7), ("deed", 8)]) (N := ["pane", "name", "up", "box", "turn", "marks", "keys", "key", "deed"]) (sc := defScope s_is_ground) (by decide +kernel)) (fun _ _ _ _ _ => (pg_tup rfl (pgs_cons (pg_name (i := 7) sc_is_ground.nd rfl (Or.inl rfl)) (pgs_cons (pg_name (i := 8) sc_is_ground.nd rfl (Or.inl rfl)) pgs_nil)))) (fun _ _ _ _ _ => pts_nil) (fun _ _ _ _ _ => (pv 8))) (by rfl)))))), ?_⟩
  refine q_unpack (ev_var rfl) ha.a rfl fun H2 e2 => ?_
  refine ⟨_, _, rfl, _, _, rfl, _, _, rfl, _, _, rfl, _, _, rfl, _, _, rfl, rfl, ?_⟩
  rw [g1, g2, g5]
  have hb := ha.ex e2
  have hbox := hb.b
  rw [g3, g4] at hbox
  have hmk := hb.m
  rw [g6] at hmk
  refine q_when (b := false) (et_is (et_or (et_is (et_test (ev_op (ev_var rfl) ev_c (rv_ne rfl))) (show (!decide (V.int 0 = V.int 0)) = false by decide)) fun _ =>
    et_or (et_is (et_test (ev_op (ev_var rfl) ev_c rv_notN)) (show (!decide (upV none = V.non)) = false by decide)) fun _ =>
    et_or (et_test (ev_opUU (xs := [.int 0, .int 0]) (ys := [.int 0, .int 0]) (eu_slT (xs := [.int 0, .int 0, .int q.w, .int q.h]) (ev_var rfl) eo_none (eo_some ev_c) hbox (by show ¬ (HT.sIx 4 0 none = 0 ∧ HT.sIx 4 4 (some 2) = 4); decide)) (eu_tup (ea_cons ev_c (ea_cons ev_c ea_nil)) (by show 2 ≤ 100000; decide))
      fun p1 p2 H3 hp1 hp2 e3 => rv_neD (d := .tuple [.int 0, .int 0]) (e := .tuple [.int 0, .int 0]) (fun H4 e4 => .tup (st_of (e4 _ _ hp1)) (.cons (.int _) (.cons (.int _) .nil))) (fun H4 e4 => .tup (st_of (e4 _ _ hp2)) (.cons (.int _) (.cons (.int _) .nil))) (two_shaped _ _) (two_shaped _ _) (b := false) (by simp [PyData.eqv, PyData.eqvAll]))) fun _ =>
    et_or (et_is (et_test (ev_op (ev_var rfl) ev_c (rv_ne rfl))) (show (!decide (V.int 0 = V.int 0)) = false by decide)) fun _ =>
    et_test (ev_opU (xs := []) (ev_var rfl) (eu_tup ea_nil (by show 0 ≤ 100000; decide)) fun p H3 hp e3 => rv_neD (d := .tuple []) (e := .tuple []) (fun H4 e4 => .tup (st_of (e4 _ _ (e3 _ _ hmk))) .nil) (fun H4 e4 => .tup (st_of (e4 _ _ hp)) .nil) nil_shaped nil_shaped (b := false) (by simp [PyData.eqv, PyData.eqvAll])))
    rfl) (fun q => by cases q) fun _ H3 e3 => ?_
  have hc := hb.ex e3
  refine s_ret (ev_opUL (xs := [.str "shut"]) (ys := q.keys.map fun z => V.ref z.da) (eu_tup (ea_cons ev_c ea_nil) (by show 1 ≤ 100000; decide))
    (el_is (el_lcTg (fun _ => true) (fun z : KeyD => V.ref z.da) (fun z : KeyD => [some (.ref q.ad), some (.int 0), some (upV none), some (.ref q.ba), some (.int 0), some (.ref q.ma), some (.ref q.ka), some (.str z.key), some (.ref z.da)]) (ev_var rfl) hc.k (by omega)
      (fun x H4 e4 hx Q hQ => ⟨_, _, rfl, st_of (e4 _ _ (hc.ks x hx).p), rfl, _, _, rfl, _, _, rfl, rfl, hQ H4 (Ex.refl H4)⟩) (fun _ => rfl) (fun _ _ _ _ => el_yes (b := true)) fun x H4 e4 hx _ => ev_var rfl) kept_all)
    fun p1 p2 H4 hp1 hp2 e4 H5 e5 Q' q' => ⟨.tuple [.str "shut"], q.keys.map fun z => z.deed.d, .tup (st_of (e5 _ _ hp1)) (.cons (.str _) .nil), deeds_dp (e5 _ _ hp2) (fun z hz => (hc.ks z hz).ex (e4.trans e5)), shut_shaped, deeds_shaped fun z hz => (gk z hz).1, ?_⟩) fun H4 e4 => k H4 ((e2.trans e3).trans e4)
  have hn : (!(q.keys.map fun z => z.deed.d).any fun z => PyData.eqv z (.tuple [.str "shut"])) = true := by
    rw [Bool.not_eq_true', List.any_eq_false]
    intro d hd
    obtain ⟨z, hz, rfl⟩ := List.mem_map.mp hd
    rw [deed_shut]
    have := (gk z hz).2
    cases hq : z.deed <;> simp [Deed.isShut]
    exact this hq
  show Q' (.bl (!(q.keys.map fun z => z.deed.d).any fun z => PyData.eqv z (.tuple [.str "shut"]))) H5
  rw [hn]
  exact q' H5 (Ex.refl H5)
end
end Kp
set_option Elab.async false
set_option linter.all false
set_option maxRecDepth 100000
set_option maxHeartbeats 4000000
/-! is_rooted, is_plan, names -/
namespace Kp
open PySem PySem.Spec PyProof.Rows L2 Evl
/-- what is known, what is left -/
structure RInv (r : List LP) (kvs : List (Key × V)) (M : List LP) : Prop where
  sub : ∀ q ∈ M, q ∈ r
  z : hasK kvs 0 = true
  all : ∀ q ∈ r, q ∈ M ∨ hasK kvs q.nm = true
  len : kvs.length ≤ 1 + 40 * (40 - M.length)
  ml : M.length ≤ 39
theorem RInv.go {rk : Int → Nat} {g : LP} {r : List LP} {kvs : List (Key × V)} {M : List LP} (h : GPlan rk g r) (i : RInv r kvs M) (hM : M ≠ []) : ∃ q ∈ M, ∃ m, q.up = some m ∧ hasK kvs m = true := by
  have key : ∀ k, ∀ q ∈ M, rk q.nm < k → ∃ q ∈ M, ∃ m, q.up = some m ∧ hasK kvs m = true := by
    intro k
    induction k with
    | zero => intro q _ hk; omega
    | succ k ih =>
      intro q hq hk
      obtain ⟨m, hm, hn, hr, _⟩ := h.up q (i.sub q hq)
      obtain ⟨p, hp, hpm⟩ := List.mem_map.mp hn
      rcases List.mem_cons.mp hp with rfl | hp
      · exact ⟨q, hq, m, hm, by rw [← hpm, h.g0.1]; exact i.z⟩
      · rcases i.all p hp with hpM | hpk
        · exact ih p hpM (by rw [hpm]; omega)
        · exact ⟨q, hq, m, hm, by rw [← hpm]; exact hpk⟩
  match M, hM with
  | q :: M', _ => exact key (rk q.nm + 1) q List.mem_cons_self (by omega)
def upKn (kvs : List (Key × V)) (q : LP) : Bool := match q.up with
  | none => false
  | some m => hasK kvs m
structure FInv (kvs : List (Key × V)) (M : List LP) (i : Nat) (kvs' : List (Key × V)) : Prop where
  mono : ∀ n, hasK kvs n = true → hasK kvs' n = true
  new : ∀ q ∈ M.take i, upKn kvs q = true → hasK kvs' q.nm = true
  len : kvs'.length ≤ kvs.length + i
theorem FInv.next {kvs kvs' : List (Key × V)} {M : List LP} {i : Nat} {q : LP} (h : FInv kvs M i kvs') (hq : M[i]? = some q) (hu : upKn kvs' q = true) : FInv kvs M (i + 1) (putK kvs' (Sum.inl q.nm) (.bl true)) := by
  refine ⟨fun n hn => ?_, fun p hp hk => ?_, ?_⟩
  · rw [hasK_put, h.mono n hn, Bool.or_true]
  · rw [List.take_add_one, hq] at hp
    rw [hasK_put]
    rcases List.mem_append.mp hp with hp | hp
    · rw [h.new p hp hk, Bool.or_true]
    · have e : p = q := by simpa using hp
      subst e
      simp
  · have := put_len kvs' (Sum.inl q.nm : Key) (.bl true)
    have := h.len
    omega
theorem FInv.skip {kvs kvs' : List (Key × V)} {M : List LP} {i : Nat} {q : LP} (h : FInv kvs M i kvs') (hq : M[i]? = some q) (hu : upKn kvs' q = false) : FInv kvs M (i + 1) kvs' := by
  refine ⟨h.mono, fun p hp hk => ?_, Nat.le_trans h.len (by omega)⟩
  rw [List.take_add_one, hq] at hp
  rcases List.mem_append.mp hp with hp | hp
  · exact h.new p hp hk
  · have e : p = q := by simpa using hp
    subst e
    unfold upKn at hk hu
    cases hp2 : p.up with
    | none =>
      rw [hp2] at hk
      cases hk
    | some m =>
      rw [hp2] at hk hu
      have := h.mono m hk
      have hu' : hasK kvs' m = false := hu
      rw [this] at hu'
      cases hu'
theorem RInv.next {rk : Int → Nat} {g : LP} {r : List LP} {kvs kvs' : List (Key × V)} {M : List LP} (h : GPlan rk g r) (i : RInv r kvs M) (hM : M ≠ []) (f : FInv kvs M M.length kvs') :
    RInv r kvs' (M.filter fun q => !hasK kvs' q.nm) ∧ (M.filter fun q => !hasK kvs' q.nm).length < M.length := by
  have hl : (M.filter fun q => !hasK kvs' q.nm).length < M.length := by
    rw [List.length_filter_lt_length_iff_exists]
    obtain ⟨q, hq, m, hm, hk⟩ := i.go h hM
    refine ⟨q, hq, ?_⟩
    rw [f.new q (by rw [List.take_length]; exact hq) (by unfold upKn; rw [hm]; exact hk)]
    simp
  refine ⟨⟨fun q hq => i.sub q (List.mem_filter.mp hq).1, f.mono 0 i.z, fun q hq => ?_, ?_, ?_⟩, hl⟩
  · rcases i.all q hq with h1 | h1
    · by_cases e : hasK kvs' q.nm = true
      · exact .inr e
      · exact .inl (List.mem_filter.mpr ⟨h1, by simp [e]⟩)
    · exact .inr (f.mono _ h1)
  · have := f.len
    have := i.len
    have := i.ml
    omega
  · have := i.ml
    omega
section
variable {P : Program} {w : World} {K : PySem.W.Frag} {mg : Str → Option Value} {base : Heap}
def ps_plan (vs : List V) (H : Hp) (z : V) : Prop := ∃ (a : Addr) (L : List LP), vs = [.ref a] ∧ Pl H a L ∧ z = .bl true
theorem sc_is_rooted : FnScope ["panes", "known", "left", "later", "pane"] ["panes"] (defScope s_is_rooted) := ⟨rfl, rfl, rfl, by decide +kernel, rfl, by decide +kernel, by decide +kernel⟩
theorem d_is_rooted (T : Top K mg) : DefAt P w K mg base 1 "is_rooted" ["panes"] (SpF ps_plan) := by
  refine def_of T.f_is_rooted sc_is_rooted (by rintro _ _ _ _ ⟨_, ⟨_, _, rfl, _⟩, _⟩; rfl) (fun _ _ _ _ _ _ us hl => match us, hl with | [_], _ => rfl) ?_
  intro f cdv A outer s H vs Q E hr h
  obtain ⟨z, ⟨a, L, rfl, ⟨hp, rk, g, r, rfl, hG⟩, rfl⟩, k⟩ := h
  refine ⟨_, (pss_cons (ps_set (i := 1) sc_is_rooted.nd rfl (Or.inr rfl) (pe_disp (pps_cons pe_int pe_bl pps_nil) (by rfl) (by rfl) (fun z => by cases z) (by decide))) (pss_cons (ps_set (i := 2) sc_is_rooted.nd rfl (Or.inl rfl) (pe_callTy cr_listS (by rfl) T.g_list PyProof.Rows.boot_list (pa_cons (pe_slice sl_tup (pv 0) (po_some pe_int) po_none) pa_nil))) (pss_cons (ps_while PassesOwn.never (pt_cmpR (op_neNil hr.units0) (pv 2) (pe_lst pa_nil) (nomark _)) (pss_cons (ps_setLc (i := 3) (own := [("pane", 4)]) (g := (gName 4)) (tt := _) rfl sc_is_rooted.nd rfl rfl (sw_true rfl rfl rfl (by decide +kernel)) (pi_list (pv 2)) (blkOk_by (own := [("pane", 4)]) (N := ["panes", "known", "left", "later", "pane"]) (sc := defScope s_is_rooted) (by decide +kernel)) (fun _ _ _ _ _ => (pg_name (i := 4) sc_is_rooted.nd rfl (Or.inl rfl))) (fun _ _ _ _ _ => (pts_one (pt_cmp (pc_dnotin (hu_of hr) (pe_ix (ix_tupK (K := K) rfl) (pv 4) pe_int (fun _ _ => rfl)) (pv 1))))) (fun _ _ _ _ _ => (pv 4))) (pss_cons (ps_if (pt_cmpR op_eq (pe_callB cr_lenS (by rfl) T.g_len PySem.boot_len (pa_cons (pv 3) pa_nil)) (pe_callB cr_lenS (by rfl) T.g_len PySem.boot_len (pa_cons (pv 2) pa_nil)) (nomark _)) (pss_one (ps_ret pe_bl)) pss_nil) (pss_cons (ps_for PassesOwn.never rfl (pi_list (pv 2)) (pg_name (i := 4) sc_is_rooted.nd rfl (Or.inl rfl)) (pss_one (ps_if (pt_cmp (pc_din (hu_of hr) (pe_ix ix_tup (pv 4) pe_int (fun _ _ => rfl)) (pv 1))) (pss_one (ps_dput (hu_of hr) (pv 1) (pe_ix ix_tup (pv 4) pe_int (fun _ _ => rfl)) pe_bl rfl)) pss_nil))) (pss_one (ps_setLc (i := 2) (own := [("pane", 4)]) (g := (gName 4)) (tt := _) rfl sc_is_rooted.nd rfl rfl (sw_true rfl rfl rfl (by decide +kernel)) (pi_list (pv 2)) (blkOk_by (own := [("pane", 4)]) (N := ["panes", "known", "left", "later", "pane"]) (sc := defScope s_is_rooted) (by decide +kernel)) (fun _ _ _ _ _ => (pg_name (i := 4) sc_is_rooted.nd rfl (Or.inl rfl))) (fun _ _ _ _ _ => (pts_one (pt_cmp (pc_dnotin (hu_of hr) (pe_ix (ix_tupK (K := K) rfl) (pv 4) pe_int (fun _ _ => rfl)) (pv 1))))) (fun _ _ _ _ _ => (pv 4)))))))) (pss_one (ps_ret pe_bl))))), ?_⟩
  refine q_asgD (ed_disp1 ev_c ev_c) fun d H1 hd e1 hd1 => ?_
  refine q_asgL (el_listNU (eu_tail (ev_var rfl) (e1 _ _ hp.a))) fun lf H2 hlf e2 hlf2 => ?_
  have hrl : r.length ≤ 39 := by
    have := hG.len
    rw [List.length_cons] at this
    omega
  refine q_while (fun m σ' H' => ∃ (kvs : List (Key × V)) (M : List LP) (l : Addr) (v3 v4 : Option V), σ' = [some (.ref a), some (.ref d), some (.ref l), v3, v4] ∧ m = M.length ∧ Ex H H' ∧ H' d = some (.dK kvs) ∧ H' l = some (.lst (M.map fun q => V.ref q.ad)) ∧ RInv r kvs M) r.length
    ⟨_, r, lf, _, _, rfl, rfl, e1.trans e2, e2 _ _ hd1, hlf2, ⟨fun q hq => hq, rfl, fun q hq => .inl hq, by simp, hrl⟩⟩ ?_
  rintro m σ' H' ⟨kvs, M, l, v3, v4, rfl, rfl, eH, hd', hl', inv⟩
  have hML := inv.ml
  refine ⟨_, et_test (ev_opL (ev_var rfl) (el_lst ea_nil (by show 0 ≤ 100000; decide)) fun p H3 hp3 e3 => rv_neNil (e3 _ _ hl') hp3), fun hb H3 e3 => ⟨_, fun _ _ h => h, ?_⟩, fun hb H3 e3 => s_ret ev_c fun H4 e4 => k H4 ((eH.trans e3).trans e4)⟩
  have hM : M ≠ [] := fun e => by
    rw [e] at hb
    cases hb
  have hd3 := e3 _ _ hd'
  have hl3 := e3 _ _ hl'
  have eH3 := eH.trans e3
  have ats : ∀ q ∈ M, ∀ H4, Ex H H4 → LpAt H4 q := fun q hq H4 e4 => (hp.ps q (List.mem_cons_of_mem _ (inv.sub q hq))).ex e4
  have ups : ∀ q ∈ M, ∃ m, q.up = some m := fun q hq => by
    obtain ⟨m, hm, _⟩ := hG.up q (inv.sub q hq)
    exact ⟨m, hm⟩
  -- later
  refine q_asgL (el_lcLa (fun q => !upKn kvs q) (fun q : LP => V.ref q.ad) (ev_var rfl) hl3 (by omega) (fun _ => rfl) (fun q H4 e4 hq => ?_) (fun q H4 e4 hq _ => ev_var rfl)) fun lt H4 hlt e4 hlt4 => ?_
  · obtain ⟨m, hm⟩ := ups q hq
    have hq4 := (ats q hq H4 (eH3.trans e4)).a
    rw [hm] at hq4
    refine et_is (et_dnotin (ev_at (v := .int m) (ev_var rfl) hq4 (atI_nat (j := 1) rfl)) (ev_var rfl) (e4 _ _ hd3)) ?_
    unfold upKn
    rw [hm]
  have hd4 := e4 _ _ hd3
  have hl4 := e4 _ _ hl3
  refine q_when (b := false) (et_is (et_test (ev_op (ev_len (ev_var rfl) (sq_of hlt4)) (ev_len (ev_var rfl) (sq_of hl4)) (rv_eq rfl))) ?_) (fun q => by cases q) fun _ H5 e5 => ?_
  · refine decide_eq_false fun q => ?_
    have q' := V.int.inj q
    unfold kept at q'
    rw [List.length_map, List.length_map] at q'
    have hlt : (M.filter fun q => !upKn kvs q).length < M.length := by
      rw [List.length_filter_lt_length_iff_exists]
      obtain ⟨q, hq, m, hm, hk⟩ := inv.go hG hM
      refine ⟨q, hq, ?_⟩
      unfold upKn
      rw [hm]
      simp [hk]
    omega
  have hd5 := e5 _ _ hd4
  have hl5 := e5 _ _ hl4
  have eH5 := (eH3.trans e4).trans e5
  -- for pane in left
  refine q_forLn (xs := M.map fun q => V.ref q.ad) (ev_var rfl) (sq_of hl5) (fun i σ2 H6 => ∃ (kvs' : List (Key × V)) (v4 : Option V), σ2 = [some (.ref a), some (.ref d), some (.ref l), some (.ref lt), v4] ∧ Ex H H6 ∧ H6 d = some (.dK kvs') ∧ H6 l = some (.lst (M.map fun q => V.ref q.ad)) ∧ FInv kvs M i kvs')
    (fun H6 e6 => ⟨kvs, _, rfl, eH5.trans e6, e6 _ _ hd5, e6 _ _ hl5, ⟨fun _ h => h, fun q hq => by simp at hq, by omega⟩⟩) (fun i σ2 H6 _ ⟨_, _, _, _, _, h6, _⟩ => sq_of h6) ?_ ?_
  · rintro i x σ2 H6 hx ⟨kvs', v4', rfl, eH6, hd6, hl6, fi⟩
    rw [List.getElem?_map] at hx
    cases hy : M[i]? with
    | none =>
      rw [hy] at hx
      cases hx
    | some q =>
      rw [hy] at hx
      obtain rfl : V.ref q.ad = x := Option.some.inj hx
      have hq := List.mem_of_getElem? hy
      obtain ⟨m, hm⟩ := ups q hq
      have hq6 := (ats q hq H6 eH6).a
      have hk : hasK kvs' m = upKn kvs' q := by
        unfold upKn
        rw [hm]
      rw [hm] at hq6
      have hil : i < M.length := (List.getElem?_eq_some_iff.mp hy).1
      refine s_when (et_din (n := m) (ev_at (v := .int m) (ev_var rfl) hq6 (atI_nat (j := 1) rfl)) (ev_var rfl) hd6) (fun ht H7 e7 => ?_) (fun hf H7 e7 => ⟨kvs', _, rfl, eH6.trans e7, e7 _ _ hd6, e7 _ _ hl6, fi.skip hy (by rw [← hk]; exact hf)⟩)
      have hl7 := e7 _ _ hl6
      refine s_dput (n := q.nm) ev_c (ev_var rfl) (ev_at (ev_var rfl) (e7 _ _ hq6) (atI_nat (j := 0) rfl)) (e7 _ _ hd6) (by have := fi.len; have := inv.len; omega) fun H8 e8 => ?_
      exact ⟨_, _, rfl, Ex.mut ((eH6.trans e7).trans e8) hd, upd_same, by rw [upd_ne (ne_of (e8 _ _ hl7) (e8 _ _ (e7 _ _ hd6)) (by intro z; cases z))]; exact e8 _ _ hl7, fi.next hy (by rw [← hk]; exact ht)⟩
  · rintro σ2 H6 ⟨kvs', v4', rfl, eH6, hd6, hl6, fi⟩
    rw [List.length_map] at fi
    refine s_asgL (el_lcLa (fun q => !hasK kvs' q.nm) (fun q : LP => V.ref q.ad) (ev_var rfl) hl6 (by omega) (fun _ => rfl) (fun q H7 e7 hq => ?_) (fun q H7 e7 hq _ => ev_var rfl)) fun l2 H7 hl2 e7 hl27 => ?_
    · exact et_is (et_dnotin (ev_at (ev_var rfl) (ats q hq H7 (eH6.trans e7)).a (atI_nat (j := 0) rfl)) (ev_var rfl) (e7 _ _ hd6)) rfl
    · obtain ⟨inv', hlt'⟩ := inv.next hG hM fi
      exact ⟨_, hlt', _, _, l2, _, _, rfl, rfl, eH6.trans e7, e7 _ _ hd6, hl27, inv'⟩
theorem sc_fits_in : FnScope ["panes", "pane"] ["panes"] (defScope s_fits_in) := ⟨rfl, rfl, rfl, by decide +kernel, rfl, by decide +kernel, by decide +kernel⟩
theorem d_fits_in (T : Top K mg) : DefAt P w K mg base 6 "fits_in" ["panes"] (SpF ps_plan) := by
  refine def_of T.f_fits_in sc_fits_in (by rintro _ _ _ _ ⟨_, ⟨_, _, rfl, _⟩, _⟩; rfl) (fun _ _ _ _ _ _ us hl => match us, hl with | [_], _ => rfl) ?_
  intro f cdv A outer s H vs Q E hr h
  obtain ⟨z, ⟨a, L, rfl, ⟨hp, rk, g, r, rfl, hG⟩, rfl⟩, k⟩ := h
  refine ⟨_, (pss_cons (ps_if (PW.pt (pw_or (pt_cmpR op_lt (pe_callB cr_lenS (by rfl) T.g_len PySem.boot_len (pa_cons (pv 0) pa_nil)) pe_int (nomark _)) (pw_or1 (pt_not (pt_val (pe_callB (cr_all rfl) (by rfl) T.g_all PyProof.Rows.boot_all (pa_cons (pe_lc (own := [("pane", 1)]) (g := (gName 1)) (tt := tYes) rfl sc_fits_in.nd (pi_tup (pv 0)) (blkOk_by (own := [("pane", 1)]) (N := ["panes", "pane"]) (sc := defScope s_fits_in) (by decide +kernel)) (fun _ _ _ _ _ => (pg_name (i := 1) sc_fits_in.nd rfl (Or.inl rfl))) (fun _ _ _ _ _ => pts_nil) (fun _ _ _ _ _ => (pe_callD (d_is_pane T) hr rfl (pa_cons (pv 1) pa_nil)))) pa_nil))))))) (pss_one (ps_ret pe_bl)) pss_nil) (pss_cons (ps_if (PW.pt (pw_or (pt_not (pt_val (pe_callD (d_rises T) hr rfl (pa_cons (pe_lc (own := [("pane", 1)]) (g := (gName 1)) (tt := tYes) rfl sc_fits_in.nd (pi_tup (pv 0)) (blkOk_by (own := [("pane", 1)]) (N := ["panes", "pane"]) (sc := defScope s_fits_in) (by decide +kernel)) (fun _ _ _ _ _ => (pg_name (i := 1) sc_fits_in.nd rfl (Or.inl rfl))) (fun _ _ _ _ _ => pts_nil) (fun _ _ _ _ _ => (pe_ix (ix_tupK (K := K) rfl) (pv 1) pe_int (fun _ _ => rfl)))) pa_nil)))) (pw_or1 (pt_not (pt_val (pe_callD (d_is_ground T) hr rfl (pa_cons (pe_ix ix_tup (pv 0) pe_int (fun _ _ => rfl)) pa_nil))))))) (pss_one (ps_ret pe_bl)) pss_nil) (pss_cons (ps_for PassesOwn.never rfl (pi_tup (pe_slice sl_tup (pv 0) (po_some pe_int) po_none)) (pg_name (i := 1) sc_fits_in.nd rfl (Or.inl rfl)) (pss_one (ps_if (PW.pt (pw_or (pt_cmpR op_isN (pe_ix ix_tup (pv 1) pe_int (fun _ _ => rfl)) pe_non (nomark _)) (pw_or1 (PW.pt (pw_and (pt_cmpR op_in_seq pe_str (pe_ix ix_tup (pv 1) pe_int (fun _ _ => rfl)) (by rfl)) (pw_and1 (pt_cmpR op_ne (pe_ix ix_tup (pv 1) pe_int (fun _ _ => rfl)) pe_int (nomark _)))))))) (pss_one (ps_ret pe_bl)) pss_nil))) (pss_one (ps_ret (pe_callD (d_is_rooted T) hr rfl (pa_cons (pv 0) pa_nil))))))), ?_⟩
  have hlen := hG.len
  refine q_when (b := false) (et_is (et_or (et_test (ev_op (ev_lenT (ev_var rfl) hp.a) ev_c rv_I0)) fun _ => et_not (et_B (ev_all_true (el_lcT (fun _ => true) (fun _ => .bl true) (ev_var rfl) hp.a (by omega) (fun _ => rfl) (fun _ _ _ _ => el_yes (b := true)) fun q H2 e2 hq _ =>
    ev_callF (ea_cons (ev_var rfl) ea_nil) fun H3 e3 => ⟨q, rfl, (hp.ps q hq).ex (e2.trans e3), hG.each q hq, rfl⟩)))) ?_) (fun q => by cases q) fun _ H1 e1 => ?_
  · rw [List.map_cons, List.length_cons, decide_eq_false (by omega)]
    rfl
  have hp1 := hp.ex e1
  have hg : g ∈ g :: r := List.mem_cons_self
  refine q_when (b := false) (et_is (et_or (et_not (et_B (ev_callFL (el_lcT (fun _ => true) (fun q : LP => V.int q.nm) (ev_var rfl) hp1.a (by omega) (fun _ => rfl) (fun _ _ _ _ => el_yes (b := true)) fun q H2 e2 hq _ => ev_at (ev_var rfl) ((hp1.ps q hq).ex e2).a (atI_nat (j := 0) rfl))
    fun p H2 hp2 e2 => ⟨p, rfl, rfl, .inr (.inr ⟨(g :: r).map (·.nm), ?_, by rw [List.length_map]; omega, hG.rise⟩)⟩))) fun _ =>
    et_not (et_B (ev_callF (ea_cons (ev_at (ev_var rfl) hp1.a (atI_nat (j := 0) rfl)) ea_nil) fun H2 e2 => ⟨g, rfl, (hp1.ps g hg).ex e2, hG.g0, (hG.each g hg).keys.1, fun z hz => ⟨((hG.each g hg).keys.2.1 z hz).2, hG.gk z hz⟩, rfl⟩))) rfl) (fun q => by cases q) fun _ H2 e2 => ?_
  · rw [kept_all] at hp2
    rw [hp2, List.map_map]
    rfl
  have hp2 := hp1.ex e2
  have hp2a : H2 a = some (.tup (V.ref g.ad :: r.map fun q => V.ref q.ad)) := hp2.a
  refine q_forNT (xs := r.map fun q => V.ref q.ad) (eu_tail (ev_var rfl) hp2a) (fun p i σ' H' => ∃ v1, σ' = [some (.ref a), v1] ∧ Ex H2 H' ∧ H' p = some (.tup (r.map fun q => V.ref q.ad))) (fun p H3 _ e3 h3 => ⟨_, rfl, e3, h3⟩) (fun p i σ' H' _ ⟨_, _, _, h3⟩ => st_of h3) ?_ ?_
  · rintro p i x σ' H' hx ⟨v1, rfl, e3, h3⟩
    rw [List.getElem?_map] at hx
    cases hy : r[i]? with
    | none =>
      rw [hy] at hx
      cases hx
    | some q =>
      rw [hy] at hx
      obtain rfl : V.ref q.ad = x := Option.some.inj hx
      have hq := List.mem_of_getElem? hy
      obtain ⟨m, hm, _, _, hsh⟩ := hG.up q hq
      have hq3 := (hp2.ps q (List.mem_cons_of_mem _ hq)).ex e3
      have hqa := hq3.a
      rw [hm] at hqa
      refine s_when (b := false) (et_is (et_or (et_is (et_test (ev_op (ev_at (v := .int m) (ev_var rfl) hqa (atI_nat (j := 1) rfl)) ev_c rv_isN)) (show decide (V.int m = V.non) = false from decide_eq_false (by intro z; cases z))) fun _ =>
        et_and (et_test (ev_op ev_c (ev_at (ev_var rfl) hqa (atI_nat (j := 4) rfl)) (rv_isT (st_of hq3.m) rfl (flat_str _)))) fun _ => et_test (ev_op (ev_at (v := .int m) (ev_var rfl) hqa (atI_nat (j := 1) rfl)) ev_c (rv_ne rfl))) ?_) (fun q => by cases q) fun _ H4 e4 => ⟨_, rfl, e3.trans e4, e4 _ _ h3⟩
      rw [inV_str]
      by_cases hs : ("sheet" : Str) ∈ q.marks
      · rw [hsh hs]
        simp
      · simp [hs]
  · rintro p σ' H' ⟨v1, rfl, e3, h3⟩
    exact s_ret (ev_callF (ea_cons (ev_var rfl) ea_nil) fun H4 e4 => ⟨a, g :: r, rfl, ⟨hp2.ex (e3.trans e4), rk, g, r, rfl, hG⟩, rfl⟩) fun H4 e4 => k H4 (((e1.trans e2).trans e3).trans e4)
theorem sc_is_plan : FnScope ["thing"] ["thing"] (defScope s_is_plan) := ⟨rfl, rfl, rfl, by decide +kernel, rfl, by decide +kernel, by decide +kernel⟩
theorem d_is_plan (T : Top K mg) : DefAt P w K mg base 7 "is_plan" ["thing"] (SpF ps_plan) := by
  refine def_of T.f_is_plan sc_is_plan (by rintro _ _ _ _ ⟨_, ⟨_, _, rfl, _⟩, _⟩; rfl) (fun _ _ _ _ _ _ us hl => match us, hl with | [_], _ => rfl) ?_
  intro f cdv A outer s H vs Q E hr h
  obtain ⟨z, ⟨a, L, rfl, hp, rfl⟩, k⟩ := h
  obtain ⟨tM, hMOST_PANES⟩ := T.c_MOST_PANES
  refine ⟨_, (pss_one (ps_ret (pe_and (pe_callB call_isi (by rfl) T.g_isinstance PyProof.Rows.boot_isinstance (pa_cons (pv 0) (pa_cons (pe_bltn (v := .ty "tuple") (by rfl) T.g_tuple PyProof.Rows.boot_tuple rfl) pa_nil))) (pe_and (pe_cmpR op_le (pe_callB cr_lenS (by rfl) T.g_len PySem.boot_len (pa_cons (pv 0) pa_nil)) (pe_glob (v := .int 40) rfl hMOST_PANES ⟨_, rfl⟩) (nomark _)) (pe_one (pe_callD (d_fits_in T) hr rfl (pa_cons (pv 0) pa_nil))))))), ?_⟩
  refine s_ret (ev_is (ev_andV (ev_cb (ea_cons (ev_var rfl) (ea_cons ev_c ea_nil)) (rc_isi (b := true) (ty_tup hp.1.a) (by decide +kernel))) fun _ =>
    ev_andV (ev_is (ev_op (ev_lenT (ev_var rfl) hp.1.a) ev_c rv_I0) (congrArg V.bl (decide_eq_true ?_) : _ = V.bl true)) fun _ =>
      ev_callF (ea_cons (ev_var rfl) ea_nil) fun H1 e1 => ⟨a, L, rfl, hp.ex e1, rfl⟩) rfl) k
  have := hp.2.len
  rw [List.length_map]
  omega
def ps_seen (vs : List V) (H : Hp) (z : V) : Prop := ∃ (a : Addr) (L : List LP), vs = [.ref a] ∧ Pl H a L ∧ z = .non
theorem sc_see_plan : FnScope ["plan"] ["plan"] (defScope s_see_plan) := ⟨rfl, rfl, rfl, by decide +kernel, rfl, by decide +kernel, by decide +kernel⟩
theorem d_see_plan (T : Top K mg) : DefAt P w K mg base 8 "see_plan" ["plan"] (SpF ps_seen) := by
  refine def_of T.f_see_plan sc_see_plan (by rintro _ _ _ _ ⟨_, ⟨_, _, rfl, _⟩, _⟩; rfl) (fun _ _ _ _ _ _ us hl => match us, hl with | [_], _ => rfl) ?_
  intro f cdv A outer s H vs Q E hr h
  obtain ⟨z, ⟨a, L, rfl, hp, rfl⟩, k⟩ := h
  refine ⟨_, (pss_one (ps_if (pt_not (pt_val (pe_callD (d_is_plan T) hr rfl (pa_cons (pv 0) pa_nil)))) (pss_one ps_never) pss_nil)), ?_⟩
  exact s_when (b := false) (et_is (et_not (et_B (ev_callF (ea_cons (ev_var rfl) ea_nil) fun H1 e1 => ⟨a, L, rfl, hp.ex e1, rfl⟩))) rfl) (fun q => by cases q) fun _ H1 e1 => k H1 e1
def ps_has_name (z0 : V) (vs : List V) (H : Hp) (z : V) : Prop := ∃ (a : Addr) (L : List LP) (n : Int), vs = [.ref a, .int n] ∧ Pl H a L ∧ n ∈ names L ∧ z = z0
theorem Good.name {L : List LP} (h : Good L) {n : Int} (hn : n ∈ names L) : 0 ≤ n ∧ n ≤ 1000000 := by
  obtain ⟨rk, g, r, rfl, hG⟩ := h
  obtain ⟨q, hq, rfl⟩ := List.mem_map.mp hn
  exact (hG.each q hq).nm
theorem sc_has_name : FnScope ["plan", "thing", "pane"] ["plan", "thing"] (defScope s_has_name) := ⟨rfl, rfl, rfl, by decide +kernel, rfl, by decide +kernel, by decide +kernel⟩
theorem d_has_name (T : Top K mg) : DefAt P w K mg base 3 "has_name" ["plan", "thing"] (SpF (ps_has_name (.bl true))) := by
  refine def_of T.f_has_name sc_has_name (by rintro _ _ _ _ ⟨_, ⟨_, _, _, rfl, _⟩, _⟩; rfl) (fun _ _ _ _ _ _ us hl => match us, hl with | [_, _], _ => rfl) ?_
  intro f cdv A outer s H vs Q E hr h
  obtain ⟨z, ⟨a, L, n, rfl, hp, hn, rfl⟩, k⟩ := h
  refine ⟨_, (pss_one (ps_ret (pe_and (pe_callD (d_is_name T) hr rfl (pa_cons (pv 1) pa_nil)) (pe_one (pe_cmpR op_in_seq (pv 1) (pe_lc (own := [("pane", 2)]) (g := (gName 2)) (tt := tYes) rfl sc_has_name.nd (pi_tup (pv 0)) (blkOk_by (own := [("pane", 2)]) (N := ["plan", "thing", "pane"]) (sc := defScope s_has_name) (by decide +kernel)) (fun _ _ _ _ _ => (pg_name (i := 2) sc_has_name.nd rfl (Or.inl rfl))) (fun _ _ _ _ _ => pts_nil) (fun _ _ _ _ _ => (pe_ix (ix_tupK (K := K) rfl) (pv 2) pe_int (fun _ _ => rfl)))) (by rfl)))))), ?_⟩
  refine s_ret (ev_is (ev_andV (ev_callF (ea_cons (ev_var rfl) ea_nil) fun _ _ => ⟨n, rfl, (hp.2.name hn).1, (hp.2.name hn).2, rfl⟩) fun _ =>
    ev_opL (ev_var rfl) (el_is (ys := (names L).map V.int) (el_lcT (fun _ => true) (fun q : LP => V.int q.nm) (ev_var rfl) hp.1.a hp.len (fun _ => rfl) (fun _ _ _ _ => el_yes (b := true)) fun q H2 e2 hq _ => ev_at (ev_var rfl) ((hp.1.ps q hq).ex e2).a (atI_nat (j := 0) rfl)) ?_)
      fun p H1 hp1 e1 => rv_isL (sq_of hp1) rfl (flat_int _)) ?_) k
  · rw [kept_all]
    unfold names
    rw [List.map_map]
    rfl
  · rw [inV_int, decide_eq_true hn]
    rfl
theorem sc_see_name : FnScope ["plan", "name"] ["plan", "name"] (defScope s_see_name) := ⟨rfl, rfl, rfl, by decide +kernel, rfl, by decide +kernel, by decide +kernel⟩
theorem d_see_name (T : Top K mg) : DefAt P w K mg base 4 "see_name" ["plan", "name"] (SpF (ps_has_name .non)) := by
  refine def_of T.f_see_name sc_see_name (by rintro _ _ _ _ ⟨_, ⟨_, _, _, rfl, _⟩, _⟩; rfl) (fun _ _ _ _ _ _ us hl => match us, hl with | [_, _], _ => rfl) ?_
  intro f cdv A outer s H vs Q E hr h
  obtain ⟨z, ⟨a, L, n, rfl, hp, hn, rfl⟩, k⟩ := h
  refine ⟨_, (pss_one (ps_if (pt_not (pt_val (pe_callD (d_has_name T) hr rfl (pa_cons (pv 0) (pa_cons (pv 1) pa_nil))))) (pss_one ps_never) pss_nil)), ?_⟩
  exact s_when (b := false) (et_is (et_not (et_B (ev_callF (ea_cons (ev_var rfl) (ea_cons (ev_var rfl) ea_nil)) fun H1 e1 => ⟨a, L, n, rfl, hp.ex e1, hn, rfl⟩))) rfl) (fun q => by cases q) fun _ H1 e1 => k H1 e1
end
end Kp
set_option Elab.async false
set_option linter.all false
set_option maxRecDepth 100000
set_option maxHeartbeats 4000000
/-! panes by names, lines of ups, places, what is at a point -/
namespace Kp
open PySem PySem.Spec PyProof.Rows L2 Evl
theorem kept_first {L : List LP} {n : Int} (hn : n ∈ names L) {g : LP → V} : (kept (fun q : LP => decide (q.nm = n)) g L)[0]? = some (g (byN L n)) := by
  unfold kept
  rw [List.getElem?_map]
  have e : (L.filter fun q => decide (q.nm = n))[0]? = L.find? fun q => decide (q.nm = n) := by
    rw [← List.head?_eq_getElem?, List.head?_filter]
  obtain ⟨q, hq, hqn⟩ := List.mem_map.mp hn
  have hs : (L.find? fun z => decide (z.nm = n)).isSome := List.find?_isSome.mpr ⟨q, hq, decide_eq_true hqn⟩
  obtain ⟨x, hx⟩ := Option.isSome_iff_exists.mp hs
  rw [e, hx]
  unfold byN
  rw [hx]
  rfl
theorem dec_int {i j : Int} : decide (V.int i = V.int j) = decide (i = j) := by
  by_cases e : i = j
  · rw [e]
    simp
  · simp [e]
section
variable {P : Program} {w : World} {K : PySem.W.Frag} {mg : Str → Option Value} {base : Heap}
def ps_name (r : List LP → Int → V) (vs : List V) (H : Hp) (z : V) : Prop := ∃ (a : Addr) (L : List LP) (n : Int), vs = [.ref a, .int n] ∧ Pl H a L ∧ n ∈ names L ∧ z = r L n
def ps_nameL (r : List LP → Int → List V) (vs : List V) (H : Hp) (z : List V) : Prop := ∃ (a : Addr) (L : List LP) (n : Int), vs = [.ref a, .int n] ∧ Pl H a L ∧ n ∈ names L ∧ z = r L n
theorem sc_the_pane : FnScope ["plan", "name", "pane"] ["plan", "name"] (defScope s_the_pane) := ⟨rfl, rfl, rfl, by decide +kernel, rfl, by decide +kernel, by decide +kernel⟩
theorem d_the_pane (T : Top K mg) : DefAt P w K mg base 1 "the_pane" ["plan", "name"] (SpF (ps_name fun L n => .ref (byN L n).ad)) := by
  refine def_of T.f_the_pane sc_the_pane (by rintro _ _ _ _ ⟨_, ⟨_, _, _, rfl, _⟩, _⟩; rfl) (fun _ _ _ _ _ _ us hl => match us, hl with | [_, _], _ => rfl) ?_
  intro f cdv A outer s H vs Q E hr h
  obtain ⟨z, ⟨a, L, n, rfl, hp, hn, rfl⟩, k⟩ := h
  refine ⟨_, (pss_one (ps_ret (pe_ix ix_list (pe_lc (own := [("pane", 2)]) (g := (gName 2)) (tt := _) rfl sc_the_pane.nd (pi_tup (pv 0)) (blkOk_by (own := [("pane", 2)]) (N := ["plan", "name", "pane"]) (sc := defScope s_the_pane) (by decide +kernel)) (fun _ _ _ _ _ => (pg_name (i := 2) sc_the_pane.nd rfl (Or.inl rfl))) (fun _ _ _ _ _ => (pts_one (pt_cmpR op_eq (pe_ix (ix_tupK (K := K) rfl) (pv 2) pe_int (fun _ _ => rfl)) (pv 1) (nomark _)))) (fun _ _ _ _ _ => (pv 2))) pe_int (fun _ _ => rfl)))), ?_⟩
  exact s_ret (ev_atNL (el_lcT (fun q : LP => decide (q.nm = n)) (fun q : LP => V.ref q.ad) (ev_var rfl) hp.1.a hp.len (fun _ => rfl)
    (fun q H1 e1 hq => et_is (et_test (ev_op (ev_at (v := .int q.nm) (ev_var rfl) ((hp.1.ps q hq).ex e1).a (atI_nat (j := 0) rfl)) (ev_var rfl) (rv_eq rfl))) dec_int) fun q H1 e1 hq _ => ev_var rfl) (atI_nat (j := 0) (kept_first hn))) k
def lineV (L : List LP) (n : Int) : List V := (line L n).map V.int
def restL (L : List LP) : Option Int → List Int
  | none => []
  | some m => line L m
theorem sc_going_up : FnScope ["plan", "name", "above", "line", "pane"] ["plan", "name"] (defScope s_going_up) := ⟨rfl, rfl, rfl, by decide +kernel, rfl, by decide +kernel, by decide +kernel⟩
theorem d_going_up (T : Top K mg) : DefAt P w K mg base 1 "going_up" ["plan", "name"] (SpN (ps_nameL lineV)) := by
  refine def_of T.f_going_up sc_going_up (by rintro _ _ _ _ ⟨_, ⟨_, _, _, rfl, _⟩, _⟩; rfl) (fun _ _ _ _ _ _ us hl => match us, hl with | [_, _], _ => rfl) ?_
  intro f cdv A outer s H vs Q E hr h
  obtain ⟨z, ⟨a, L, n, rfl, hp, hn, rfl⟩, k⟩ := h
  obtain ⟨rk, hG⟩ := hp.2
  refine ⟨_, (pss_cons (ps_set (i := 2) sc_going_up.nd rfl (Or.inl rfl) (pe_callTy (call_dictP rfl) (by rfl) T.g_dict PyProof.Rows.boot_dict (pa_cons (pe_lc (own := [("pane", 4)]) (g := (gName 4)) (tt := tYes) rfl sc_going_up.nd (pi_tup (pv 0)) (blkOk_by (own := [("pane", 4)]) (N := ["plan", "name", "above", "line", "pane"]) (sc := defScope s_going_up) (by decide +kernel)) (fun _ _ _ _ _ => (pg_name (i := 4) sc_going_up.nd rfl (Or.inl rfl))) (fun _ _ _ _ _ => pts_nil) (fun _ _ _ _ _ => (pe_tup (pa_cons (pe_ix (ix_tupK (K := K) rfl) (pv 4) pe_int (fun _ _ => rfl)) (pa_cons (pe_ix (ix_tupK (K := K) rfl) (pv 4) pe_int (fun _ _ => rfl)) pa_nil))))) pa_nil))) (pss_cons (ps_set (i := 3) sc_going_up.nd rfl (Or.inl rfl) (pe_lst pa_nil)) (pss_cons (ps_while PassesOwn.never (pt_cmpR op_notN (pv 1) pe_non (nomark _)) (pss_cons (ps_expr (pe_bm PySem.F.plainAttrs_list PySem.F.slot_list_append PySem.F.type_list_append mt_append (pv 3) (pa_cons (pv 1) pa_nil))) (pss_one (ps_set (i := 1) sc_going_up.nd rfl (Or.inl rfl) (pe_dget (hu_of hr) (pv 2) (pv 1) (fun _ _ => rfl)))))) (pss_one (ps_ret (pv 3)))))), ?_⟩
  have hkv : (L.map fun q : LP => ((V.int q.nm, upV q.up) : V × V)) = (tab L fun q => upV q.up).map fun kv => (kV kv.1, kv.2) := by
    unfold tab
    rw [List.map_map]
    rfl
  refine q_asgD (ed_is (ed_dictP (ep_is (ep_lcT (fun q : LP => (V.int q.nm, upV q.up)) (ev_var rfl) hp.1.a hp.len (fun _ => rfl)
    fun q H1 e1 hq => eu_tup (ea_cons (ev_at (ev_var rfl) ((hp.1.ps q hq).ex e1).a (atI_nat (j := 0) rfl)) (ea_cons (ev_at (ev_var rfl) ((hp.1.ps q hq).ex e1).a (atI_nat (j := 1) rfl)) ea_nil)) (by show 2 ≤ 100000; decide)) hkv)) (mergeK_nd (tab_nd hG.nodup _))) fun d H1 hd e1 hd1 => ?_
  refine q_asgL (el_lst ea_nil (by show 0 ≤ 100000; decide)) fun l H2 hl e2 hl2 => ?_
  refine q_while (fun m σ' H' => ∃ (o : Option Int) (xs : List Int) (v4 : Option V), σ' = [some (.ref a), some (upV o), some (.ref d), some (.ref l), v4] ∧ m = (restL L o).length ∧ Ex H1 H' ∧ H' l = some (.lst (xs.map V.int)) ∧ line L n = xs ++ restL L o ∧ (∀ m, o = some m → m ∈ names L)) (line L n).length
    ⟨some n, [], _, rfl, rfl, e2, hl2, rfl, fun m e => by cases e; exact hn⟩ ?_
  rintro m σ' H' ⟨o, xs, v4, rfl, rfl, eH, hl', hxs, ho⟩
  refine ⟨_, et_test (ev_op (ev_var rfl) ev_c rv_notN), fun hb H3 e3 => ⟨_, fun _ _ h => h, ?_⟩, fun hb H3 e3 => ?_⟩
  · cases o with
    | none => cases hb
    | some u =>
      have hu := ho u rfl
      have hlen : xs.length ≤ 42 := by
        have q := line_len L n
        rw [hxs, List.length_append] at q
        omega
      refine q_app (xs := xs.map V.int) (v := .int u) (e3 _ _ hl') (ev_var rfl) (ev_var rfl) (by rw [List.length_map]; omega) fun H4 e4 => ?_
      have hld : l ≠ d := fun q => by
        subst q
        rw [hd1] at hl
        cases hl
      have hd4 : (upd H4 l (.lst (xs.map V.int ++ [.int u]))) d = some (.dK (tab L fun q => upV q.up)) := by
        rw [upd_ne hld.symm]
        exact e4 _ _ (e3 _ _ (eH _ _ hd1))
      refine s_asg (ev_dget (ev_var rfl) (ev_var rfl) hd4 (tab_val hG.nodup _ hu)) fun H5 e5 => ?_
      have hrest : restL L (some u) = u :: restL L (byN L u).up := by
        show line L u = _
        rw [line_eq hG hu]
        cases (byN L u).up <;> rfl
      refine ⟨(restL L (byN L u).up).length, by rw [hrest, List.length_cons]; omega, (byN L u).up, xs ++ [u], _, rfl, rfl, (Ex.mut ((eH.trans e3).trans e4) hl).trans e5, ?_, ?_, fun m e => (hG.upN hu e).1⟩
      · rw [e5 _ _ upd_same, List.map_append]
        rfl
      · rw [hxs, hrest, List.append_assoc]
        rfl
  · cases o with
    | some u => cases hb
    | none =>
      refine s_ret (ev_var rfl) fun H4 e4 => k l H4 (fresh_back e1 hl) (((e1.trans eH).trans e3).trans e4) ?_
      rw [e4 _ _ (e3 _ _ hl')]
      unfold lineV
      rw [hxs]
      show _ = some (HO.lst ((xs ++ []).map V.int))
      rw [List.append_nil]
def insideV (L : List LP) (n : Int) : List V := kept (fun q : LP => decide (n ∈ line L q.nm)) (fun q : LP => V.int q.nm) L
theorem sc_inside : FnScope ["plan", "name", "pane"] ["plan", "name"] (defScope s_inside) := ⟨rfl, rfl, rfl, by decide +kernel, rfl, by decide +kernel, by decide +kernel⟩
theorem d_inside (T : Top K mg) : DefAt P w K mg base 2 "inside" ["plan", "name"] (SpN (ps_nameL insideV)) := by
  refine def_of T.f_inside sc_inside (by rintro _ _ _ _ ⟨_, ⟨_, _, _, rfl, _⟩, _⟩; rfl) (fun _ _ _ _ _ _ us hl => match us, hl with | [_, _], _ => rfl) ?_
  intro f cdv A outer s H vs Q E hr h
  obtain ⟨z, ⟨a, L, n, rfl, hp, hn, rfl⟩, k⟩ := h
  refine ⟨_, (pss_one (ps_ret (pe_lc (own := [("pane", 2)]) (g := (gName 2)) (tt := _) rfl sc_inside.nd (pi_tup (pv 0)) (blkOk_by (own := [("pane", 2)]) (N := ["plan", "name", "pane"]) (sc := defScope s_inside) (by decide +kernel)) (fun _ _ _ _ _ => (pg_name (i := 2) sc_inside.nd rfl (Or.inl rfl))) (fun _ _ _ _ _ => (pts_one (pt_cmpR (op_in_seqK (K := K) rfl) (pv 1) (pe_callD (d_going_up T) hr rfl (pa_cons (pv 0) (pa_cons (pe_ix (ix_tupK (K := K) rfl) (pv 2) pe_int (fun _ _ => rfl)) pa_nil))) (by rfl)))) (fun _ _ _ _ _ => (pe_ix (ix_tupK (K := K) rfl) (pv 2) pe_int (fun _ _ => rfl)))))), ?_⟩
  exact s_retL (el_lcT (fun q : LP => decide (n ∈ line L q.nm)) (fun q : LP => V.int q.nm) (ev_var rfl) hp.1.a hp.len (fun _ => rfl)
    (fun q H1 e1 hq => et_is (et_test (ev_opL (ev_var rfl) (el_callN (ea_cons (ev_var rfl) (ea_cons (ev_at (v := .int q.nm) (ev_var rfl) ((hp.1.ps q hq).ex e1).a (atI_nat (j := 0) rfl)) ea_nil)) fun H2 e2 => ⟨a, L, q.nm, rfl, hp.ex (e1.trans e2), nm_mem hq, rfl⟩)
      fun p H2 hp2 e2 => rv_isL (sq_of hp2) rfl (flat_int _))) inV_int) fun q H1 e1 hq _ => ev_at (ev_var rfl) ((hp.1.ps q hq).ex e1).a (atI_nat (j := 0) rfl)) k
def bxV (b : Int × Int × Int × Int) : List V := [.int b.1, .int b.2.1, .int b.2.2.1, .int b.2.2.2]
theorem sum_take1 {l : List Int} {i : Nat} {u : Int} (h : l[i]? = some u) (f : Int → Int) : ((l.take (i + 1)).map f).sum = ((l.take i).map f).sum + f u := by
  rw [List.take_add_one, h, List.map_append, List.sum_append]
  simp
theorem sc_placed : FnScope ["plan", "name", "left", "top", "up", "box", "own"] ["plan", "name"] (defScope s_placed) := ⟨rfl, rfl, rfl, by decide +kernel, rfl, by decide +kernel, by decide +kernel⟩
theorem d_placed (T : Top K mg) : DefAt P w K mg base 2 "placed" ["plan", "name"] (SpU (ps_nameL fun L n => bxV (plc L n))) := by
  refine def_of T.f_placed sc_placed (by rintro _ _ _ _ ⟨_, ⟨_, _, _, rfl, _⟩, _⟩; rfl) (fun _ _ _ _ _ _ us hl => match us, hl with | [_, _], _ => rfl) ?_
  intro f cdv A outer s H vs Q E hr h
  obtain ⟨z, ⟨a, L, n, rfl, hp, hn, rfl⟩, k⟩ := h
  obtain ⟨rk, hG⟩ := hp.2
  refine ⟨_, (pss_cons (ps_set (i := 2) sc_placed.nd rfl (Or.inl rfl) pe_int) (pss_cons (ps_set (i := 3) sc_placed.nd rfl (Or.inl rfl) pe_int) (pss_cons (ps_for PassesOwn.never rfl (pi_list (pe_callD (d_going_up T) hr rfl (pa_cons (pv 0) (pa_cons (pv 1) pa_nil)))) (pg_name (i := 4) sc_placed.nd rfl (Or.inl rfl)) (pss_cons (ps_set (i := 5) sc_placed.nd rfl (Or.inl rfl) (pe_ix ix_tup (pe_callD (d_the_pane T) hr rfl (pa_cons (pv 0) (pa_cons (pv 4) pa_nil))) pe_int (fun _ _ => rfl))) (pss_cons (ps_set (i := 2) sc_placed.nd rfl (Or.inl rfl) (pe_op op_add (pv 2) (pe_ix ix_tup (pv 5) pe_int (fun _ _ => rfl)))) (pss_one (ps_set (i := 3) sc_placed.nd rfl (Or.inl rfl) (pe_op op_add (pv 3) (pe_ix ix_tup (pv 5) pe_int (fun _ _ => rfl)))))))) (pss_cons (ps_set (i := 6) sc_placed.nd rfl (Or.inl rfl) (pe_ix ix_tup (pe_callD (d_the_pane T) hr rfl (pa_cons (pv 0) (pa_cons (pv 1) pa_nil))) pe_int (fun _ _ => rfl))) (pss_one (ps_ret (pe_tup (pa_cons (pv 2) (pa_cons (pv 3) (pa_cons (pe_ix ix_tup (pv 6) pe_int (fun _ _ => rfl)) (pa_cons (pe_ix ix_tup (pv 6) pe_int (fun _ _ => rfl)) pa_nil))))))))))), ?_⟩
  refine q_asg ev_c fun H1 e1 => q_asg ev_c fun H2 e2 => ?_
  have hp2 := hp.ex (e1.trans e2)
  refine q_forNLn (xs := lineV L n) (el_callN (ea_cons (ev_var rfl) (ea_cons (ev_var rfl) ea_nil)) fun H3 e3 => ⟨a, L, n, rfl, hp2.ex e3, hn, rfl⟩)
    (fun p i σ' H' => ∃ (v4 v5 v6 : Option V), σ' = [some (.ref a), some (.int n), some (.int (((line L n).take i).map fun u => (byN L u).l).sum), some (.int (((line L n).take i).map fun u => (byN L u).t).sum), v4, v5, v6] ∧ Ex H2 H' ∧ H' p = some (.lst (lineV L n)))
    (fun p H3 _ e3 h3 => ⟨_, _, _, rfl, e3, h3⟩) (fun p i σ' H' _ ⟨_, _, _, _, _, h3⟩ => sq_of h3) ?_ ?_
  · rintro p i x σ' H' hx ⟨v4, v5, v6, rfl, e3, h3⟩
    unfold lineV at hx
    rw [List.getElem?_map] at hx
    cases hy : (line L n)[i]? with
    | none =>
      rw [hy] at hx
      cases hx
    | some u =>
      rw [hy] at hx
      obtain rfl : V.int u = x := Option.some.inj hx
      have hu := line_names hG n hn u (List.mem_of_getElem? hy)
      refine q_asg (ev_at (ev_callF (ea_cons (ev_var rfl) (ea_cons (ev_var rfl) ea_nil)) fun H4 e4 => ⟨a, L, u, rfl, hp2.ex (e3.trans e4), hu, rfl⟩) ((hp2.ex e3).byN hu).a (atI_nat (j := 2) rfl)) fun H4 e4 => ?_
      have hb4 := (((hp2.ex e3).byN hu).ex e4).b
      refine q_asg (ev_op (ev_var rfl) (ev_at (ev_var rfl) hb4 (atI_nat (j := 0) rfl)) rv_I0) fun H5 e5 => ?_
      refine s_asg (ev_op (ev_var rfl) (ev_at (ev_var rfl) (e5 _ _ hb4) (atI_nat (j := 1) rfl)) rv_I0) fun H6 e6 => ?_
      refine ⟨some (.int u), some (.ref (byN L u).ba), v6, ?_, ((e3.trans e4).trans e5).trans e6, e6 _ _ (e5 _ _ (e4 _ _ h3))⟩
      rw [sum_take1 hy, sum_take1 hy]
      rfl
  · rintro p σ' H' ⟨v4, v5, v6, rfl, e3, h3⟩
    unfold lineV
    rw [List.length_map, List.take_length]
    have hp3 := hp2.ex e3
    refine q_asg (ev_at (ev_callF (ea_cons (ev_var rfl) (ea_cons (ev_var rfl) ea_nil)) fun H4 e4 => ⟨a, L, n, rfl, hp3.ex e4, hn, rfl⟩) (hp3.byN hn).a (atI_nat (j := 2) rfl)) fun H4 e4 => ?_
    have hb4 := ((hp3.byN hn).ex e4).b
    exact s_retU (eu_tup (ea_cons (ev_var rfl) (ea_cons (ev_var rfl) (ea_cons (ev_at (ev_var rfl) hb4 (atI_nat (j := 2) rfl)) (ea_cons (ev_at (ev_var rfl) hb4 (atI_nat (j := 3) rfl)) ea_nil)))) (by show 4 ≤ 100000; decide))
      fun q H5 hq e5 h5 => k q H5 (fresh_back (((e1.trans e2).trans e3).trans e4) hq) ((((e1.trans e2).trans e3).trans e4).trans e5) h5
def ps_has_point (vs : List V) (H : Hp) (z : V) : Prop := ∃ (a : Addr) (b : Int × Int × Int × Int) (x y : Int), vs = [.ref a, .int x, .int y] ∧ H a = some (.tup (bxV b)) ∧ z = .bl (inB b x y)
theorem sc_has_point : FnScope ["box", "x", "y"] ["box", "x", "y"] (defScope s_has_point) := ⟨rfl, rfl, rfl, by decide +kernel, rfl, by decide +kernel, by decide +kernel⟩
theorem d_has_point (T : Top K mg) : DefAt P w K mg base 1 "has_point" ["box", "x", "y"] (SpF ps_has_point) := by
  refine def_of T.f_has_point sc_has_point (by rintro _ _ _ _ ⟨_, ⟨_, _, _, _, rfl, _⟩, _⟩; rfl) (fun _ _ _ _ _ _ us hl => match us, hl with | [_, _, _], _ => rfl) ?_
  intro f cdv A outer s H vs Q E hr h
  obtain ⟨z, ⟨a, b, x, y, rfl, ha, rfl⟩, k⟩ := h
  refine ⟨_, (pss_one (ps_ret (pe_and (pe_chain op_le op_lt (pe_ix ix_tup (pv 0) pe_int (fun _ _ => rfl)) (pv 1) (pe_op op_add (pe_ix ix_tup (pv 0) pe_int (fun _ _ => rfl)) (pe_ix ix_tup (pv 0) pe_int (fun _ _ => rfl)))) (pe_one (pe_chain op_le op_lt (pe_ix ix_tup (pv 0) pe_int (fun _ _ => rfl)) (pv 2) (pe_op op_add (pe_ix ix_tup (pv 0) pe_int (fun _ _ => rfl)) (pe_ix ix_tup (pv 0) pe_int (fun _ _ => rfl)))))))), ?_⟩
  exact s_ret (ev_andV (ev_chain (ev_at (ev_var rfl) ha (atI_nat (j := 0) rfl)) (ev_var rfl) rv_I0 (ev_op (ev_at (ev_var rfl) ha (atI_nat (j := 0) rfl)) (ev_at (ev_var rfl) ha (atI_nat (j := 2) rfl)) rv_I0) rv_I0) fun _ =>
    ev_chain (ev_at (ev_var rfl) ha (atI_nat (j := 1) rfl)) (ev_var rfl) rv_I0 (ev_op (ev_at (ev_var rfl) ha (atI_nat (j := 1) rfl)) (ev_at (ev_var rfl) ha (atI_nat (j := 3) rfl)) rv_I0) rv_I0) k
end
end Kp
set_option Elab.async false
set_option linter.all false
set_option maxRecDepth 100000
set_option maxHeartbeats 4000000
/-! what is at a point -/
namespace Kp
open PySem PySem.Spec PyProof.Rows L2 Evl
section
variable {K : PySem.W.Frag} {σ : L2.St} {H : Hp} {te : TE} {z : V}
theorem ev_callFU {ps : List V → Hp → V → Prop} {E : XK} {tr : TA} {xs vs : List V} (h : EvU te σ H xs) (hr : EvA tr σ H vs) (hp : ∀ p H1, H1 p = some (.tup xs) → Ex H H1 → ps (.ref p :: vs) H1 z) : Ev (tCall (SpF ps) [] E (tCons te tr)) σ H z := fun H1 e Q q =>
  h H1 e _ fun p H2 hn e2 hp2 => hr H2 (e.trans e2) _ fun H3 e3 => ⟨z, by rw [List.append_nil]; exact hp p H3 (e3 _ _ hp2) ((e.trans e2).trans e3), fun H4 e4 => q H4 ((e2.trans e3).trans e4)⟩
theorem rv_gtR {a b : Addr} {p q : Bool × Int} (ha : H a = some (.tup [.bl p.1, .int p.2])) (hb : H b = some (.tup [.bl q.1, .int q.2])) : RV (rGtR K) (.ref a) (.ref b) H (.bl (gt2 p q)) := fun H1 e _ k => ⟨a, b, p.1, q.1, p.2, q.2, rfl, rfl, ex_t e (st_of ha), ex_t e (st_of hb), k H1 (Ex.refl H1)⟩
end
def BestAt (H : Hp) (v : V) : Option (Bool × Int) → Prop
  | none => v = .non
  | some r => ∃ p, v = .ref p ∧ H p = some (.tup [.bl r.1, .int r.2])
theorem BestAt.ex {H H' : Hp} {v : V} {b : Option (Bool × Int)} (h : BestAt H v b) (e : Ex H H') : BestAt H' v b := by
  cases b with
  | none => exact h
  | some r =>
    obtain ⟨p, h1, h2⟩ := h
    exact ⟨p, h1, e _ _ h2⟩
theorem dec_up {o : Option Int} {n : Int} : decide (upV o = V.int n) = decide (o = some n) := by
  cases o with
  | none => simp [upV]
  | some m =>
    by_cases e : m = n
    · simp [upV, e]
    · simp [upV, e]
section
variable {P : Program} {w : World} {K : PySem.W.Frag} {mg : Str → Option Value} {base : Heap}
def ps_uppermost (vs : List V) (H : Hp) (z : V) : Prop := ∃ (a : Addr) (L : List LP) (n x y : Int), vs = [.ref a, .int n, .int x, .int y] ∧ Pl H a L ∧ z = upV (upmost L n x y)
theorem sc_uppermost : FnScope ["plan", "name", "x", "y", "best", "pane", "rank"] ["plan", "name", "x", "y"] (defScope s_uppermost) := ⟨rfl, rfl, rfl, by decide +kernel, rfl, by decide +kernel, by decide +kernel⟩
theorem d_uppermost (T : Top K mg) : DefAt P w K mg base 3 "uppermost" ["plan", "name", "x", "y"] (SpF ps_uppermost) := by
  refine def_of T.f_uppermost sc_uppermost (by rintro _ _ _ _ ⟨_, ⟨_, _, _, _, _, rfl, _⟩, _⟩; rfl) (fun _ _ _ _ _ _ us hl => match us, hl with | [_, _, _, _], _ => rfl) ?_
  intro f cdv A outer s H vs Q E hr h
  obtain ⟨z, ⟨a, L, n, x, y, rfl, hp, rfl⟩, k⟩ := h
  refine ⟨_, (pss_cons (ps_set (i := 4) sc_uppermost.nd rfl (Or.inl rfl) pe_non) (pss_cons (ps_for PassesOwn.never rfl (pi_tup (pv 0)) (pg_name (i := 5) sc_uppermost.nd rfl (Or.inl rfl)) (pss_one (ps_if (PW.pt (pw_and (pt_cmpR op_eq (pe_ix ix_tup (pv 5) pe_int (fun _ _ => rfl)) (pv 1) (nomark _)) (pw_and (pt_cmpR op_notIn_seq pe_str (pe_ix ix_tup (pv 5) pe_int (fun _ _ => rfl)) (by rfl)) (pw_and1 (pt_val (pe_callD (d_has_point T) hr rfl (pa_cons (pe_callD (d_placed T) hr rfl (pa_cons (pv 0) (pa_cons (pe_ix ix_tup (pv 5) pe_int (fun _ _ => rfl)) pa_nil))) (pa_cons (pv 2) (pa_cons (pv 3) pa_nil))))))))) (pss_cons (ps_set (i := 6) sc_uppermost.nd rfl (Or.inl rfl) (pe_tup (pa_cons (pe_cmpR op_in_seq pe_str (pe_ix ix_tup (pv 5) pe_int (fun _ _ => rfl)) (by rfl)) (pa_cons (pe_ix ix_tup (pv 5) pe_int (fun _ _ => rfl)) pa_nil)))) (pss_one (ps_if (PW.pt (pw_or (pt_cmpR op_isN (pv 4) pe_non (nomark _)) (pw_or1 (pt_cmpR (op_gtR hr.units0) (pv 6) (pv 4) (nomark _))))) (pss_one (ps_set (i := 4) sc_uppermost.nd rfl (Or.inl rfl) (pv 6))) pss_nil))) pss_nil))) (pss_cons (ps_if (pt_cmpR op_isN (pv 4) pe_non (nomark _)) (pss_one (ps_ret pe_non)) pss_nil) (pss_one (ps_ret (pe_ix ix_tup (pv 4) pe_int (fun _ _ => rfl))))))), ?_⟩
  refine q_asg ev_c fun H1 e1 => ?_
  have hp1 := hp.ex e1
  refine q_forT (xs := L.map fun q => V.ref q.ad) (ev_var rfl) (st_of hp1.1.a) (fun i σ' H' => ∃ (b v5 : V) (v6 v7 : Option V), σ' = [some (.ref a), some (.int n), some (.int x), some (.int y), some b, v6, v7] ∧ Ex H1 H' ∧ BestAt H' b ((L.take i).foldl (stepU (cond L n x y)) none))
    (fun H2 e2 => ⟨.non, .non, _, _, rfl, e2, rfl⟩) (fun i σ' H' _ ⟨_, _, _, _, _, e2, _⟩ => ex_t e2 (st_of hp1.1.a)) ?_ ?_
  · rintro i xv σ' H' hx ⟨b, v5, v6, v7, rfl, e2, hb⟩
    rw [List.getElem?_map] at hx
    cases hy : L[i]? with
    | none =>
      rw [hy] at hx
      cases hx
    | some q =>
      rw [hy] at hx
      obtain rfl : V.ref q.ad = xv := Option.some.inj hx
      have hq := List.mem_of_getElem? hy
      have hp2 := hp1.ex e2
      have hq2 := hp2.1.ps q hq
      rw [List.take_add_one, hy, List.foldl_append]
      show tIfS _ _ _ _ (List.set _ 5 (some (V.ref q.ad))) H'
      refine s_when (b := cond L n x y q) (et_is (et_and (et_is (et_test (ev_op (ev_at (ev_var rfl) hq2.a (atI_nat (j := 1) rfl)) (ev_var rfl) (rv_eq (by cases q.up <;> rfl)))) dec_up) fun _ =>
        et_and (et_is (et_test (ev_op ev_c (ev_at (ev_var rfl) hq2.a (atI_nat (j := 4) rfl)) (rv_niT (st_of hq2.m) rfl (flat_str _)))) (congrArg Bool.not inV_str)) fun _ =>
          et_B (ev_callFU (eu_callU (ea_cons (ev_var rfl) (ea_cons (ev_at (v := .int q.nm) (ev_var rfl) hq2.a (atI_nat (j := 0) rfl)) ea_nil)) fun H3 e3 => ⟨a, L, q.nm, rfl, hp2.ex e3, nm_mem hq, rfl⟩) (ea_cons (ev_var rfl) (ea_cons (ev_var rfl) ea_nil)) fun p H3 h3 e3 => ⟨p, plc L q.nm, x, y, rfl, h3, rfl⟩)) rfl)
        (fun hc H3 e3 => ?_) (fun hc H3 e3 => ⟨b, v5, _, _, rfl, e2.trans e3, ?_⟩)
      · have hq3 := hq2.ex e3
        refine q_asgU (eu_tup (ea_cons (ev_is (ev_op ev_c (ev_at (ev_var rfl) hq3.a (atI_nat (j := 4) rfl)) (rv_isT (st_of hq3.m) rfl (flat_str _))) (congrArg V.bl inV_str)) (ea_cons (ev_at (ev_var rfl) hq3.a (atI_nat (j := 0) rfl)) ea_nil)) (by show 2 ≤ 100000; decide)) fun p H4 hn e4 hp4 => ?_
        have hb4 := hb.ex (e3.trans e4)
        generalize hF : (L.take i).foldl (stepU (cond L n x y)) none = F at hb hb4 ⊢
        have hst : ([q] : List LP).foldl (stepU (cond L n x y)) F = match F with
          | none => some (rkOf q)
          | some r => if gt2 (rkOf q) r = true then some (rkOf q) else some r := by
          show stepU (cond L n x y) F q = _
          unfold stepU
          rw [if_pos hc]
          cases F <;> rfl
        show tIfS _ _ _ _ _ _
        cases F with
        | none =>
          obtain rfl : b = V.non := hb4
          refine s_when (b := true) (et_is (et_or (et_is (et_test (ev_op (ev_var rfl) ev_c rv_isN)) (show decide (V.non = V.non) = true by decide)) (b := true) fun q => by cases q) rfl) (fun _ H5 e5 => s_asg (ev_var rfl) fun H6 e6 => ⟨_, .non, _, _, rfl, (((e2.trans e3).trans e4).trans e5).trans e6, ?_⟩) (fun q => by cases q)
          show BestAt H6 _ (([q] : List LP).foldl (stepU (cond L n x y)) none)
          rw [hst]
          exact ⟨p, rfl, e6 _ _ (e5 _ _ hp4)⟩
        | some r =>
          obtain ⟨pb, rfl, hpb⟩ := hb4
          refine s_when (b := gt2 (rkOf q) r) (et_is (et_or (et_is (et_test (ev_op (ev_var rfl) ev_c rv_isN)) (show decide (V.ref pb = V.non) = false from decide_eq_false (by intro z; cases z))) fun _ => et_test (ev_op (ev_var rfl) (ev_var rfl) (rv_gtR (p := rkOf q) hp4 hpb))) rfl) (fun hg H5 e5 => s_asg (ev_var rfl) fun H6 e6 => ⟨_, .non, _, _, rfl, (((e2.trans e3).trans e4).trans e5).trans e6, ?_⟩) (fun hg H5 e5 => ⟨_, .non, _, _, rfl, ((e2.trans e3).trans e4).trans e5, ?_⟩)
          · show BestAt H6 _ (([q] : List LP).foldl (stepU (cond L n x y)) (some r))
            rw [hst]
            show BestAt H6 _ (if gt2 (rkOf q) r = true then some (rkOf q) else some r)
            rw [if_pos hg]
            exact ⟨p, rfl, e6 _ _ (e5 _ _ hp4)⟩
          · show BestAt H5 _ (([q] : List LP).foldl (stepU (cond L n x y)) (some r))
            rw [hst]
            show BestAt H5 _ (if gt2 (rkOf q) r = true then some (rkOf q) else some r)
            rw [if_neg (by rw [hg]; decide)]
            exact ⟨pb, rfl, e5 _ _ hpb⟩
      · show BestAt H3 b (stepU (cond L n x y) _ q)
        unfold stepU
        rw [if_neg (by rw [hc]; decide)]
        exact hb.ex e3
  · rintro σ' H' ⟨b, v5, v6, v7, rfl, e2, hb⟩
    rw [List.length_map, List.take_length] at hb
    unfold upmost at k
    generalize L.foldl (stepU (cond L n x y)) none = F at hb k
    cases F with
    | none =>
      obtain rfl : b = V.non := hb
      exact q_when (b := true) (et_is (et_test (ev_op (ev_var rfl) ev_c rv_isN)) (show decide (V.non = V.non) = true by decide)) (fun _ H3 e3 => s_ret ev_c fun H4 e4 => k H4 (((e1.trans e2).trans e3).trans e4)) (fun q => by cases q)
    | some r =>
      obtain ⟨p, rfl, hpb⟩ := hb
      exact q_when (b := false) (et_is (et_test (ev_op (ev_var rfl) ev_c rv_isN)) (show decide (V.ref p = V.non) = false from decide_eq_false (by intro z; cases z))) (fun q => by cases q) fun _ H3 e3 => s_ret (ev_at (ev_var rfl) (e3 _ _ hpb) (atI_nat (j := 1) rfl)) fun H4 e4 => k H4 (((e1.trans e2).trans e3).trans e4)
def ps_at (lo hi : Int) (vs : List V) (H : Hp) (z : V) : Prop := ∃ (a : Addr) (L : List LP) (x y : Int), vs = [.ref a, .int x, .int y] ∧ Pl H a L ∧ (lo ≤ x ∧ x ≤ hi) ∧ (lo ≤ y ∧ y ≤ hi) ∧ z = upV (found L x y)
theorem sc_found_at : FnScope ["plan", "x", "y", "here", "part"] ["plan", "x", "y"] (defScope s_found_at) := ⟨rfl, rfl, rfl, by decide +kernel, rfl, by decide +kernel, by decide +kernel⟩
theorem d_found_at (T : Top K mg) : DefAt P w K mg base 4 "found_at" ["plan", "x", "y"] (SpF (ps_at (-1000000000) 1000000000)) := by
  refine def_of T.f_found_at sc_found_at (by rintro _ _ _ _ ⟨_, ⟨_, _, _, _, rfl, _⟩, _⟩; rfl) (fun _ _ _ _ _ _ us hl => match us, hl with | [_, _, _], _ => rfl) ?_
  intro f cdv A outer s H vs Q E hr h
  obtain ⟨z, ⟨a, L, x, y, rfl, hp, _, _, rfl⟩, k⟩ := h
  obtain ⟨rk, hG⟩ := hp.2
  refine ⟨_, (pss_cons (ps_if (pt_not (pt_val (pe_callD (d_has_point T) hr rfl (pa_cons (pe_callD (d_placed T) hr rfl (pa_cons (pv 0) (pa_cons pe_int pa_nil))) (pa_cons (pv 1) (pa_cons (pv 2) pa_nil)))))) (pss_one (ps_ret pe_non)) pss_nil) (pss_cons (ps_set (i := 3) sc_found_at.nd rfl (Or.inl rfl) pe_int) (pss_cons (ps_set (i := 4) sc_found_at.nd rfl (Or.inl rfl) (pe_callD (d_uppermost T) hr rfl (pa_cons (pv 0) (pa_cons (pv 3) (pa_cons (pv 1) (pa_cons (pv 2) pa_nil)))))) (pss_cons (ps_while PassesOwn.never (pt_cmpR op_notN (pv 4) pe_non (nomark _)) (pss_cons (ps_set (i := 3) sc_found_at.nd rfl (Or.inl rfl) (pv 4)) (pss_one (ps_set (i := 4) sc_found_at.nd rfl (Or.inl rfl) (pe_callD (d_uppermost T) hr rfl (pa_cons (pv 0) (pa_cons (pv 3) (pa_cons (pv 1) (pa_cons (pv 2) pa_nil))))))))) (pss_one (ps_ret (pv 3))))))), ?_⟩
  refine q_when (et_not (et_B (ev_callFU (eu_callU (ea_cons (ev_var rfl) (ea_cons ev_c ea_nil)) fun H3 e3 => ⟨a, L, 0, rfl, hp.ex e3, hG.zero.1, rfl⟩) (ea_cons (ev_var rfl) (ea_cons (ev_var rfl) ea_nil)) fun p H3 h3 e3 => ⟨p, plc L 0, x, y, rfl, h3, rfl⟩)))
    (fun hb H1 e1 => s_ret ev_c fun H2 e2 => ?_) fun hb H1 e1 => ?_
  · have hf : inB (plc L 0) x y = false := by simpa using hb
    have q := k H2 (e1.trans e2)
    unfold found at q
    rw [if_neg (by rw [hf]; decide)] at q
    exact q
  have hf : inB (plc L 0) x y = true := by simpa using hb
  have hp1 := hp.ex e1
  unfold found at k
  rw [if_pos hf] at k
  refine q_asg ev_c fun H2 e2 => ?_
  refine q_asg (ev_callF (ea_cons (ev_var rfl) (ea_cons (ev_var rfl) (ea_cons (ev_var rfl) (ea_cons (ev_var rfl) ea_nil)))) fun H3 e3 => ⟨a, L, 0, x, y, rfl, hp1.ex (e2.trans e3), rfl⟩) fun H3 e3 => ?_
  refine q_while (fun m σ' H' => ∃ h : Int, σ' = [some (.ref a), some (.int x), some (.int y), some (.int h), some (upV (upmost L h x y))] ∧ m = 41 - rk h ∧ Ex H1 H' ∧ h ∈ names L ∧ desc L x y 0 = desc L x y h) (41 - rk 0) ⟨0, rfl, rfl, e2.trans e3, hG.zero.1, rfl⟩ ?_
  rintro m σ' H' ⟨h, rfl, rfl, e4, hh, hd⟩
  refine ⟨_, et_test (ev_op (ev_var rfl) ev_c rv_notN), fun hb H5 e5 => ⟨_, fun _ _ h => h, ?_⟩, fun hb H5 e5 => ?_⟩
  · cases hu : upmost L h x y with
    | none =>
      rw [hu] at hb
      cases hb
    | some p =>
      obtain ⟨m1, m2, _, _⟩ := hG.most hu
      have := hG.rk40 p
      refine q_asg (ev_var rfl) fun H6 e6 => s_asg (ev_callF (ea_cons (ev_var rfl) (ea_cons (ev_var rfl) (ea_cons (ev_var rfl) (ea_cons (ev_var rfl) ea_nil)))) fun H7 e7 => ⟨a, L, p, x, y, rfl, hp1.ex (((e4.trans e5).trans e6).trans e7), rfl⟩) fun H7 e7 => ?_
      exact ⟨41 - rk p, by omega, p, rfl, rfl, ((e4.trans e5).trans e6).trans e7, m1, by rw [hd, desc_some hG hu]⟩
  · cases hu : upmost L h x y with
    | some p =>
      rw [hu] at hb
      cases hb
    | none =>
      rw [hd, desc_none hu] at k
      exact s_ret (ev_var rfl) fun H6 e6 => k H6 (((e1.trans e4).trans e5).trans e6)
def ps_see_point (vs : List V) (H : Hp) (z : V) : Prop := ∃ x y : Int, vs = [.int x, .int y] ∧ (-1000000000 ≤ x ∧ x ≤ 1000000000) ∧ (-1000000000 ≤ y ∧ y ≤ 1000000000) ∧ z = .non
theorem sc_see_point : FnScope ["x", "y"] ["x", "y"] (defScope s_see_point) := ⟨rfl, rfl, rfl, by decide +kernel, rfl, by decide +kernel, by decide +kernel⟩
theorem d_see_point (T : Top K mg) : DefAt P w K mg base 2 "see_point" ["x", "y"] (SpF ps_see_point) := by
  refine def_of T.f_see_point sc_see_point (by rintro _ _ _ _ ⟨_, ⟨_, _, rfl, _⟩, _⟩; rfl) (fun _ _ _ _ _ _ us hl => match us, hl with | [_, _], _ => rfl) ?_
  intro f cdv A outer s H vs Q E hr h
  obtain ⟨z, ⟨x, y, rfl, hx, hy, rfl⟩, k⟩ := h
  obtain ⟨tF, hFAR_POINT⟩ := T.c_FAR_POINT
  refine ⟨_, (pss_one (ps_if (PW.pt (pw_or (pt_not (pt_val (pe_callD (d_is_number T) hr rfl (pa_cons (pv 0) (pa_cons (pe_un un_neg (pe_glob (v := .int 1000000000) rfl hFAR_POINT ⟨_, rfl⟩)) (pa_cons (pe_glob (v := .int 1000000000) rfl hFAR_POINT ⟨_, rfl⟩) pa_nil)))))) (pw_or1 (pt_not (pt_val (pe_callD (d_is_number T) hr rfl (pa_cons (pv 1) (pa_cons (pe_un un_neg (pe_glob (v := .int 1000000000) rfl hFAR_POINT ⟨_, rfl⟩)) (pa_cons (pe_glob (v := .int 1000000000) rfl hFAR_POINT ⟨_, rfl⟩) pa_nil))))))))) (pss_one ps_never) pss_nil)), ?_⟩
  exact s_when (b := false) (et_is (et_or (et_not (et_B (ev_callF (ea_cons (ev_var rfl) (ea_cons (ev_un ev_c ru_neg) (ea_cons ev_c ea_nil))) fun _ _ => ⟨_, _, _, rfl, hx.1, hx.2, rfl⟩))) fun _ =>
    et_not (et_B (ev_callF (ea_cons (ev_var rfl) (ea_cons (ev_un ev_c ru_neg) (ea_cons ev_c ea_nil))) fun _ _ => ⟨_, _, _, rfl, hy.1, hy.2, rfl⟩))) rfl) (fun q => by cases q) fun _ H1 e1 => k H1 e1
theorem sc_at_point : FnScope ["plan", "x", "y"] ["plan", "x", "y"] (defScope s_at_point) := ⟨rfl, rfl, rfl, by decide +kernel, rfl, by decide +kernel, by decide +kernel⟩
theorem d_at_point (T : Top K mg) : DefAt P w K mg base 9 "at_point" ["plan", "x", "y"] (SpF (ps_at (-1000000000) 1000000000)) := by
  refine def_of T.f_at_point sc_at_point (by rintro _ _ _ _ ⟨_, ⟨_, _, _, _, rfl, _⟩, _⟩; rfl) (fun _ _ _ _ _ _ us hl => match us, hl with | [_, _, _], _ => rfl) ?_
  intro f cdv A outer s H vs Q E hr h
  obtain ⟨z, ⟨a, L, x, y, rfl, hp, hx, hy, rfl⟩, k⟩ := h
  refine ⟨_, (pss_cons (ps_expr (pe_callD (d_see_plan T) hr rfl (pa_cons (pv 0) pa_nil))) (pss_cons (ps_expr (pe_callD (d_see_point T) hr rfl (pa_cons (pv 1) (pa_cons (pv 2) pa_nil)))) (pss_one (ps_ret (pe_callD (d_found_at T) hr rfl (pa_cons (pv 0) (pa_cons (pv 1) (pa_cons (pv 2) pa_nil)))))))), ?_⟩
  refine q_drop (ev_callF (ea_cons (ev_var rfl) ea_nil) fun H1 e1 => ⟨a, L, rfl, hp.ex e1, rfl⟩) fun H1 e1 => q_drop (ev_callF (ea_cons (ev_var rfl) (ea_cons (ev_var rfl) ea_nil)) fun _ _ => ⟨x, y, rfl, hx, hy, rfl⟩) fun H2 e2 => ?_
  exact s_ret (ev_callF (ea_cons (ev_var rfl) (ea_cons (ev_var rfl) (ea_cons (ev_var rfl) ea_nil))) fun H3 e3 => ⟨a, L, x, y, rfl, hp.ex ((e1.trans e2).trans e3), hx, hy, rfl⟩) fun H3 e3 => k H3 ((e1.trans e2).trans e3)
end
end Kp
set_option Elab.async false
set_option linter.all false
set_option maxRecDepth 100000
set_option maxHeartbeats 4000000
/-! borders, areas -/
namespace Kp
open PySem PySem.Spec PyProof.Rows L2 Evl
section
variable {K : PySem.W.Frag} {σ : L2.St} {H : Hp} {ta te : TE} {z : V}
theorem el_listD {a : Addr} {kvs : List (Key × V)} (ha : Ev ta σ H (.ref a)) (h : H a = some (.dK kvs)) :
    EvL (tCB (fun xs H Q => ∃ (a : Addr) (kvs : List (Key × V)), xs = [.ref a] ∧ Rd H a (.dK kvs) ∧ ∀ p, H p = none → Q (.ref p) (upd H p (.lst (kvs.map fun kv => kV kv.1)))) (tCons ta tNil)) σ H (kvs.map fun kv => kV kv.1) := fun H1 e Q q =>
  ha H1 e _ fun H2 e2 => ⟨a, kvs, rfl, .inl (e2 _ _ (e _ _ h)), fun p hp => q p _ (fresh_back e2 hp) (e2.trans (Ex.new hp)) upd_same⟩
theorem s_retSorted {D : Ends} {ns : List Int} (h : EvL te σ H (ns.map V.int)) (k : ∀ (ns' : List Int) (p : Addr) (H1 : Hp), ns'.Perm ns → ns'.Pairwise (· ≤ ·) → H p = none → Ex H H1 → H1 p = some (.lst (ns'.map V.int)) → D.rt (.ref p) H1) : tRet (tCB (rSortedI K) (tCons te tNil)) D σ H :=
  h H (Ex.refl H) _ fun p H1 hn e1 hp => ⟨p, ns, rfl, sq_of hp, fun ns' p2 perm rise hn2 => k ns' p2 _ perm rise (fresh_back e1 hn2) (e1.trans (Ex.new hn2)) upd_same⟩
theorem ev_dgetD {td ty : TE} {n : Int} {kvs : List (Key × V)} {v : V} (hd : EvD td σ H kvs) (hk : Ev ty σ H (.int n)) (hv : valV kvs (Sum.inl n) = some v) : Ev (tDGet td ty) σ H v := fun H1 e Q q =>
  hd H1 e _ fun a H2 _ e2 ha => hk H2 (e.trans e2) _ fun H3 e3 => ⟨a, v, rfl, by
    rw [← hv]
    exact DGet.k (k := Sum.inl n) (e3 _ _ ha), q H3 (e2.trans e3)⟩
end
def sdI (sd : Bool) : Int := if sd = true then 1 else 0
theorem Good.ground {L : List LP} (h : Good L) : (1 ≤ (byN L 0).w ∧ (byN L 0).w ≤ 1000000) ∧ (1 ≤ (byN L 0).h ∧ (byN L 0).h ≤ 1000000) := by
  obtain ⟨rk, hG⟩ := h
  have hm := (byN_mem hG.zero.1).1
  obtain ⟨g, r, rfl, hP⟩ := hG
  exact ⟨(hP.each _ hm).w, (hP.each _ hm).h⟩
theorem Good.most1 {L : List LP} (h : Good L) (sd : Bool) : 1 ≤ mostOf L sd ∧ mostOf L sd ≤ 1000000 := by
  unfold mostOf
  cases sd with
  | true => exact h.ground.2
  | false => exact h.ground.1
theorem KsInv.grow {L : List LP} {sd : Bool} {m : Int} {M : List LP} {ks ks' : List Int} {q : LP} (h : KsInv L sd m M ks) (hn : ks'.Nodup)
    (hm : ∀ z, z ∈ ks' ↔ z ∈ ks ∨ ((0 < z ∧ z < m) ∧ (z = edC (plc L q.nm) sd ∨ z = edC (plc L q.nm) sd + edD (plc L q.nm) sd))) : KsInv L sd m (M ++ [q]) ks' := by
  refine ⟨hn, fun z => ?_⟩
  rw [hm, h.mem]
  constructor
  · rintro ((h | h | ⟨h1, h2, p, hp, h3⟩) | ⟨⟨h1, h2⟩, h3⟩)
    · exact .inl h
    · exact .inr (.inl h)
    · exact .inr (.inr ⟨h1, h2, p, List.mem_append_left _ hp, h3⟩)
    · exact .inr (.inr ⟨h1, h2, q, List.mem_append_right _ (List.mem_singleton.mpr rfl), h3⟩)
  · rintro (h | h | ⟨h1, h2, p, hp, h3⟩)
    · exact .inl (.inl h)
    · exact .inl (.inr (.inl h))
    · rcases List.mem_append.mp hp with hp | hp
      · exact .inl (.inr (.inr ⟨h1, h2, p, hp, h3⟩))
      · rw [List.mem_singleton.mp hp] at h3
        exact .inr ⟨⟨h1, h2⟩, h3⟩
/-- within the inner loop: j of the two borders are looked at -/
structure JInv (m c d : Int) (ks : List Int) (j : Nat) (ks' : List Int) : Prop where
  nd : ks'.Nodup
  mem : ∀ z, z ∈ ks' ↔ z ∈ ks ∨ ((0 < z ∧ z < m) ∧ z ∈ [c, c + d].take j)
  len : ks'.length ≤ ks.length + j
theorem JInv.next {m c d : Int} {ks ks' : List Int} {j : Nat} {u : Int} (h : JInv m c d ks j ks') (hu : [c, c + d][j]? = some u) (hb : 0 < u ∧ u < m) : JInv m c d ks (j + 1) (if u ∈ ks' then ks' else ks' ++ [u]) := by
  refine ⟨ks_add_nd h.nd, fun z => ?_, Nat.le_trans ks_add_len (by have := h.len; omega)⟩
  rw [ks_add_mem, h.mem, List.take_add_one, hu]
  show _ ↔ z ∈ ks ∨ ((0 < z ∧ z < m) ∧ z ∈ [c, c + d].take j ++ [u])
  rw [List.mem_append, List.mem_singleton]
  constructor
  · rintro ((h | ⟨h1, h2⟩) | rfl)
    · exact .inl h
    · exact .inr ⟨h1, .inl h2⟩
    · exact .inr ⟨hb, .inr rfl⟩
  · rintro (h | ⟨h1, h2 | rfl⟩)
    · exact .inl (.inl h)
    · exact .inl (.inr ⟨h1, h2⟩)
    · exact .inr rfl
theorem JInv.skip {m c d : Int} {ks ks' : List Int} {j : Nat} {u : Int} (h : JInv m c d ks j ks') (hu : [c, c + d][j]? = some u) (hb : ¬ (0 < u ∧ u < m)) : JInv m c d ks (j + 1) ks' := by
  refine ⟨h.nd, fun z => ?_, Nat.le_trans h.len (by omega)⟩
  rw [h.mem, List.take_add_one, hu]
  show _ ↔ z ∈ ks ∨ ((0 < z ∧ z < m) ∧ z ∈ [c, c + d].take j ++ [u])
  rw [List.mem_append, List.mem_singleton]
  constructor
  · rintro (h | ⟨h1, h2⟩)
    · exact .inl h
    · exact .inr ⟨h1, .inl h2⟩
  · rintro (h | ⟨h1, h2 | rfl⟩)
    · exact .inl h
    · exact .inr ⟨h1, h2⟩
    · exact absurd h1 hb
section
variable {P : Program} {w : World} {K : PySem.W.Frag} {mg : Str → Option Value} {base : Heap}
def ps_borders (vs : List V) (H : Hp) (z : List V) : Prop := ∃ (a : Addr) (L : List LP) (sd : Bool), vs = [.ref a, .int (sdI sd)] ∧ Pl H a L ∧ z = (brdS L sd).map V.int
theorem sc_borders : FnScope ["plan", "side", "most", "line", "pane", "box", "one"] ["plan", "side"] (defScope s_borders) := ⟨rfl, rfl, rfl, by decide +kernel, rfl, by decide +kernel, by decide +kernel⟩
theorem d_borders (T : Top K mg) : DefAt P w K mg base 3 "borders" ["plan", "side"] (SpN ps_borders) := by
  refine def_of T.f_borders sc_borders (by rintro _ _ _ _ ⟨_, ⟨_, _, _, rfl, _⟩, _⟩; rfl) (fun _ _ _ _ _ _ us hl => match us, hl with | [_, _], _ => rfl) ?_
  intro f cdv A outer s H vs Q E hr h
  obtain ⟨z, ⟨a, L, sd, rfl, hp, rfl⟩, k⟩ := h
  obtain ⟨rk, hG⟩ := hp.2
  have hm1 := hp.2.most1 sd
  refine ⟨_, (pss_cons (ps_set (i := 2) sc_borders.nd rfl (Or.inl rfl) (pe_ix ix_tup (pe_ix ix_tup (pe_callD (d_the_pane T) hr rfl (pa_cons (pv 0) (pa_cons pe_int pa_nil))) pe_int (fun _ _ => rfl)) (pe_op op_add pe_int (pv 1)) (fun _ _ => rfl))) (pss_cons (ps_set (i := 3) sc_borders.nd rfl (Or.inl rfl) (pe_disp (pps_cons pe_int pe_bl (pps_cons (pv 2) pe_bl pps_nil)) (by rfl) (by rfl) (fun z => by cases z) (by decide))) (pss_cons (ps_for PassesOwn.never rfl (pi_tup (pv 0)) (pg_name (i := 4) sc_borders.nd rfl (Or.inl rfl)) (pss_cons (ps_set (i := 5) sc_borders.nd rfl (Or.inl rfl) (pe_callD (d_placed T) hr rfl (pa_cons (pv 0) (pa_cons (pe_ix ix_tup (pv 4) pe_int (fun _ _ => rfl)) pa_nil)))) (pss_one (ps_for PassesOwn.never rfl (pi_list (pe_lst (pa_cons (pe_ix ix_tup (pv 5) (pv 1) (fun _ _ => rfl)) (pa_cons (pe_op op_add (pe_ix ix_tup (pv 5) (pv 1) (fun _ _ => rfl)) (pe_ix ix_tup (pv 5) (pe_op op_add pe_int (pv 1)) (fun _ _ => rfl))) pa_nil)))) (pg_name (i := 6) sc_borders.nd rfl (Or.inl rfl)) (pss_one (ps_if (pt_chain op_lt op_lt pe_int (pv 6) (pv 2)) (pss_one (ps_dput (hu_of hr) (pv 3) (pv 6) pe_bl rfl)) pss_nil)))))) (pss_one (ps_ret (pe_callB cr_sortedI (by rfl) T.g_sorted PyProof.Rows.boot_sorted (pa_cons (pe_callTy (call_listD rfl) (by rfl) T.g_list PyProof.Rows.boot_list (pa_cons (pv 3) pa_nil)) pa_nil))))))), ?_⟩
  have h0 := hp.byN hG.zero.1
  refine q_asg (v := .int (mostOf L sd)) (ev_atE (ev_at (ev_callF (ea_cons (ev_var rfl) (ea_cons ev_c ea_nil)) fun H1 e1 => ⟨a, L, 0, rfl, hp.ex e1, hG.zero.1, rfl⟩) h0.a (atI_nat (j := 2) rfl)) (ev_op ev_c (ev_var rfl) rv_I0) h0.b (by cases sd <;> rfl)) fun H1 e1 => ?_
  refine q_asgD (ed_is (ed_disp2 ev_c ev_c (ev_var (v := .int (mostOf L sd)) rfl) ev_c) (tabT_two hm1.1)) fun d H2 hd e2 hd2 => ?_
  have hpa : H2 a = some (.tup (L.map fun q => V.ref q.ad)) := e2 _ _ (e1 _ _ hp.1.a)
  have hdH : H d = none := fresh_back e1 hd
  refine q_forT (xs := L.map fun q => V.ref q.ad) (ev_var rfl) (st_of hpa) (fun i σ' H' => ∃ (ks : List Int) (v4 v5 v6 : Option V), σ' = [some (.ref a), some (.int (sdI sd)), some (.int (mostOf L sd)), some (.ref d), v4, v5, v6] ∧ Ex H H' ∧ H' d = some (.dK (tabT ks)) ∧ KsInv L sd (mostOf L sd) (L.take i) ks ∧ ks.length ≤ 2 + 2 * i)
    (fun H3 e3 => ⟨[0, mostOf L sd], _, _, _, rfl, (e1.trans e2).trans e3, e3 _ _ hd2, ⟨by
      refine List.nodup_cons.mpr ⟨fun hm => ?_, List.nodup_cons.mpr ⟨by simp, List.nodup_nil⟩⟩
      have := List.mem_singleton.mp hm
      omega, fun z => by simp⟩, Nat.le_refl _⟩)
    (fun i σ' H' _ ⟨_, _, _, _, _, e3, _⟩ => ex_t e3 (st_of hp.1.a)) ?_ ?_
  · rintro i xv σ' H' hx ⟨ks, v4, v5, v6, rfl, e3, hd3, inv, hkl⟩
    rw [List.getElem?_map] at hx
    cases hy : L[i]? with
    | none =>
      rw [hy] at hx
      cases hx
    | some q =>
      rw [hy] at hx
      obtain rfl : V.ref q.ad = xv := Option.some.inj hx
      have hq := List.mem_of_getElem? hy
      have hil : i < 40 := Nat.lt_of_lt_of_le (List.getElem?_eq_some_iff.mp hy).1 hp.2.len
      have hp3 := hp.ex e3
      refine q_asgU (eu_callU (ea_cons (ev_var rfl) (ea_cons (ev_at (v := .int q.nm) (ev_var rfl) (hp3.1.ps q hq).a (atI_nat (j := 0) rfl)) ea_nil)) fun H4 e4 => ⟨a, L, q.nm, rfl, hp3.ex e4, nm_mem hq, rfl⟩) fun b H4 hb e4 hb4 => ?_
      have hc : atI (bxV (plc L q.nm)) (sdI sd) = some (.int (edC (plc L q.nm) sd)) := by cases sd <;> rfl
      have hdd : atI (bxV (plc L q.nm)) (2 + sdI sd) = some (.int (edD (plc L q.nm) sd)) := by cases sd <;> rfl
      generalize hC : edC (plc L q.nm) sd = c at hc
      generalize hD : edD (plc L q.nm) sd = dd at hdd
      show tFor _ _ _ _ _ _
      refine s_forNL (xs := [c, c + dd].map V.int) (el_lst (ea_cons (ev_atE (ev_var rfl) (ev_var rfl) hb4 hc) (ea_cons (ev_op (ev_atE (ev_var rfl) (ev_var rfl) hb4 hc) (ev_atE (ev_var rfl) (ev_op ev_c (ev_var rfl) rv_I0) hb4 hdd) rv_I0) ea_nil)) (by show 2 ≤ 100000; decide))
        (fun p j σ2 H5 => ∃ (ks' : List Int) (v4 v5 v6 : Option V), σ2 = [some (.ref a), some (.int (sdI sd)), some (.int (mostOf L sd)), some (.ref d), v4, v5, v6] ∧ Ex H H5 ∧ H5 d = some (.dK (tabT ks')) ∧ H5 p = some (.lst ([c, c + dd].map V.int)) ∧ JInv (mostOf L sd) c dd ks j ks')
        (fun p H5 hpn e5 hp5 => ⟨ks, _, _, _, rfl, (e3.trans e4).trans e5, e5 _ _ (e4 _ _ hd3), hp5, ⟨inv.nd, fun z => by simp, Nat.le_refl _⟩⟩) (fun p j σ2 H5 _ ⟨_, _, _, _, _, _, _, h5, _⟩ => sq_of h5) ?_ ?_
      · rintro p j xv σ2 H5 hx ⟨ks', v4, v5, v6, rfl, e5, hd5, hp5, ji⟩
        rw [List.getElem?_map] at hx
        cases hu : [c, c + dd][j]? with
        | none =>
          rw [hu] at hx
          cases hx
        | some u =>
          rw [hu] at hx
          obtain rfl : V.int u = xv := Option.some.inj hx
          have hj2 : j < 2 := (List.getElem?_eq_some_iff.mp hu).1
          refine s_when (et_test (ev_chain ev_c (ev_var rfl) rv_I0 (ev_var rfl) rv_I0)) (fun hb H6 e6 => ?_) (fun hb H6 e6 => ⟨ks', _, _, _, rfl, e5.trans e6, e6 _ _ hd5, e6 _ _ hp5, ji.skip hu (by
            simp only [Bool.and_eq_false_iff, decide_eq_false_iff_not] at hb
            omega)⟩)
          have hp6 := e6 _ _ hp5
          refine s_dput (n := u) ev_c (ev_var rfl) (ev_var rfl) (e6 _ _ hd5) (by
            unfold tabT
            rw [List.length_map]
            have := ji.len
            omega) fun H7 e7 => ?_
          rw [tabT_put]
          exact ⟨_, _, _, _, rfl, Ex.mut ((e5.trans e6).trans e7) hdH, upd_same, by rw [upd_ne (ne_of (e7 _ _ hp6) (e7 _ _ (e6 _ _ hd5)) (by intro z; cases z))]; exact e7 _ _ hp6, ji.next hu (by
            simp only [Bool.and_eq_true, decide_eq_true_eq] at hb
            omega)⟩
      · rintro p σ2 H5 ⟨ks', v4, v5, v6, rfl, e5, hd5, hp5, ji⟩
        refine ⟨ks', _, _, _, rfl, e5, hd5, ?_, ?_⟩
        · rw [List.take_add_one, hy]
          refine inv.grow ji.nd fun z => ?_
          rw [ji.mem, hC, hD]
          simp
        · have := ji.len
          simp at this
          omega
  · rintro σ' H' ⟨ks, v4, v5, v6, rfl, e3, hd3, inv, hkl⟩
    rw [List.length_map, List.take_length] at inv
    rw [List.length_map] at hkl
    have hel := el_listD (ta := tVar 3) (σ := [some (.ref a), some (.int (sdI sd)), some (.int (mostOf L sd)), some (.ref d), v4, v5, v6]) (ev_var rfl) hd3
    rw [tabT_keys] at hel
    refine s_retSorted hel fun ns' p2 H4 perm rise hn2 e4 h4 => ?_
    have hbd : IsBord L sd (mostOf L sd) ns' := ⟨nd_lt rise (perm.nodup_iff.mpr inv.nd), fun z => by rw [perm.mem_iff, inv.mem]⟩
    have e : ns' = brdS L sd := hbd.uniq (brd_is L sd (mostOf L sd))
    rw [e] at h4
    exact k p2 H4 (fresh_back e3 hn2) (e3.trans e4) h4
/-- what is counted when j rows and i cells of the next one are done -/
def cntF (L : List LP) (j i : Nat) (n : Int) : Int := S (fun j => S (cellN L (brdS L false) (brdS L true) n j) ((brdS L false).length - 1)) j + S (cellN L (brdS L false) (brdS L true) n j) i
def cntT (L : List LP) (j i : Nat) : List (Key × V) := tab L fun q => .int (cntF L j i q.nm)
def ps_counted (vs : List V) (H : Hp) (z : List (Key × V)) : Prop := ∃ (a : Addr) (L : List LP), vs = [.ref a] ∧ Pl H a L ∧ z = tab L fun q => .int (areaN L q.nm)
theorem cnt_next {L : List LP} {j i : Nat} {v : Int} (hf : found L (at0 (brdS L false) i) (at0 (brdS L true) j) = some v) (n : Int) : cntF L j (i + 1) n = if n = v then cntF L j i v + cellA (brdS L false) (brdS L true) i j else cntF L j i n := by
  unfold cntF
  show _ + (S (cellN L (brdS L false) (brdS L true) n j) i + cellN L (brdS L false) (brdS L true) n j i) = _
  unfold cellN
  rw [hf]
  by_cases e : n = v
  · rw [if_pos e, if_pos (by rw [e]), ← e]
    omega
  · rw [if_neg e, if_neg fun q => e (Option.some.inj q).symm]
    omega
theorem brd_lt {L : List LP} (h : Good L) {sd : Bool} {i : Nat} (hi : i + 1 < (brdS L sd).length) : 0 ≤ at0 (brdS L sd) i ∧ at0 (brdS L sd) i < mostOf L sd ∧ at0 (brdS L sd) (i + 1) ≤ mostOf L sd ∧ at0 (brdS L sd) i < at0 (brdS L sd) (i + 1) := by
  have b : IsBord L sd (mostOf L sd) (brdS L sd) := brd_is L sd (mostOf L sd)
  have m := h.most1 sd
  have h1 := (b.ge m.1 (at0_mem (show i < (brdS L sd).length by omega))).1
  have h2 := (b.ge m.1 (at0_mem hi)).2
  have h3 := at0_lt b.rise (show i < i + 1 by omega) hi
  exact ⟨h1, by omega, h2, h3⟩
theorem sc_counted : FnScope ["plan", "many", "across", "down", "row", "at", "name", "pane"] ["plan"] (defScope s_counted) := ⟨rfl, rfl, rfl, by decide +kernel, rfl, by decide +kernel, by decide +kernel⟩
theorem d_counted (T : Top K mg) : DefAt P w K mg base 5 "counted" ["plan"] (SpD ps_counted) := by
  refine def_of T.f_counted sc_counted (by rintro _ _ _ _ ⟨_, ⟨_, _, rfl, _⟩, _⟩; rfl) (fun _ _ _ _ _ _ us hl => match us, hl with | [_], _ => rfl) ?_
  intro f cdv A outer s H vs Q E hr h
  obtain ⟨z, ⟨a, L, rfl, hp, rfl⟩, k⟩ := h
  obtain ⟨rk, hG⟩ := hp.2
  refine ⟨_, (pss_cons (ps_set (i := 1) sc_counted.nd rfl (Or.inl rfl) (pe_callTy (call_dictP rfl) (by rfl) T.g_dict PyProof.Rows.boot_dict (pa_cons (pe_lc (own := [("pane", 7)]) (g := (gName 7)) (tt := tYes) rfl sc_counted.nd (pi_tup (pv 0)) (blkOk_by (own := [("pane", 7)]) (N := ["plan", "many", "across", "down", "row", "at", "name", "pane"]) (sc := defScope s_counted) (by decide +kernel)) (fun _ _ _ _ _ => (pg_name (i := 7) sc_counted.nd rfl (Or.inl rfl))) (fun _ _ _ _ _ => pts_nil) (fun _ _ _ _ _ => (pe_tup (pa_cons (pe_ix (ix_tupK (K := K) rfl) (pv 7) pe_int (fun _ _ => rfl)) (pa_cons pe_int pa_nil))))) pa_nil))) (pss_cons (ps_set (i := 2) sc_counted.nd rfl (Or.inl rfl) (pe_callD (d_borders T) hr rfl (pa_cons (pv 0) (pa_cons pe_int pa_nil)))) (pss_cons (ps_set (i := 3) sc_counted.nd rfl (Or.inl rfl) (pe_callD (d_borders T) hr rfl (pa_cons (pv 0) (pa_cons pe_int pa_nil)))) (pss_cons (ps_for PassesOwn.never rfl (pi_range1 rfl T.g_range (pa_cons (pe_op op_sub (pe_callB cr_lenS (by rfl) T.g_len PySem.boot_len (pa_cons (pv 3) pa_nil)) pe_int) pa_nil)) (pg_name (i := 4) sc_counted.nd rfl (Or.inl rfl)) (pss_one (ps_for PassesOwn.never rfl (pi_range1 rfl T.g_range (pa_cons (pe_op op_sub (pe_callB cr_lenS (by rfl) T.g_len PySem.boot_len (pa_cons (pv 2) pa_nil)) pe_int) pa_nil)) (pg_name (i := 5) sc_counted.nd rfl (Or.inl rfl)) (pss_cons (ps_set (i := 6) sc_counted.nd rfl (Or.inl rfl) (pe_callD (d_found_at T) hr rfl (pa_cons (pv 0) (pa_cons (pe_ix ix_list (pv 2) (pv 5) (fun _ _ => rfl)) (pa_cons (pe_ix ix_list (pv 3) (pv 4) (fun _ _ => rfl)) pa_nil))))) (pss_one (ps_dput (hu_of hr) (pv 1) (pv 6) (pe_op op_add (pe_dget (hu_of hr) (pv 1) (pv 6) (fun _ _ => rfl)) (pe_op op_mul (pe_op op_sub (pe_ix ix_list (pv 2) (pe_op op_add (pv 5) pe_int) (fun _ _ => rfl)) (pe_ix ix_list (pv 2) (pv 5) (fun _ _ => rfl))) (pe_op op_sub (pe_ix ix_list (pv 3) (pe_op op_add (pv 4) pe_int) (fun _ _ => rfl)) (pe_ix ix_list (pv 3) (pv 4) (fun _ _ => rfl))))) rfl)))))) (pss_one (ps_ret (pv 1))))))), ?_⟩
  have hkv : (L.map fun q : LP => ((V.int q.nm, V.int 0) : V × V)) = (tab L fun _ => V.int 0).map fun kv => (kV kv.1, kv.2) := by
    unfold tab
    rw [List.map_map]
    rfl
  refine q_asgD (ed_is (ed_dictP (ep_is (ep_lcT (fun q : LP => (V.int q.nm, V.int 0)) (ev_var rfl) hp.1.a hp.len (fun _ => rfl)
    fun q H1 e1 hq => eu_tup (ea_cons (ev_at (ev_var rfl) ((hp.1.ps q hq).ex e1).a (atI_nat (j := 0) rfl)) (ea_cons ev_c ea_nil)) (by show 2 ≤ 100000; decide)) hkv)) (mergeK_nd (tab_nd hG.nodup _))) fun d H1 hd e1 hd1 => ?_
  refine q_asgL (el_callN (ea_cons (ev_var rfl) (ea_cons ev_c ea_nil)) fun H2 e2 => ⟨a, L, false, rfl, hp.ex (e1.trans e2), rfl⟩) fun pa H2 hpa e2 hpa2 => ?_
  refine q_asgL (el_callN (ea_cons (ev_var rfl) (ea_cons ev_c ea_nil)) fun H3 e3 => ⟨a, L, true, rfl, hp.ex ((e1.trans e2).trans e3), rfl⟩) fun pd H3 hpd e3 hpd3 => ?_
  have ba : IsBord L false (mostOf L false) (brdS L false) := brd_is L false (mostOf L false)
  have bd : IsBord L true (mostOf L true) (brdS L true) := brd_is L true (mostOf L true)
  have m1 := hp.2.most1 false
  have m2 := hp.2.most1 true
  have la := ba.len m1.1
  have ld := bd.len m2.1
  have fa : at0 (brdS L false) 0 = 0 := ba.first m1.1
  have hAl : (brdS L false).length ≤ 100000 := ?lenA
  have hDl : (brdS L true).length ≤ 100000 := ?lenD
  have ha3 := e3 _ _ hpa2
  have hd3 := e3 _ _ (e2 _ _ hd1)
  have eH3 := (e1.trans e2).trans e3
  have ndA : pa ≠ d := fun q => by
    subst q
    rw [hd1] at hpa
    cases hpa
  have ndD : pd ≠ d := fun q => by
    subst q
    rw [e2 _ _ hd1] at hpd
    cases hpd
  have cnt0 : cntT L 0 0 = tab L fun _ => V.int 0 := rfl
  have row : ∀ j, cntT L (j + 1) 0 = cntT L j ((brdS L false).length - 1) := fun j => by
    unfold cntT cntF
    refine congrArg (tab L) (funext fun q => congrArg V.int ?_)
    show S _ j + S _ _ + 0 = _
    rw [Int.add_zero]
  have fin : cntT L ((brdS L true).length - 1) 0 = tab L fun q => V.int (areaN L q.nm) := by
    unfold cntT cntF areaN areaF
    refine congrArg (tab L) (funext fun q => congrArg V.int ?_)
    show S _ _ + 0 = _
    rw [Int.add_zero]
  refine q_forR1 (n := ((brdS L true).length : Int) - 1) (ea_cons (ev_is (ev_op (ev_len (ev_var rfl) (sq_of hpd3)) ev_c rv_I0) (by rw [List.length_map])) ea_nil) (by omega)
    (fun j σ' H' => ∃ (v4 v5 v6 v7 : Option V), σ' = [some (.ref a), some (.ref d), some (.ref pa), some (.ref pd), v4, v5, v6, v7] ∧ Ex H H' ∧ H' pa = some (.lst ((brdS L false).map V.int)) ∧ H' pd = some (.lst ((brdS L true).map V.int)) ∧ H' d = some (.dK (cntT L j 0)))
    (fun H4 e4 => ⟨_, _, _, _, rfl, eH3.trans e4, e4 _ _ ha3, e4 _ _ hpd3, by rw [cnt0]; exact e4 _ _ hd3⟩) ?_ ?_
  · rintro j σ' H' hj ⟨v4, v5, v6, v7, rfl, e4, ha4, hpd4, hd4⟩
    have hj1 : j + 1 < (brdS L true).length := by omega
    have bj := brd_lt hp.2 hj1
    show tFor _ _ _ _ _ _
    refine s_forR1 (n := ((brdS L false).length : Int) - 1) (ea_cons (ev_is (ev_op (ev_len (ev_var rfl) (sq_of ha4)) ev_c rv_I0) (by rw [List.length_map])) ea_nil) (by omega)
      (fun i σ2 H5 => ∃ (v5 v6 v7 : Option V), σ2 = [some (.ref a), some (.ref d), some (.ref pa), some (.ref pd), some (.int (j : Int)), v5, v6, v7] ∧ Ex H H5 ∧ H5 pa = some (.lst ((brdS L false).map V.int)) ∧ H5 pd = some (.lst ((brdS L true).map V.int)) ∧ H5 d = some (.dK (cntT L j i)))
      (fun H5 e5 => ⟨_, _, _, rfl, e4.trans e5, e5 _ _ ha4, e5 _ _ hpd4, e5 _ _ hd4⟩) ?_ ?_
    · rintro i σ2 H5 hi ⟨v5, v6, v7, rfl, e5, ha5, hpd5, hd5⟩
      have hi1 : i + 1 < (brdS L false).length := by omega
      have bi := brd_lt hp.2 hi1
      obtain ⟨v, hv⟩ := found_in hG (x := at0 (brdS L false) i) (y := at0 (brdS L true) j) ⟨bi.1, bi.2.1⟩ ⟨bj.1, bj.2.1⟩
      have hvn := (found_names hG hv).1
      have itA : ∀ (i : Nat) (z : Int), z = (i : Int) → i < (brdS L false).length → atI ((brdS L false).map V.int) z = some (.int (at0 (brdS L false) i)) := fun i z e h => by
        rw [e]
        exact atI_nat (by rw [List.getElem?_map, at0_get h]; rfl)
      have itD : ∀ (i : Nat) (z : Int), z = (i : Int) → i < (brdS L true).length → atI ((brdS L true).map V.int) z = some (.int (at0 (brdS L true) i)) := fun i z e h => by
        rw [e]
        exact atI_nat (by rw [List.getElem?_map, at0_get h]; rfl)
      refine q_asg (v := .int v) (ev_callF (ea_cons (ev_var rfl) (ea_cons (ev_op (ev_var rfl) (ev_var rfl) (rv_ixL (sq_of ha5) (itA i _ rfl (by omega)))) (ea_cons (ev_op (ev_var rfl) (ev_var rfl) (rv_ixL (sq_of hpd5) (itD j _ rfl (by omega)))) ea_nil)))
        fun H6 e6 => ⟨a, L, _, _, rfl, hp.ex (e5.trans e6), ⟨by omega, by omega⟩, ⟨by omega, by omega⟩, by rw [hv]; rfl⟩) fun H6 e6 => ?_
      have ha6 := e6 _ _ ha5
      have hpd6 := e6 _ _ hpd5
      have hd6 := e6 _ _ hd5
      refine s_dput (n := v) (kvs := cntT L j i) (v := .int (cntF L j i v + cellA (brdS L false) (brdS L true) i j)) ?_ (ev_var rfl) (ev_var rfl) hd6 (by
        unfold cntT tab
        rw [List.length_map]
        have := hp.len
        omega) fun H7 e7 => ?_
      · have hval : valV (cntT L j i) (Sum.inl v) = some (.int (cntF L j i v)) := by
          unfold cntT
          rw [tab_val hG.nodup _ hvn, (byN_mem hvn).2]
        refine ev_op (ev_dget (ev_var rfl) (ev_var rfl) hd6 hval) (ev_op (ev_op (ev_op (ev_var rfl) (ev_op (ev_var rfl) ev_c rv_I0) (rv_ixL (sq_of ha6) (itA (i + 1) _ (by omega) hi1))) (ev_op (ev_var rfl) (ev_var rfl) (rv_ixL (sq_of ha6) (itA i _ rfl (by omega)))) rv_I0)
          (ev_op (ev_op (ev_var rfl) (ev_op (ev_var rfl) ev_c rv_I0) (rv_ixL (sq_of hpd6) (itD (j + 1) _ (by omega) hj1))) (ev_op (ev_var rfl) (ev_var rfl) (rv_ixL (sq_of hpd6) (itD j _ rfl (by omega)))) rv_I0) (rv_I (.inl ⟨by omega, by omega⟩))) rv_I0
      · refine ⟨_, _, _, rfl, Ex.mut ((e5.trans e6).trans e7) hd, by rw [upd_ne ndA]; exact e7 _ _ ha6, by rw [upd_ne ndD]; exact e7 _ _ hpd6, ?_⟩
        rw [upd_same]
        unfold cntT
        rw [tab_put hG.nodup _ hvn]
        refine congrArg (fun z => some (HO.dK z)) (congrArg (tab L) (funext fun q => ?_))
        rw [cnt_next hv]
        split <;> rfl
    · rintro σ2 H5 ⟨v5, v6, v7, rfl, e5, ha5, hpd5, hd5⟩
      refine ⟨_, _, _, _, rfl, e5, ha5, hpd5, ?_⟩
      rw [row, hd5]
      congr 3
      omega
  · rintro σ' H' ⟨v4, v5, v6, v7, rfl, e4, ha4, hpd4, hd4⟩
    have e : (((brdS L true).length : Int) - 1).toNat = (brdS L true).length - 1 := by omega
    rw [e, fin] at hd4
    exact s_ret (ev_var rfl) fun H5 e5 => k d H5 hd (e4.trans e5) (e5 _ _ hd4)
  case lenA => exact Nat.le_trans (brd_len L false (mostOf L false)) (by have := hp.2.len; omega)
  case lenD => exact Nat.le_trans (brd_len L true (mostOf L true)) (by have := hp.2.len; omega)
end
end Kp
set_option Elab.async false
set_option linter.all false
set_option maxRecDepth 100000
set_option maxHeartbeats 4000000
/-! area_of, areas, bare -/
namespace Kp
open PySem PySem.Spec PyProof.Rows L2 Evl
def insSum (L : List LP) (n : Int) : Int := ((L.filter fun q => decide (n ∈ line L q.nm)).map fun q => areaN L q.nm).sum
section
variable {P : Program} {w : World} {K : PySem.W.Frag} {mg : Str → Option Value} {base : Heap}
theorem sc_area_of : FnScope ["plan", "name"] ["plan", "name"] (defScope s_area_of) := ⟨rfl, rfl, rfl, by decide +kernel, rfl, by decide +kernel, by decide +kernel⟩
theorem d_area_of (T : Top K mg) : DefAt P w K mg base 9 "area_of" ["plan", "name"] (SpF (ps_name fun L n => .int (areaN L n))) := by
  refine def_of T.f_area_of sc_area_of (by rintro _ _ _ _ ⟨_, ⟨_, _, _, rfl, _⟩, _⟩; rfl) (fun _ _ _ _ _ _ us hl => match us, hl with | [_, _], _ => rfl) ?_
  intro f cdv A outer s H vs Q E hr h
  obtain ⟨z, ⟨a, L, n, rfl, hp, hn, rfl⟩, k⟩ := h
  obtain ⟨rk, hG⟩ := hp.2
  refine ⟨_, (pss_cons (ps_expr (pe_callD (d_see_plan T) hr rfl (pa_cons (pv 0) pa_nil))) (pss_cons (ps_expr (pe_callD (d_see_name T) hr rfl (pa_cons (pv 0) (pa_cons (pv 1) pa_nil)))) (pss_one (ps_ret (pe_dget (hu_of hr) (pe_callD (d_counted T) hr rfl (pa_cons (pv 0) pa_nil)) (pv 1) (fun _ _ => rfl)))))), ?_⟩
  refine q_drop (ev_callF (ea_cons (ev_var rfl) ea_nil) fun H1 e1 => ⟨a, L, rfl, hp.ex e1, rfl⟩) fun H1 e1 => q_drop (ev_callF (ea_cons (ev_var rfl) (ea_cons (ev_var rfl) ea_nil)) fun H2 e2 => ⟨a, L, n, rfl, hp.ex (e1.trans e2), hn, rfl⟩) fun H2 e2 => ?_
  refine s_ret (ev_dgetD (ed_callD (ea_cons (ev_var rfl) ea_nil) fun H3 e3 => ⟨a, L, rfl, hp.ex ((e1.trans e2).trans e3), rfl⟩) (ev_var rfl) ?_) fun H3 e3 => k H3 ((e1.trans e2).trans e3)
  rw [tab_val hG.nodup _ hn, (byN_mem hn).2]
def ps_areas (vs : List V) (H : Hp) (z : List V) : Prop := ∃ (a : Addr) (L : List LP), vs = [.ref a] ∧ Pl H a L ∧ z = L.map fun q => V.int (areaN L q.nm)
theorem sc_areas : FnScope ["plan", "many", "pane"] ["plan"] (defScope s_areas) := ⟨rfl, rfl, rfl, by decide +kernel, rfl, by decide +kernel, by decide +kernel⟩
theorem d_areas (T : Top K mg) : DefAt P w K mg base 9 "areas" ["plan"] (SpN ps_areas) := by
  refine def_of T.f_areas sc_areas (by rintro _ _ _ _ ⟨_, ⟨_, _, rfl, _⟩, _⟩; rfl) (fun _ _ _ _ _ _ us hl => match us, hl with | [_], _ => rfl) ?_
  intro f cdv A outer s H vs Q E hr h
  obtain ⟨z, ⟨a, L, rfl, hp, rfl⟩, k⟩ := h
  obtain ⟨rk, hG⟩ := hp.2
  refine ⟨_, (pss_cons (ps_expr (pe_callD (d_see_plan T) hr rfl (pa_cons (pv 0) pa_nil))) (pss_cons (ps_set (i := 1) sc_areas.nd rfl (Or.inr rfl) (pe_callD (d_counted T) hr rfl (pa_cons (pv 0) pa_nil))) (pss_one (ps_ret (pe_lc (own := [("pane", 2)]) (g := (gName 2)) (tt := tYes) rfl sc_areas.nd (pi_tup (pv 0)) (blkOk_by (own := [("pane", 2)]) (N := ["plan", "many", "pane"]) (sc := defScope s_areas) (by decide +kernel)) (fun _ _ _ _ _ => (pg_name (i := 2) sc_areas.nd rfl (Or.inl rfl))) (fun _ _ _ _ _ => pts_nil) (fun _ _ _ _ _ => (pe_dget (hu_of hr) (pv 1) (pe_ix (ix_tupK (K := K) rfl) (pv 2) pe_int (fun _ _ => rfl)) (fun _ _ => rfl)))))))), ?_⟩
  refine q_drop (ev_callF (ea_cons (ev_var rfl) ea_nil) fun H1 e1 => ⟨a, L, rfl, hp.ex e1, rfl⟩) fun H1 e1 => ?_
  have hp1 := hp.ex e1
  refine q_asgD (ed_callD (ea_cons (ev_var rfl) ea_nil) fun H3 e3 => ⟨a, L, rfl, hp1.ex e3, rfl⟩) fun d H2 hd e2 hd2 => ?_
  have hp2 := hp1.ex e2
  refine s_retL (el_is (el_lcT (fun _ => true) (fun q : LP => V.int (areaN L q.nm)) (ev_var rfl) hp2.1.a hp.len (fun _ => rfl) (fun _ _ _ _ => el_yes (b := true)) fun q H3 e3 hq _ => ev_dget (ev_var rfl) (ev_at (v := .int q.nm) (ev_var rfl) ((hp2.1.ps q hq).ex e3).a (atI_nat (j := 0) rfl)) (e3 _ _ hd2) ?_) kept_all) fun p H3 hn3 e3 h3 => k p H3 (fresh_back (e1.trans e2) hn3) ((e1.trans e2).trans e3) h3
  rw [tab_val hG.nodup _ (nm_mem hq), byN_of hG hq]
theorem sc_bare : FnScope ["plan", "name", "many", "one"] ["plan", "name"] (defScope s_bare) := ⟨rfl, rfl, rfl, by decide +kernel, rfl, by decide +kernel, by decide +kernel⟩
theorem d_bare (T : Top K mg) : DefAt P w K mg base 9 "bare" ["plan", "name"] (SpF (ps_name fun L n => .bl (decide (0 < insSum L n)))) := by
  refine def_of T.f_bare sc_bare (by rintro _ _ _ _ ⟨_, ⟨_, _, _, rfl, _⟩, _⟩; rfl) (fun _ _ _ _ _ _ us hl => match us, hl with | [_, _], _ => rfl) ?_
  intro f cdv A outer s H vs Q E hr h
  obtain ⟨z, ⟨a, L, n, rfl, hp, hn, rfl⟩, k⟩ := h
  obtain ⟨rk, hG⟩ := hp.2
  refine ⟨_, (pss_cons (ps_expr (pe_callD (d_see_plan T) hr rfl (pa_cons (pv 0) pa_nil))) (pss_cons (ps_expr (pe_callD (d_see_name T) hr rfl (pa_cons (pv 0) (pa_cons (pv 1) pa_nil)))) (pss_cons (ps_set (i := 2) sc_bare.nd rfl (Or.inr rfl) (pe_callD (d_counted T) hr rfl (pa_cons (pv 0) pa_nil))) (pss_one (ps_ret (pe_cmpR op_gt (pe_callB (cr_sum rfl) (by rfl) T.g_sum PyProof.Rows.boot_sum (pa_cons (pe_lc (own := [("one", 3)]) (g := (gName 3)) (tt := tYes) rfl sc_bare.nd (pi_list (pe_callD (d_inside T) hr rfl (pa_cons (pv 0) (pa_cons (pv 1) pa_nil)))) (blkOk_by (own := [("one", 3)]) (N := ["plan", "name", "many", "one"]) (sc := defScope s_bare) (by decide +kernel)) (fun _ _ _ _ _ => (pg_name (i := 3) sc_bare.nd rfl (Or.inl rfl))) (fun _ _ _ _ _ => pts_nil) (fun _ _ _ _ _ => (pe_dget (hu_of hr) (pv 2) (pv 3) (fun _ _ => rfl)))) pa_nil)) pe_int (nomark _))))))), ?_⟩
  refine q_drop (ev_callF (ea_cons (ev_var rfl) ea_nil) fun H1 e1 => ⟨a, L, rfl, hp.ex e1, rfl⟩) fun H1 e1 => q_drop (ev_callF (ea_cons (ev_var rfl) (ea_cons (ev_var rfl) ea_nil)) fun H2 e2 => ⟨a, L, n, rfl, hp.ex (e1.trans e2), hn, rfl⟩) fun H2 e2 => ?_
  have hp2 := hp.ex (e1.trans e2)
  refine q_asgD (ed_callD (ea_cons (ev_var rfl) ea_nil) fun H3 e3 => ⟨a, L, rfl, hp2.ex e3, rfl⟩) fun d H3 hd e3 hd3 => ?_
  have hp3 := hp2.ex e3
  have hle : (L.filter fun q => decide (n ∈ line L q.nm)).length ≤ 40000 := Nat.le_trans (List.length_filter_le _ _) hp.len
  refine s_ret (v := .bl (decide (0 < insSum L n))) (ev_op (ev_sumNL (ns := (L.filter fun q => decide (n ∈ line L q.nm)).map fun q => areaN L q.nm) (el_is (el_lcNLa (L := L.filter fun q => decide (n ∈ line L q.nm)) (enc := fun q : LP => V.int q.nm) (fun _ => true) (fun q : LP => V.int (areaN L q.nm))
    (el_callN (ea_cons (ev_var rfl) (ea_cons (ev_var rfl) ea_nil)) fun H4 e4 => ⟨a, L, n, rfl, hp3.ex e4, hn, rfl⟩) hle (fun _ => rfl) (fun _ _ _ _ => el_yes (b := true)) fun q H4 e4 hq _ => ev_dget (ev_var rfl) (ev_var rfl) (e4 _ _ hd3) ?_) ?_)) ev_c rv_I0) fun H4 e4 => k H4 (((e1.trans e2).trans e3).trans e4)
  · have hqL := (List.mem_filter.mp hq).1
    rw [tab_val hG.nodup _ (nm_mem hqL), byN_of hG hqL]
  · rw [kept_all, List.map_map]
    rfl
end
end Kp
set_option Elab.async false
set_option linter.all false
set_option maxRecDepth 100000
set_option maxHeartbeats 4000000
/-! the law's own looks at a plan -/
namespace Kp
open PySem PySem.Spec PyProof.Rows L2 Evl
theorem GoodR.upSome {rk : Int → Nat} {L : List LP} (h : GoodR rk L) {n : Int} (hn : n ∈ names L) (h0 : n ≠ 0) : ∃ m, (byN L n).up = some m := by
  obtain ⟨h1, h2⟩ := byN_mem hn
  obtain ⟨g, r, rfl, hP⟩ := h
  rcases List.mem_cons.mp h1 with e | e
  · rw [e, hP.g0.1] at h2
    exact absurd h2.symm h0
  · obtain ⟨m, hm, _⟩ := hP.up _ e
    exact ⟨m, hm⟩
section
variable {P : Program} {w : World} {K : PySem.W.Frag} {mg : Str → Option Value} {base : Heap}
def ps_cell (K : PySem.W.Frag) (vs : List V) (H : Hp) (z : V) : Prop := ∃ (a : Addr) (ns : List Int), vs = [.ref a, .int 0] ∧ SqL K H a (ns.map V.int) ∧ z = .int (ns.getD 0 0)
theorem sc_law_cell : FnScope ["_law_script", "_law_k"] ["_law_script", "_law_k"] (defScope s_law_cell) := ⟨rfl, rfl, rfl, by decide +kernel, rfl, by decide +kernel, by decide +kernel⟩
theorem d_law_cell (T : Top K mg) : DefAt P w K mg base 1 "_law_cell" ["_law_script", "_law_k"] (SpF (ps_cell K)) := by
  refine def_of T.f_law_cell sc_law_cell (by rintro _ _ _ _ ⟨_, ⟨_, _, rfl, _⟩, _⟩; rfl) (fun _ _ _ _ _ _ us hl => match us, hl with | [_, _], _ => rfl) ?_
  intro f cdv A outer s H vs Q E hr h
  obtain ⟨z, ⟨a, ns, rfl, ha, rfl⟩, k⟩ := h
  refine ⟨_, (pss_cons (ps_if (pt_cmpR op_lt (pv 1) (pe_callB cr_lenS (by rfl) T.g_len PySem.boot_len (pa_cons (pv 0) pa_nil)) (nomark _)) (pss_one (ps_ret (pe_ix ix_list (pv 0) (pv 1) (fun _ _ => rfl)))) pss_nil) (pss_one (ps_ret pe_int))), ?_⟩
  refine q_when (et_test (ev_op (ev_var rfl) (ev_len (ev_var rfl) ha) rv_I0)) (fun hb H1 e1 => ?_) fun hb H1 e1 => ?_
  · have hl : 0 < ns.length := by simpa using hb
    refine s_ret (ev_op (ev_var rfl) (ev_var rfl) (rv_ixL (ex_l e1 ha) (atI_nat (j := 0) (v := .int (ns.getD 0 0)) ?_))) fun H2 e2 => k H2 (e1.trans e2)
    cases ns with
    | nil => simp at hl
    | cons x ns => rfl
  · have hl : ns = [] := by
      cases ns with
      | nil => rfl
      | cons x ns =>
        simp at hb
    subst hl
    exact s_ret ev_c fun H2 e2 => k H2 (e1.trans e2)
def ps_pen (vs : List V) (H : Hp) (z : List V) : Prop := ∃ c f : Int, vs = [.int c] ∧ f = (if decide (1000000000000000000 ≤ c) = true then 1 else 0) ∧ z = [.int c, .int f]
theorem rc_int1 {H : Hp} {b : Bool} : RC (fun xs H Q => (∃ i, xs = [.int i] ∧ Q (.int i) H) ∨ ∃ k : Bool, xs = [.bl k] ∧ Q (.int (if k then 1 else 0)) H) [.bl b] H (.int (if b = true then 1 else 0)) := fun H1 _ _ q => .inr ⟨b, rfl, q H1 (Ex.refl H1)⟩
theorem sc_law_pen : FnScope ["_law_cell_here"] ["_law_cell_here"] (defScope s_law_pen) := ⟨rfl, rfl, rfl, by decide +kernel, rfl, by decide +kernel, by decide +kernel⟩
theorem d_law_pen (T : Top K mg) : DefAt P w K mg base 1 "_law_pen" ["_law_cell_here"] (SpN ps_pen) := by
  refine def_of T.f_law_pen sc_law_pen (by rintro _ _ _ _ ⟨_, ⟨_, _, rfl, _⟩, _⟩; rfl) (fun _ _ _ _ _ _ us hl => match us, hl with | [_], _ => rfl) ?_
  intro f cdv A outer s H vs Q E hr h
  obtain ⟨z, ⟨c, fl, rfl, hf, rfl⟩, k⟩ := h
  refine ⟨_, (pss_one (ps_ret (pe_lst (pa_cons (pv 0) (pa_cons (pe_callTy call_int1 (by rfl) T.g_int PyProof.Rows.boot_int (pa_cons (pe_cmpR op_ge (pv 0) (pe_op op_pow pe_int pe_int) (nomark _)) pa_nil)) pa_nil))))), ?_⟩
  refine s_retL (el_lst (ea_cons (ev_var rfl) (ea_cons (ev_is (ev_cb (ea_cons (ev_op (ev_var rfl) (ev_op ev_c ev_c (rv_I ⟨by decide, by decide, by decide⟩)) rv_I0) ea_nil) rc_int1) ?_) ea_nil)) (by show 2 ≤ 100000; decide)) k
  rw [hf]
  rfl
def ps_lnames (vs : List V) (H : Hp) (z : List V) : Prop := ∃ (a : Addr) (L : List LP), vs = [.ref a] ∧ Pl H a L ∧ z = (names L).map V.int
theorem sc_law_names : FnScope ["_law_plan_here", "_law_pane_here"] ["_law_plan_here"] (defScope s_law_names) := ⟨rfl, rfl, rfl, by decide +kernel, rfl, by decide +kernel, by decide +kernel⟩
theorem d_law_names (T : Top K mg) : DefAt P w K mg base 1 "_law_names" ["_law_plan_here"] (SpN ps_lnames) := by
  refine def_of T.f_law_names sc_law_names (by rintro _ _ _ _ ⟨_, ⟨_, _, rfl, _⟩, _⟩; rfl) (fun _ _ _ _ _ _ us hl => match us, hl with | [_], _ => rfl) ?_
  intro f cdv A outer s H vs Q E hr h
  obtain ⟨z, ⟨a, L, rfl, hp, rfl⟩, k⟩ := h
  refine ⟨_, (pss_one (ps_ret (pe_lc (own := [("_law_pane_here", 1)]) (g := (gName 1)) (tt := tYes) rfl sc_law_names.nd (pi_tup (pv 0)) (blkOk_by (own := [("_law_pane_here", 1)]) (N := ["_law_plan_here", "_law_pane_here"]) (sc := defScope s_law_names) (by decide +kernel)) (fun _ _ _ _ _ => (pg_name (i := 1) sc_law_names.nd rfl (Or.inl rfl))) (fun _ _ _ _ _ => pts_nil) (fun _ _ _ _ _ => (pe_ix (ix_tupK (K := K) rfl) (pv 1) pe_int (fun _ _ => rfl)))))), ?_⟩
  refine s_retL (el_is (el_lcT (fun _ => true) (fun q : LP => V.int q.nm) (ev_var rfl) hp.1.a hp.len (fun _ => rfl) (fun _ _ _ _ => el_yes (b := true)) fun q H2 e2 hq _ => ev_at (ev_var rfl) ((hp.1.ps q hq).ex e2).a (atI_nat (j := 0) rfl)) ?_) k
  rw [kept_all]
  unfold names
  rw [List.map_map]
  rfl
theorem sc_law_by : FnScope ["_law_plan_here", "_law_name", "_law_pane_here"] ["_law_plan_here", "_law_name"] (defScope s_law_by) := ⟨rfl, rfl, rfl, by decide +kernel, rfl, by decide +kernel, by decide +kernel⟩
theorem d_law_by (T : Top K mg) : DefAt P w K mg base 1 "_law_by" ["_law_plan_here", "_law_name"] (SpF (ps_name fun L n => .ref (byN L n).ad)) := by
  refine def_of T.f_law_by sc_law_by (by rintro _ _ _ _ ⟨_, ⟨_, _, _, rfl, _⟩, _⟩; rfl) (fun _ _ _ _ _ _ us hl => match us, hl with | [_, _], _ => rfl) ?_
  intro f cdv A outer s H vs Q E hr h
  obtain ⟨z, ⟨a, L, n, rfl, hp, hn, rfl⟩, k⟩ := h
  refine ⟨_, (pss_one (ps_ret (pe_ix ix_list (pe_lc (own := [("_law_pane_here", 2)]) (g := (gName 2)) (tt := _) rfl sc_law_by.nd (pi_tup (pv 0)) (blkOk_by (own := [("_law_pane_here", 2)]) (N := ["_law_plan_here", "_law_name", "_law_pane_here"]) (sc := defScope s_law_by) (by decide +kernel)) (fun _ _ _ _ _ => (pg_name (i := 2) sc_law_by.nd rfl (Or.inl rfl))) (fun _ _ _ _ _ => (pts_one (pt_cmpR op_eq (pe_ix (ix_tupK (K := K) rfl) (pv 2) pe_int (fun _ _ => rfl)) (pv 1) (nomark _)))) (fun _ _ _ _ _ => (pv 2))) pe_int (fun _ _ => rfl)))), ?_⟩
  exact s_ret (ev_atNL (el_lcT (fun q : LP => decide (q.nm = n)) (fun q : LP => V.ref q.ad) (ev_var rfl) hp.1.a hp.len (fun _ => rfl)
    (fun q H1 e1 hq => et_is (et_test (ev_op (ev_at (v := .int q.nm) (ev_var rfl) ((hp.1.ps q hq).ex e1).a (atI_nat (j := 0) rfl)) (ev_var rfl) (rv_eq rfl))) dec_int) fun q H1 e1 hq _ => ev_var rfl) (atI_nat (j := 0) (kept_first hn))) k
theorem sc_law_ups : FnScope ["_law_plan_here", "_law_name", "_law_chain"] ["_law_plan_here", "_law_name"] (defScope s_law_ups) := ⟨rfl, rfl, rfl, by decide +kernel, rfl, by decide +kernel, by decide +kernel⟩
theorem d_law_ups (T : Top K mg) : DefAt P w K mg base 2 "_law_ups" ["_law_plan_here", "_law_name"] (SpN (ps_nameL lineV)) := by
  refine def_of T.f_law_ups sc_law_ups (by rintro _ _ _ _ ⟨_, ⟨_, _, _, rfl, _⟩, _⟩; rfl) (fun _ _ _ _ _ _ us hl => match us, hl with | [_, _], _ => rfl) ?_
  intro f cdv A outer s H vs Q E hr h
  obtain ⟨z, ⟨a, L, n, rfl, hp, hn, rfl⟩, k⟩ := h
  obtain ⟨rk, hG⟩ := hp.2
  refine ⟨_, (pss_cons (ps_set (i := 2) sc_law_ups.nd rfl (Or.inl rfl) (pe_lst (pa_cons (pv 1) pa_nil))) (pss_cons (ps_while PassesOwn.never (pt_cmpR op_ne (pe_ix ix_list (pv 2) (pe_un un_neg pe_int) (fun _ _ => rfl)) pe_int (nomark _)) (pss_one (ps_expr (pe_bm PySem.F.plainAttrs_list PySem.F.slot_list_append PySem.F.type_list_append mt_append (pv 2) (pa_cons (pe_ix ix_tup (pe_callD (d_law_by T) hr rfl (pa_cons (pv 0) (pa_cons (pe_ix ix_list (pv 2) (pe_un un_neg pe_int) (fun _ _ => rfl)) pa_nil))) pe_int (fun _ _ => rfl)) pa_nil))))) (pss_one (ps_ret (pv 2))))), ?_⟩
  refine q_asgL (el_lst (ea_cons (ev_var rfl) ea_nil) (by show 1 ≤ 100000; decide)) fun l H1 hl e1 hl1 => ?_
  refine q_while (fun m σ' H' => ∃ (xs : List Int) (u : Int), σ' = [some (.ref a), some (.int n), some (.ref l)] ∧ m = (line L u).length ∧ Ex H H' ∧ H' l = some (.lst ((xs ++ [u]).map V.int)) ∧ line L n = xs ++ line L u ∧ u ∈ names L) (line L n).length
    ⟨[], n, rfl, rfl, e1, hl1, rfl, hn⟩ ?_
  rintro m σ' H' ⟨xs, u, rfl, rfl, eH, hl', hxs, hu⟩
  have hlast : ∀ (H2 : Hp), H2 l = some (.lst ((xs ++ [u]).map V.int)) → Ev (tOp (rIxL K) (tVar 2) (tUn (rU fun i => V.int (-i)) (tC (.int 1)))) [some (.ref a), some (.int n), some (.ref l)] H2 (.int u) := fun H2 h2 =>
    ev_op (ev_var rfl) (ev_un ev_c ru_neg) (rv_ixL (sq_of h2) (by
      rw [List.map_append]
      exact atI_last _ _))
  refine ⟨_, et_test (ev_op (hlast H' hl') ev_c (rv_ne rfl)), fun hb H3 e3 => ⟨_, fun _ _ h => h, ?_⟩, fun hb H3 e3 => ?_⟩
  · have h0 : u ≠ 0 := fun e => by
      rw [e] at hb
      simp at hb
    obtain ⟨m, hm⟩ := hG.upSome hu h0
    have hmn := (hG.upN hu hm).1
    have hl3 := e3 _ _ hl'
    have hp3 := hp.ex (eH.trans e3)
    have hlen := line_len L n
    rw [hxs, List.length_append, line_some hG hu hm, List.length_cons] at hlen
    have hua := (hp3.byN hu).a
    rw [hm] at hua
    refine s_app (xs := (xs ++ [u]).map V.int) (v := .int m) hl3 (ev_var rfl) (ev_at (ev_callF (ea_cons (ev_var rfl) (ea_cons (hlast H3 hl3) ea_nil)) fun H4 e4 => ⟨a, L, u, rfl, hp3.ex e4, hu, rfl⟩) hua (atI_nat (j := 1) rfl)) (by rw [List.length_map, List.length_append, List.length_singleton]; omega) fun H4 e4 => ?_
    refine ⟨(line L m).length, by rw [line_some hG hu hm, List.length_cons]; omega, xs ++ [u], m, rfl, rfl, Ex.mut ((eH.trans e3).trans e4) hl, ?_, ?_, hmn⟩
    · rw [upd_same, List.map_append (l₂ := [m])]
      rfl
    · rw [hxs, line_some hG hu hm, List.append_assoc]
      rfl
  · have h0 : u = 0 := by simpa using hb
    subst h0
    refine s_ret (ev_var rfl) fun H4 e4 => k l H4 hl ((eH.trans e3).trans e4) ?_
    rw [e4 _ _ (e3 _ _ hl')]
    unfold lineV
    rw [hxs, line_none hG hu hG.zero.2.1]
def linsideV (L : List LP) (n : Int) : List V := (((names L).filter fun o => decide (n ∈ line L o))).map V.int
theorem sc_law_inside : FnScope ["_law_plan_here", "_law_name", "_law_one"] ["_law_plan_here", "_law_name"] (defScope s_law_inside) := ⟨rfl, rfl, rfl, by decide +kernel, rfl, by decide +kernel, by decide +kernel⟩
theorem d_law_inside (T : Top K mg) : DefAt P w K mg base 3 "_law_inside" ["_law_plan_here", "_law_name"] (SpN (ps_nameL linsideV)) := by
  refine def_of T.f_law_inside sc_law_inside (by rintro _ _ _ _ ⟨_, ⟨_, _, _, rfl, _⟩, _⟩; rfl) (fun _ _ _ _ _ _ us hl => match us, hl with | [_, _], _ => rfl) ?_
  intro f cdv A outer s H vs Q E hr h
  obtain ⟨z, ⟨a, L, n, rfl, hp, hn, rfl⟩, k⟩ := h
  refine ⟨_, (pss_one (ps_ret (pe_lc (own := [("_law_one", 2)]) (g := (gName 2)) (tt := _) rfl sc_law_inside.nd (pi_list (pe_callD (d_law_names T) hr rfl (pa_cons (pv 0) pa_nil))) (blkOk_by (own := [("_law_one", 2)]) (N := ["_law_plan_here", "_law_name", "_law_one"]) (sc := defScope s_law_inside) (by decide +kernel)) (fun _ _ _ _ _ => (pg_name (i := 2) sc_law_inside.nd rfl (Or.inl rfl))) (fun _ _ _ _ _ => (pts_one (pt_cmpR (op_in_seqK (K := K) rfl) (pv 1) (pe_callD (d_law_ups T) hr rfl (pa_cons (pv 0) (pa_cons (pv 2) pa_nil))) (by rfl)))) (fun _ _ _ _ _ => (pv 2))))), ?_⟩
  refine s_retL (el_lcNLa (L := names L) (enc := V.int) (fun o : Int => decide (n ∈ line L o)) V.int (el_callN (ea_cons (ev_var rfl) ea_nil) fun H1 e1 => ⟨a, L, rfl, hp.ex e1, rfl⟩) (by unfold names; rw [List.length_map]; exact hp.len) (fun _ => rfl)
    (fun o H1 e1 ho => et_is (et_test (ev_opL (ev_var rfl) (el_callN (ea_cons (ev_var rfl) (ea_cons (ev_var rfl) ea_nil)) fun H2 e2 => ⟨a, L, o, rfl, hp.ex (e1.trans e2), ho, rfl⟩)
      fun p H2 hp2 e2 => rv_isL (sq_of hp2) rfl (flat_int _))) inV_int) fun o H1 e1 ho _ => ev_var rfl) k
theorem sc_law_is_number : FnScope ["_law_thing", "_law_least", "_law_greatest"] ["_law_thing", "_law_least", "_law_greatest"] (defScope s_law_is_number) := ⟨rfl, rfl, rfl, by decide +kernel, rfl, by decide +kernel, by decide +kernel⟩
theorem d_law_is_number (T : Top K mg) : DefAt P w K mg base 1 "_law_is_number" ["_law_thing", "_law_least", "_law_greatest"] (SpF ps_is_number) := by
  refine def_of T.f_law_is_number sc_law_is_number (by rintro _ _ _ _ ⟨_, ⟨_, _, _, rfl, _⟩, _⟩; rfl) (fun _ _ _ _ _ _ us hl => match us, hl with | [_, _, _], _ => rfl) ?_
  intro f cdv A outer s H vs Q E hr h
  obtain ⟨z, ⟨n, lo, hi, rfl, h1, h2, rfl⟩, k⟩ := h
  refine ⟨_, (pss_one (ps_ret (pe_and (pe_callB call_isi (by rfl) T.g_isinstance PyProof.Rows.boot_isinstance (pa_cons (pv 0) (pa_cons (pe_bltn (v := .ty "int") (by rfl) T.g_int PyProof.Rows.boot_int rfl) pa_nil))) (pe_and (pe_not (pe_callB call_isi (by rfl) T.g_isinstance PyProof.Rows.boot_isinstance (pa_cons (pv 0) (pa_cons (pe_bltn (v := .ty "bool") (by rfl) T.g_bool PyProof.Rows.boot_bool rfl) pa_nil)))) (pe_one (pe_chain op_le op_le (pv 1) (pv 0) (pv 2))))))), ?_⟩
  refine s_ret (ev_is (ev_andV (ev_cb (ea_cons (ev_var rfl) (ea_cons ev_c ea_nil)) (rc_isi (b := true) ty_int (by decide +kernel))) fun _ =>
    ev_andV (ev_notV (ev_cb (ea_cons (ev_var rfl) (ea_cons ev_c ea_nil)) (rc_isi (b := false) ty_int (by decide +kernel)))) fun _ =>
      ev_chain (ev_var rfl) (ev_var rfl) rv_I0 (ev_var rfl) rv_I0) ?_) k
  rw [decide_eq_true h1, decide_eq_true h2]
  rfl
end
end Kp
set_option Elab.async false
set_option linter.all false
set_option maxRecDepth 100000
set_option maxHeartbeats 4000000
/-! draws and picks -/
namespace Kp
open PySem PySem.Spec PyProof.Rows L2 Evl
def preDraw (_ : Addr) (r : List V) (_ : Hp) : Prop := ∃ b : Int, r = [.int b] ∧ 1 ≤ b ∧ b ≤ 1000000
def poDraw (r : List V) (_ : Hp) (v : V) (_ : Hp) : Prop := ∃ b d : Int, r = [.int b] ∧ v = .int d ∧ 0 ≤ d ∧ d < b
theorem fm {n b : Int} (hb : 1 ≤ b) : 0 ≤ n.fmod b ∧ n.fmod b < b := ⟨Int.fmod_nonneg_of_pos _ (by omega), Int.fmod_lt_of_pos _ (by omega)⟩
section
variable {P : Program} {w : World} {K : PySem.W.Frag} {mg : Str → Option Value} {base : Heap}
theorem sc_law_draw : FnScope ["_law_pen_here", "_law_bound", "_law_drawn"] ["_law_pen_here", "_law_bound"] (defScope s_law_draw) := ⟨rfl, rfl, rfl, by decide +kernel, rfl, by decide +kernel, by decide +kernel⟩
theorem d_law_draw (T : Top K mg) : DefAt P w K mg base 1 "_law_draw" ["_law_pen_here", "_law_bound"] (SpP preDraw poDraw) := by
  refine def_of T.f_law_draw sc_law_draw (by rintro _ _ _ _ ⟨_, _, rfl, _, ⟨_, rfl, _⟩, _⟩; rfl) (fun _ _ _ _ _ _ us hl => match us, hl with | [_, _], _ => rfl) ?_
  intro f cdv A outer s H vs Q E hr h
  obtain ⟨p, _, rfl, ⟨n, fl, hp⟩, ⟨b, rfl, hb1, hb2⟩, k⟩ := h
  refine ⟨_, (pss_cons (ps_if (pt_cmpR op_eq (pe_ix ix_list (pv 0) pe_int (fun _ _ => rfl)) pe_int (nomark _)) (pss_cons (ps_set (i := 2) sc_law_draw.nd rfl (Or.inl rfl) (pe_op op_modN (pe_ix ix_list (pv 0) pe_int (fun _ _ => rfl)) (pv 1))) (pss_cons (ps_asg (pe_op op_fdivN (pe_ix ix_list (pv 0) pe_int (fun _ _ => rfl)) (pv 1)) (pg_sub (pv 0) pe_int set_list)) (pss_one (ps_ret (pv 2))))) pss_nil) (pss_cons (ps_asg (pe_op op_modN (pe_op op_add (pe_op op_mul (pe_op op_modN (pe_ix ix_list (pv 0) pe_int (fun _ _ => rfl)) pe_int) pe_int) pe_int) pe_int) (pg_sub (pv 0) pe_int set_list)) (pss_one (ps_ret (pe_op op_modN (pe_op op_fdivN (pe_op op_modN (pe_op op_add (pe_op op_mul (pe_ix ix_list (pv 0) pe_int (fun _ _ => rfl)) (pe_ix ix_list (pv 0) pe_int (fun _ _ => rfl))) (pe_op op_mul pe_int (pe_ix ix_list (pv 0) pe_int (fun _ _ => rfl)))) pe_int) pe_int) (pv 1)))))), ?_⟩
  have i0 : ∀ {H1 : Hp} {xs : List V} {x : V} {v2 : Option V}, H1 p = some (.lst (x :: xs)) → Ev (tOp (rIxL K) (tVar 0) (tC (.int 0))) [some (.ref p), some (.int b), v2] H1 x := fun h => ev_op (ev_var rfl) ev_c (rv_ixL (sq_of h) (atI_nat (j := 0) rfl))
  refine q_when (et_test (ev_op (ev_op (ev_var rfl) ev_c (rv_ixL (sq_of hp) (atI_nat (j := 1) rfl))) ev_c (rv_eq rfl))) (fun hb H1 e1 => ?_) (fun hb H1 e1 => ?_)
  · have h1 := e1 _ _ hp
    refine q_asg (ev_op (i0 h1) (ev_var rfl) (rv_I (by omega))) fun H2 e2 => ?_
    have h2 := e2 _ _ h1
    refine q_setL (j := 0) h2 (ev_op (i0 h2) (ev_var rfl) (rv_I ⟨by omega, by omega⟩)) (ev_var rfl) ev_c (by show 0 < 2; decide) fun H3 e3 => ?_
    refine s_ret (ev_var rfl) fun H4 e4 => k _ H4 (((Xp.of ((e1.trans e2).trans e3)).pen).trans (Xp.of e4)) ⟨_, _, e4 _ _ upd_same⟩ ⟨b, _, rfl, rfl, (fm hb1).1, (fm hb1).2⟩
  · have h1 := e1 _ _ hp
    have m1 := fm (n := n) (b := 2147483629) (by decide)
    refine q_setL (j := 0) h1 (ev_op (ev_op (ev_op (ev_op (i0 h1) ev_c (rv_I (by decide))) ev_c (rv_I (.inl ⟨by omega, by omega⟩))) ev_c rv_I0) ev_c (rv_I (by decide))) (ev_var rfl) ev_c (by show 0 < 2; decide) fun H3 e3 => ?_
    have m2 := fm (n := n.fmod 2147483629 * 48271 + 11) (b := 2147483629) (by decide)
    generalize (n.fmod 2147483629 * 48271 + 11).fmod 2147483629 = n' at m2
    have h3 : (upd H3 p (.lst ([.int n, .int fl].set 0 (.int n')))) p = some (.lst [.int n', .int fl]) := upd_same
    refine s_ret (ev_op (ev_op (ev_op (ev_op (ev_op (i0 h3) (i0 h3) (rv_I (.inl ⟨by omega, by omega⟩))) (ev_op ev_c (i0 h3) (rv_I (.inl ⟨by decide, by decide⟩))) rv_I0) ev_c (rv_I (by decide))) ev_c (rv_I ⟨by decide, by decide⟩)) (ev_var rfl) (rv_I (by omega))) fun H4 e4 => ?_
    exact k _ H4 (((Xp.of (e1.trans e3)).pen).trans (Xp.of e4)) ⟨_, _, e4 _ _ h3⟩ ⟨b, _, rfl, rfl, (fm hb1).1, (fm hb1).2⟩
theorem g_draw {σ : L2.St} {H : Hp} {ta : TA} {Q : VK} {p : Addr} {E : XK} {b : Int} (ha : EvA ta σ H [.ref p, .int b]) (hp : Pen p H) (hb : 1 ≤ b ∧ b ≤ 1000000) (k : ∀ d H', 0 ≤ d → d < b → Xp p H H' → Pen p H' → Q (.int d) H') :
    tCall (SpP preDraw poDraw) [] E ta σ H Q := g_call ha hp (fun _ _ => ⟨b, rfl, hb.1, hb.2⟩) fun v H0 H' _ x pn po => by
  obtain ⟨b', d, e, rfl, h1, h2⟩ := po
  cases e
  exact k d H' h1 h2 x pn
/-- a list or tuple apart from the pen -/
def ThAt (p : Addr) (H : Hp) (t : Addr) (xs : List V) : Prop := t ≠ p ∧ (H t = some (.lst xs) ∨ H t = some (.tup xs))
theorem ThAt.x {p : Addr} {H H' : Hp} {t : Addr} {xs : List V} (h : ThAt p H t xs) (x : Xp p H H') : ThAt p H' t xs := ⟨h.1, h.2.imp (x _ _ h.1) (x _ _ h.1)⟩
def prePick (p : Addr) (r : List V) (H : Hp) : Prop := (∃ t xs, r = [.ref t] ∧ ThAt p H t xs ∧ 1 ≤ xs.length ∧ xs.length ≤ 1000) ∨ ∃ z : Str, r = [.str z] ∧ 1 ≤ z.length ∧ z.length ≤ 1000
def poPick (r : List V) (H : Hp) (v : V) (_ : Hp) : Prop := (∃ t xs, r = [.ref t] ∧ (H t = some (.lst xs) ∨ H t = some (.tup xs)) ∧ v ∈ xs) ∨ ∃ (z : Str) (c : Nat), r = [.str z] ∧ v = .str ⟨#[c]⟩ ∧ c ∈ z.cps.toList
theorem atI_in {α : Type} {xs : List α} {d : Int} (h0 : 0 ≤ d) (h1 : d < xs.length) : ∃ v, atI xs d = some v ∧ v ∈ xs := by
  obtain ⟨n, rfl⟩ := Int.eq_ofNat_of_zero_le h0
  have hn : n < xs.length := by omega
  exact ⟨xs[n], atI_nat (List.getElem?_eq_getElem hn), List.getElem_mem hn⟩
theorem sc_law_pick : FnScope ["_law_pen_here", "_law_things"] ["_law_pen_here", "_law_things"] (defScope s_law_pick) := ⟨rfl, rfl, rfl, by decide +kernel, rfl, by decide +kernel, by decide +kernel⟩
theorem d_law_pick (T : Top K mg) : DefAt P w K mg base 2 "_law_pick" ["_law_pen_here", "_law_things"] (SpP prePick poPick) := by
  refine def_of T.f_law_pick sc_law_pick (by
    rintro _ _ _ _ ⟨_, _, rfl, _, (⟨_, _, rfl, _⟩ | ⟨_, rfl, _⟩), _⟩ <;> rfl) (fun _ _ _ _ _ _ us hl => match us, hl with | [_, _], _ => rfl) ?_
  intro f cdv A outer s H vs Q E hr h
  obtain ⟨p, r, rfl, hp, hpre, k⟩ := h
  rcases hpre with ⟨t, xs, rfl, ⟨ht, ha⟩, l1, l2⟩ | ⟨z, rfl, l1, l2⟩
  · rcases ha with ha | ha
    · refine ⟨_, (pss_one (ps_ret (pe_ix ix_list (pv 1) (pe_callD (d_law_draw T) hr rfl (pa_cons (pv 0) (pa_cons (pe_callB cr_lenS (by rfl) T.g_len PySem.boot_len (pa_cons (pv 1) pa_nil)) pa_nil))) (fun _ _ => rfl)))), ?_⟩
      refine c_ret (c_op (er (ev_var rfl) fun H1 e1 => g_draw (ea_cons (ev_var rfl) (ea_cons (ev_len (ev_var rfl) (sq_of (e1 _ _ ha))) ea_nil)) (hp.ex e1) ⟨by omega, by omega⟩ fun d H2 hd0 hd1 x2 p2 => ?_))
      obtain ⟨v, hv, hm⟩ := atI_in hd0 hd1
      exact rv_ixL (K := K) (sq_of (x2 _ _ ht (e1 _ _ ha))) hv H2 (Ex.refl H2) _ fun H3 e3 => k v H3 (((Xp.of e1).trans x2).trans (Xp.of e3)) (p2.ex e3) (.inl ⟨t, xs, rfl, .inl ha, hm⟩)
    · refine ⟨_, (pss_one (ps_ret (pe_ix ix_tup (pv 1) (pe_callD (d_law_draw T) hr rfl (pa_cons (pv 0) (pa_cons (pe_callB cr_lenS (by rfl) T.g_len PySem.boot_len (pa_cons (pv 1) pa_nil)) pa_nil))) (fun _ _ => rfl)))), ?_⟩
      refine c_ret (c_op (er (ev_var rfl) fun H1 e1 => g_draw (ea_cons (ev_var rfl) (ea_cons (ev_lenT (ev_var rfl) (e1 _ _ ha)) ea_nil)) (hp.ex e1) ⟨by omega, by omega⟩ fun d H2 hd0 hd1 x2 p2 => ?_))
      obtain ⟨v, hv, hm⟩ := atI_in hd0 hd1
      exact rv_ixT (K := K) (st_of (x2 _ _ ht (e1 _ _ ha))) hv H2 (Ex.refl H2) _ fun H3 e3 => k v H3 (((Xp.of e1).trans x2).trans (Xp.of e3)) (p2.ex e3) (.inl ⟨t, xs, rfl, .inr ha, hm⟩)
  · refine ⟨_, (pss_one (ps_ret (pe_ix ix_str (pv 1) (pe_callD (d_law_draw T) hr rfl (pa_cons (pv 0) (pa_cons (pe_callB call_len_str (by rfl) T.g_len PySem.boot_len (pa_cons (pv 1) pa_nil)) pa_nil))) (fun _ _ => rfl)))), ?_⟩
    refine c_ret (c_op (er (ev_var rfl) fun H1 e1 => g_draw (ea_cons (ev_var rfl) (ea_cons (ev_cb (ea_cons (ev_var rfl) ea_nil) (rc_lenStr (by omega))) ea_nil)) (hp.ex e1) ⟨by omega, by omega⟩ fun d H2 hd0 hd1 x2 p2 => ?_))
    obtain ⟨c, hc, hm⟩ := atI_in (xs := z.cps.toList) hd0 (by rw [Array.length_toList]; exact hd1)
    exact rv_ixS (by omega) hc H2 (Ex.refl H2) _ fun H3 e3 => k _ H3 (((Xp.of e1).trans x2).trans (Xp.of e3)) (p2.ex e3) (.inr ⟨z, c, rfl, rfl, hm⟩)
/-- of a list apart -/
theorem g_pick {σ : L2.St} {H : Hp} {ta : TA} {Q : VK} {p t : Addr} {E : XK} {xs : List V} (ha : EvA ta σ H [.ref p, .ref t]) (hp : Pen p H) (ht : ThAt p H t xs) (hl : 1 ≤ xs.length ∧ xs.length ≤ 1000) (k : ∀ v H', v ∈ xs → Xp p H H' → Pen p H' → Q v H') :
    tCall (SpP prePick poPick) [] E ta σ H Q := g_call ha hp (fun H1 e1 => .inl ⟨t, xs, rfl, ht.x (Xp.of e1), hl⟩) fun v H0 H' e0 x pn po => by
  rcases po with ⟨t', ys, e, h, hv⟩ | ⟨z, c, e, _⟩
  · cases e
    have h2 := (ht.x (Xp.of e0)).2
    have : ys = xs := by
      rcases h with h | h <;> rcases h2 with h2 | h2 <;> rw [h] at h2 <;> cases h2 <;> rfl
    subst this
    exact k v H' hv x pn
  · cases e
theorem g_pickS {σ : L2.St} {H : Hp} {ta : TA} {Q : VK} {p : Addr} {E : XK} {z : Str} (ha : EvA ta σ H [.ref p, .str z]) (hp : Pen p H) (hl : 1 ≤ z.length ∧ z.length ≤ 1000) (k : ∀ c H', c ∈ z.cps.toList → Xp p H H' → Pen p H' → Q (.str ⟨#[c]⟩) H') :
    tCall (SpP prePick poPick) [] E ta σ H Q := g_call ha hp (fun H1 e1 => .inr ⟨z, rfl, hl⟩) fun v H0 H' e0 x pn po => by
  rcases po with ⟨t', ys, e, h, hv⟩ | ⟨z', c, e, rfl, hc⟩
  · cases e
  · cases e
    exact k c H' hc x pn
/-- of a list that is made on the way (of what is known) -/
theorem g_pickL {σ : L2.St} {H : Hp} {te tp : TE} {Q : VK} {p : Addr} {E : XK} {xs : List V} (hv : Ev tp σ H (.ref p)) (h : EvL te σ H xs) (hp : Pen p H) (hl : 1 ≤ xs.length ∧ xs.length ≤ 1000) (k : ∀ v H', v ∈ xs → Xp p H H' → Pen p H' → Q v H') :
    tCall (SpP prePick poPick) [] E (tCons tp (tCons te tNil)) σ H Q := c_call (c_cons (er hv fun H1 e1 => c_cons (h H1 e1 _ fun t H2 hn e2 ht => c_nil ⟨p, [.ref t], rfl, (hp.ex e1).ex e2, .inl ⟨t, xs, rfl, ⟨(hp.ex e1).some hn, .inl ht⟩, hl⟩, fun v H' x pn po => by
    rcases po with ⟨t', ys, e, h, hv⟩ | ⟨z, c, e, _⟩
    · cases e
      have : ys = xs := by
        rcases h with h | h <;> rw [h] at ht <;> cases ht
        rfl
      subst this
      exact k v H' hv ((Xp.of (e1.trans e2)).trans x) pn
    · cases e⟩)))
end
end Kp
set_option Elab.async false
set_option linter.all false
set_option maxRecDepth 100000
set_option maxHeartbeats 4000000
/-! what the law mixes and makes: names, boxes, keys, ways, deeds -/
namespace Kp
open PySem PySem.Spec PyProof.Rows L2 Evl
section
variable {K : PySem.W.Frag} {σ : L2.St} {H : Hp} {te tb : TE} {ta tr : TA} {Q : VK} {v : V} {D : Ends} {r : R2}
theorem c_par {i j : Nat} (h : ta σ H fun vs H1 => ∃ v w, vs = [v, w] ∧ D.nx ((σ.set i (some v)).set j (some w)) H1) : tPar i j ta D σ H := h
theorem c_bm {T : String} {rm : V → List V → Hp → VK → Prop} (h : te σ H fun x H1 => tyV K T x H1 ∧ ta σ H1 fun xs H2 => rm x xs H2 Q) : tBM K T rm te ta σ H Q := h
/-- a list of new tuples -/
def TupsAt (H : Hp) (ps : List Addr) (bs : List (List V)) : Prop := Paired (fun a xs => H a = some (.tup xs)) ps bs
theorem TupsAt.tm {H H' : Hp} (e : Tm H H') : ∀ {ps : List Addr} {bs : List (List V)}, TupsAt H ps bs → TupsAt H' ps bs
  | _, _, .nil => .nil
  | _, _, .cons r t => .cons (e _ _ r) (TupsAt.tm e t)
theorem TupsAt.len {H : Hp} : ∀ {ps : List Addr} {bs : List (List V)}, TupsAt H ps bs → ps.length = bs.length
  | _, _, .nil => rfl
  | _, _, .cons _ t => congrArg Nat.succ (TupsAt.len t)
theorem TupsAt.app {H : Hp} : ∀ {ps qs : List Addr} {bs cs : List (List V)}, TupsAt H ps bs → TupsAt H qs cs → TupsAt H (ps ++ qs) (bs ++ cs)
  | _, _, _, _, .nil, h => h
  | _, _, _, _, .cons r t, h => .cons r (TupsAt.app t h)
theorem TupsAt.mem {H : Hp} : ∀ {ps : List Addr} {bs : List (List V)}, TupsAt H ps bs → ∀ {v : V}, v ∈ ps.map V.ref → ∃ a xs, v = .ref a ∧ H a = some (.tup xs) ∧ xs ∈ bs
  | _, _, .nil, v, h => by simp at h
  | a :: ps, xs :: bs, .cons r t, v, h => by
    rcases List.mem_cons.mp h with rfl | h
    · exact ⟨a, xs, rfl, r, List.mem_cons_self⟩
    · obtain ⟨a', xs', e, h1, h2⟩ := TupsAt.mem t h
      exact ⟨a', xs', e, h1, List.mem_cons_of_mem _ h2⟩
def EvAT (ta : TA) (σ : L2.St) (H : Hp) (bs : List (List V)) : Prop := ∀ H1, Ex H H1 → ∀ Q : List V → Hp → Prop, (∀ ps H2, Ex H1 H2 → TupsAt H2 ps bs → Q (ps.map V.ref) H2) → ta σ H1 Q
theorem eat_nil : EvAT tNil σ H [] := fun H1 _ _ q => q [] H1 (Ex.refl H1) .nil
theorem eat_cons {xs : List V} {bs : List (List V)} (hu : EvU te σ H xs) (hr : EvAT tr σ H bs) : EvAT (tCons te tr) σ H (xs :: bs) := fun H1 e Q q => hu H1 e _ fun a H2 _ e2 ha => hr H2 (e.trans e2) _ fun ps H3 e3 hp => q (a :: ps) H3 (e2.trans e3) (.cons (e3 _ _ ha) hp)
def EvLT (te : TE) (σ : L2.St) (H : Hp) (bs : List (List V)) : Prop := ∀ H1, Ex H H1 → ∀ Q : VK, (∀ p ps H2, H1 p = none → Ex H1 H2 → H2 p = some (.lst (ps.map V.ref)) → TupsAt H2 ps bs → Q (.ref p) H2) → te σ H1 Q
theorem elt_lst {bs : List (List V)} (h : EvAT ta σ H bs) (hl : bs.length ≤ 1000) : EvLT (tLst ta) σ H bs := fun H1 e Q q => h H1 e _ fun ps H2 e2 hp => ⟨by rw [List.length_map, hp.len]; exact Nat.le_trans hl (by decide), fun p hn => q p ps _ (fresh_back e2 hn) (e2.trans (Ex.new hn)) upd_same (hp.tm (.of (Ex.new hn)))⟩
theorem ev_p6 : Ev (tOp (rI CPow fun i j => .int (i ^ j.toNat)) (tC (.int 10)) (tC (.int 6))) σ H (.int 1000000) := ev_is (ev_op ev_c ev_c (rv_I ⟨by decide, by decide, by decide⟩)) (congrArg V.int (by decide))
theorem ev_neg {i : Int} (h : Ev te σ H (.int i)) : Ev (tUn (rU fun i => .int (-i)) te) σ H (.int (-i)) := ev_un h ru_neg
end
section
variable {P : Program} {w : World} {K : PySem.W.Frag} {mg : Str → Option Value} {base : Heap}
def preMix (p : Addr) (r : List V) (H : Hp) : Prop := ∃ (t : Addr) (ns : List Int), r = [.ref t] ∧ ThAt p H t (ns.map V.int) ∧ ns.length ≤ 1000
def poMix (r : List V) (H : Hp) (v : V) (H' : Hp) : Prop := ∃ (t : Addr) (ns ms : List Int) (l : Addr), r = [.ref t] ∧ (H t = some (.lst (ns.map V.int)) ∨ H t = some (.tup (ns.map V.int))) ∧ v = .ref l ∧ H l = none ∧ H' l = some (.lst (ms.map V.int)) ∧ ms.Perm ns
theorem erase_perm : ∀ {xs : List Int} {k : Nat} {y : Int}, xs[k]? = some y → (y :: xs.eraseIdx k).Perm xs
  | [], k, y, h => by simp at h
  | x :: xs, 0, y, h => by
    have e : x = y := Option.some.inj h
    rw [e]
    exact List.Perm.refl _
  | x :: xs, k + 1, y, h => (List.Perm.swap x y _).trans ((erase_perm (xs := xs) (k := k) (y := y) h).cons x)
theorem erase_map (f : Int → V) : ∀ (xs : List Int) (k : Nat), (xs.map f).eraseIdx k = (xs.eraseIdx k).map f
  | [], _ => rfl
  | _ :: _, 0 => rfl
  | x :: xs, k + 1 => congrArg (f x :: ·) (erase_map f xs k)
theorem sc_law_mixed : FnScope ["_law_pen_here", "_law_things", "_law_left", "_law_drawn"] ["_law_pen_here", "_law_things"] (defScope s_law_mixed) := ⟨rfl, rfl, rfl, by decide +kernel, rfl, by decide +kernel, by decide +kernel⟩
theorem d_law_mixed (T : Top K mg) : DefAt P w K mg base 2 "_law_mixed" ["_law_pen_here", "_law_things"] (SpP preMix poMix) := by
  refine def_of T.f_law_mixed sc_law_mixed (by rintro _ _ _ _ ⟨_, _, rfl, _, ⟨_, _, rfl, _⟩, _⟩; rfl) (fun _ _ _ _ _ _ us hl => match us, hl with | [_, _], _ => rfl) ?_
  intro f cdv A outer s H vs Q E hr h
  obtain ⟨p, _, rfl, hp, ⟨t, ns, rfl, ht, hl⟩, k⟩ := h
  refine ⟨_, (pss_cons (ps_par (i := 2) (j := 3) (by rfl) sc_law_mixed.nd rfl rfl (by decide) rfl rfl (pa_cons (pe_callTy cr_listS (by rfl) T.g_list PyProof.Rows.boot_list (pa_cons (pv 1) pa_nil)) (pa_cons (pe_lst pa_nil) pa_nil)) (by rfl)) (pss_cons (ps_while PassesOwn.never (pt_cmpR (op_neNil hr.units0) (pv 2) (pe_lst pa_nil) (nomark _)) (pss_one (ps_expr (pe_bm PySem.F.plainAttrs_list PySem.F.slot_list_append PySem.F.type_list_append mt_append (pv 3) (pa_cons (pe_bm PySem.F.plainAttrs_list PySem.F.slot_list_pop PySem.F.type_list_pop mt_popAt (pv 2) (pa_cons (pe_callD (d_law_draw T) hr rfl (pa_cons (pv 0) (pa_cons (pe_callB cr_lenS (by rfl) T.g_len PySem.boot_len (pa_cons (pv 2) pa_nil)) pa_nil))) pa_nil)) pa_nil))))) (pss_one (ps_ret (pv 3))))), ?_⟩
  have hlist : EvL (tCB (rListS K) (tCons (tVar 1) tNil)) (L2.start ["_law_pen_here", "_law_things", "_law_left", "_law_drawn"] [.ref p, .ref t]) H (ns.map V.int) := by
    rcases ht.2 with h1 | h1
    · exact el_list (ev_var rfl) (sq_of h1)
    · exact fun H1 e Q q => ⟨_, rfl, t, _, rfl, .inr (st_of (e _ _ h1)), fun l hl => q l _ hl (Ex.new hl) upd_same⟩
  refine c_seq (c_par (c_cons (hlist H (Ex.refl H) _ fun lf H1 hlf e1 hlf1 => c_cons (el_lst ea_nil (by show 0 ≤ 100000; decide) H1 (Ex.refl H1) _ fun dr H2 hdr e2 hdr2 => c_nil ⟨_, _, rfl, ?_⟩))))
  have hlp : lf ≠ p := hp.some hlf
  have hdp : dr ≠ p := (hp.ex e1).some hdr
  have hld : lf ≠ dr := ne_of_none hlf1 hdr
  refine q_while (fun m σ' H' => ∃ ls ms : List Int, σ' = [some (.ref p), some (.ref t), some (.ref lf), some (.ref dr)] ∧ m = ls.length ∧ Xp p H H' ∧ Pen p H' ∧ H' lf = some (.lst (ls.map V.int)) ∧ H' dr = some (.lst (ms.map V.int)) ∧ (ms ++ ls).Perm ns) ns.length
    ⟨ns, [], rfl, rfl, Xp.of (e1.trans e2), hp.ex (e1.trans e2), e2 _ _ hlf1, hdr2, List.Perm.refl _⟩ ?_
  rintro m σ' H' ⟨ls, ms, rfl, rfl, x', p', hlf', hdr', hpm⟩
  have hlen := hpm.length_eq
  rw [List.length_append] at hlen
  refine ⟨_, et_test (ev_opL (ev_var rfl) (el_lst ea_nil (by show 0 ≤ 100000; decide)) fun q H3 hq e3 => rv_neNil (e3 _ _ hlf') hq), fun hb H3 e3 => ⟨_, fun _ _ h => h, ?_⟩, fun hb H3 e3 => ?_⟩
  · have hls : 1 ≤ ls.length := by
      cases ls with
      | nil => cases hb
      | cons a l => exact Nat.succ_le_succ (Nat.zero_le _)
    refine c_drop (c_bm (er (ev_var rfl) fun H4 e4 => ⟨.inl ⟨rfl, _, sq_of (e4 _ _ (e3 _ _ hdr'))⟩, c_cons (c_bm (er (ev_var rfl) fun H5 e5 => ⟨.inl ⟨rfl, _, sq_of (e5 _ _ (e4 _ _ (e3 _ _ hlf')))⟩, c_cons (g_draw (b := ls.length)
      (ea_cons (ev_var rfl) (ea_cons (ev_is (ev_len (ev_var rfl) (sq_of (e5 _ _ (e4 _ _ (e3 _ _ hlf'))))) (by rw [List.length_map])) ea_nil)) (p'.ex ((e3.trans e4).trans e5)) ⟨by omega, by omega⟩ fun d H6 hd0 hd1 x6 p6 => c_nil ?_)⟩))⟩))
    obtain ⟨j, rfl⟩ := Int.eq_ofNat_of_zero_le hd0
    have hj : j < ls.length := by omega
    have hlf6 := x6 _ _ hlp (e5 _ _ (e4 _ _ (e3 _ _ hlf')))
    have hdr6 := x6 _ _ hdp (e5 _ _ (e4 _ _ (e3 _ _ hdr')))
    have hget : ls[j]? = some ls[j] := List.getElem?_eq_getElem hj
    refine ⟨lf, ls.map V.int, _, j, .int ls[j], rfl, rfl, hlf6, by omega, by omega, (ixN_seq (ixN_nat (by rw [List.length_map]; exact hj))).1, by rw [List.getElem?_map, hget]; rfl, c_nil ⟨dr, ms.map V.int, _, rfl, rfl, by rw [upd_ne hld.symm]; exact hdr6, by rw [List.length_map]; exact Nat.lt_of_le_of_lt (show ms.length ≤ 1000 by omega) (by decide), ?_⟩⟩
    have x7 : Xp p H H6 := (x'.trans (Xp.of ((e3.trans e4).trans e5))).trans x6
    refine ⟨(ls.eraseIdx j).length, by rw [List.length_eraseIdx_of_lt hj]; omega, ls.eraseIdx j, ms ++ [ls[j]], rfl, rfl, (x7.new hlf).new (fresh_back e1 hdr), (p6.upd hlp).upd hdp, ?_, ?_, ?_⟩
    · rw [upd_ne hld, upd_same, erase_map]
    · rw [upd_same, List.map_append]
      rfl
    · refine List.Perm.trans ?_ hpm
      rw [List.append_assoc]
      exact List.Perm.append_left _ (erase_perm hget)
  · have hls : ls = [] := by
      cases ls with
      | nil => rfl
      | cons a l => cases hb
    subst hls
    rw [List.append_nil] at hpm
    refine s_ret (ev_var rfl) fun H4 e4 => k _ H4 ((x'.trans (Xp.of e3)).trans (Xp.of e4)) ((p'.ex e3).ex e4) ⟨t, ns, ms, dr, rfl, ht.2, rfl, fresh_back e1 hdr, e4 _ _ (e3 _ _ hdr'), hpm⟩
def GBox (b : Int × Int × Int × Int) : Prop := (-1000000 ≤ b.1 ∧ b.1 ≤ 1000000) ∧ (-1000000 ≤ b.2.1 ∧ b.2.1 ≤ 1000000) ∧ (1 ≤ b.2.2.1 ∧ b.2.2.1 ≤ 1000000) ∧ (1 ≤ b.2.2.2 ∧ b.2.2.2 ≤ 1000000)
def preNo (_ : Addr) (r : List V) (_ : Hp) : Prop := r = []
def poBox (_ : List V) (_ : Hp) (v : V) (H' : Hp) : Prop := ∃ a b, v = .ref a ∧ H' a = some (.tup (bxV b)) ∧ GBox b
def B3 : List (Int × Int × Int × Int) := [(-1000000, -5, 1000000, 30), (1000000, 0, 1, 1000000), (-3, -1000000, 1000000, 1000000)]
def B6 : List (Int × Int × Int × Int) := [(9 - 1000000, -5, 1000000, 30), (-5, 9 - 1000000, 30, 1000000), (4, 3, 1000000, 1000000)]
theorem b_good : ∀ b ∈ B3 ++ B6, GBox b := by
  intro b hb
  simp only [B3, B6, List.cons_append, List.nil_append, List.mem_cons, List.not_mem_nil, or_false] at hb
  rcases hb with rfl | rfl | rfl | rfl | rfl | rfl <;> (unfold GBox; decide)
theorem sc_law_box : FnScope ["_law_pen_here", "_law_some", "_law_left", "_law_top"] ["_law_pen_here"] (defScope s_law_box) := ⟨rfl, rfl, rfl, by decide +kernel, rfl, by decide +kernel, by decide +kernel⟩
theorem d_law_box (T : Top K mg) : DefAt P w K mg base 3 "_law_box" ["_law_pen_here"] (SpP preNo poBox) := by
  refine def_of T.f_law_box sc_law_box (by rintro _ _ _ _ ⟨_, _, rfl, _, rfl, _⟩; rfl) (fun _ _ _ _ _ _ us hl => match us, hl with | [_], _ => rfl) ?_
  intro f cdv A outer s H vs Q E hr h
  obtain ⟨p, _, rfl, hp, rfl, k⟩ := h
  refine ⟨_, (pss_cons (ps_if (pt_cmpR op_eq (pe_callD (d_law_draw T) hr rfl (pa_cons (pv 0) (pa_cons pe_int pa_nil))) pe_int (nomark _)) (pss_cons (ps_set (i := 1) sc_law_box.nd rfl (Or.inl rfl) (pe_lst (pa_cons (pe_tup (pa_cons (pe_un un_neg (pe_op op_pow pe_int pe_int)) (pa_cons (pe_un un_neg pe_int) (pa_cons (pe_op op_pow pe_int pe_int) (pa_cons pe_int pa_nil))))) (pa_cons (pe_tup (pa_cons (pe_op op_pow pe_int pe_int) (pa_cons pe_int (pa_cons pe_int (pa_cons (pe_op op_pow pe_int pe_int) pa_nil))))) (pa_cons (pe_tup (pa_cons (pe_un un_neg pe_int) (pa_cons (pe_un un_neg (pe_op op_pow pe_int pe_int)) (pa_cons (pe_op op_pow pe_int pe_int) (pa_cons (pe_op op_pow pe_int pe_int) pa_nil))))) pa_nil))))) (pss_cons (ps_set (i := 1) sc_law_box.nd rfl (Or.inl rfl) (pe_op op_cat (pv 1) (pe_lst (pa_cons (pe_tup (pa_cons (pe_op op_sub pe_int (pe_op op_pow pe_int pe_int)) (pa_cons (pe_un un_neg pe_int) (pa_cons (pe_op op_pow pe_int pe_int) (pa_cons pe_int pa_nil))))) (pa_cons (pe_tup (pa_cons (pe_un un_neg pe_int) (pa_cons (pe_op op_sub pe_int (pe_op op_pow pe_int pe_int)) (pa_cons pe_int (pa_cons (pe_op op_pow pe_int pe_int) pa_nil))))) (pa_cons (pe_tup (pa_cons pe_int (pa_cons pe_int (pa_cons (pe_op op_pow pe_int pe_int) (pa_cons (pe_op op_pow pe_int pe_int) pa_nil))))) pa_nil)))))) (pss_one (ps_ret (pe_callD (d_law_pick T) hr rfl (pa_cons (pv 0) (pa_cons (pv 1) pa_nil))))))) pss_nil) (pss_cons (ps_par (i := 2) (j := 3) (by rfl) sc_law_box.nd rfl rfl (by decide) rfl rfl (pa_cons (pe_op op_sub (pe_callD (d_law_draw T) hr rfl (pa_cons (pv 0) (pa_cons pe_int pa_nil))) pe_int) (pa_cons (pe_op op_sub (pe_callD (d_law_draw T) hr rfl (pa_cons (pv 0) (pa_cons pe_int pa_nil))) pe_int) pa_nil)) (by rfl)) (pss_one (ps_ret (pe_tup (pa_cons (pv 2) (pa_cons (pv 3) (pa_cons (pe_op op_add pe_int (pe_callD (d_law_draw T) hr rfl (pa_cons (pv 0) (pa_cons pe_int pa_nil)))) (pa_cons (pe_op op_add pe_int (pe_callD (d_law_draw T) hr rfl (pa_cons (pv 0) (pa_cons pe_int pa_nil)))) pa_nil))))))))), ?_⟩
  refine c_seq (c_if (c_test (c_op (g_draw (ea_cons (ev_var rfl) (ea_cons ev_c ea_nil)) hp ⟨by decide, by decide⟩ fun d0 H1 _ _ x1 p1 => er ev_c fun H2 e2 => ⟨rfl, _, rfl, if2 (fun _ => ?_) fun _ => ?_⟩))))
  · have x2 := x1.trans (Xp.of e2)
    have p2 := p1.ex e2
    refine c_seq (c_asg (elt_lst (bs := B3.map bxV) (eat_cons (eu_tup (ea_cons (ev_neg ev_p6) (ea_cons (ev_neg ev_c) (ea_cons ev_p6 (ea_cons ev_c ea_nil)))) (by show 4 ≤ 100000; decide)) (eat_cons (eu_tup (ea_cons ev_p6 (ea_cons ev_c (ea_cons ev_c (ea_cons ev_p6 ea_nil)))) (by show 4 ≤ 100000; decide))
      (eat_cons (eu_tup (ea_cons (ev_neg ev_c) (ea_cons (ev_neg ev_p6) (ea_cons ev_p6 (ea_cons ev_p6 ea_nil)))) (by show 4 ≤ 100000; decide)) eat_nil))) (by decide) H2 (Ex.refl H2) _ fun l1 ps1 H3 hn1 e3 hl1 ht1 => ?_))
    refine c_seq (c_asg (c_op (er (ev_var rfl) fun H4 e4 => elt_lst (bs := B6.map bxV) (eat_cons (eu_tup (ea_cons (ev_op ev_c ev_p6 rv_I0) (ea_cons (ev_neg ev_c) (ea_cons ev_p6 (ea_cons ev_c ea_nil)))) (by show 4 ≤ 100000; decide)) (eat_cons (eu_tup (ea_cons (ev_neg ev_c) (ea_cons (ev_op ev_c ev_p6 rv_I0) (ea_cons ev_c (ea_cons ev_p6 ea_nil)))) (by show 4 ≤ 100000; decide))
      (eat_cons (eu_tup (ea_cons ev_c (ea_cons ev_c (ea_cons ev_p6 (ea_cons ev_p6 ea_nil)))) (by show 4 ≤ 100000; decide)) eat_nil))) (by decide) H4 (Ex.refl H4) _ fun l2 ps2 H5 hn2 e5 hl2 ht2 => ⟨l1, l2, _, _, rfl, rfl, e5 _ _ (e4 _ _ hl1), hl2, by
        rw [List.length_map, List.length_map, ht1.len, ht2.len]
        decide, fun l3 hn3 => ?_⟩)))
    have e6 : Ex H2 (upd H5 l3 (.lst (ps1.map V.ref ++ ps2.map V.ref))) := ((e3.trans e4).trans e5).trans (Ex.new hn3)
    have p6 := p2.ex e6
    have hall : TupsAt (upd H5 l3 (.lst (ps1.map V.ref ++ ps2.map V.ref))) (ps1 ++ ps2) ((B3 ++ B6).map bxV) := by
      rw [List.map_append]
      exact ((ht1.tm (.of (e4.trans e5))).app ht2).tm (.of (Ex.new hn3))
    have hl3 : l3 ≠ p := (p2.ex ((e3.trans e4).trans e5)).some hn3
    refine c_ret (g_pick (xs := (ps1 ++ ps2).map V.ref) (ea_cons (ev_var rfl) (ea_cons (ev_var rfl) ea_nil)) p6 ⟨hl3, .inl (by rw [upd_same, List.map_append])⟩ ⟨by rw [List.length_map, hall.len]; decide, by rw [List.length_map, hall.len]; decide⟩ fun v H7 hv x7 p7 => ?_)
    obtain ⟨a, xs, rfl, ha, hx⟩ := (hall.tm (x7.tm p6)).mem hv
    obtain ⟨b, hb, rfl⟩ := List.mem_map.mp hx
    exact k _ H7 ((x2.trans (Xp.of e6)).trans x7) p7 ⟨a, b, rfl, ha, b_good b hb⟩
  · have x2 := x1.trans (Xp.of e2)
    have p2 := p1.ex e2
    refine c_seq (c_par (c_cons (c_op (g_draw (ea_cons (ev_var rfl) (ea_cons ev_c ea_nil)) p2 ⟨by decide, by decide⟩ fun d1 H3 a1 b1 x3 p3 => er ev_c fun H4 e4 => ⟨_, _, rfl, rfl, c_cons (c_op (g_draw (ea_cons (ev_var rfl) (ea_cons ev_c ea_nil)) (p3.ex e4) ⟨by decide, by decide⟩ fun d2 H5 a2 b2 x5 p5 => er ev_c fun H6 e6 => ⟨_, _, rfl, rfl, c_nil ⟨_, _, rfl, ?_⟩⟩))⟩))))
    have p6 := p5.ex e6
    have x6 := (((x2.trans x3).trans (Xp.of e4)).trans x5).trans (Xp.of e6)
    refine c_ret (c_tup (c_cons (er (ev_var rfl) fun H7 e7 => c_cons (er (ev_var rfl) fun H8 e8 => c_cons (c_op (er ev_c fun H9 e9 => g_draw (ea_cons (ev_var rfl) (ea_cons ev_c ea_nil)) (p6.ex ((e7.trans e8).trans e9)) ⟨by decide, by decide⟩ fun d3 H10 a3 b3 x10 p10 => ⟨_, _, rfl, rfl, c_cons (c_op (er ev_c fun H11 e11 => g_draw (ea_cons (ev_var rfl) (ea_cons ev_c ea_nil)) (p10.ex e11) ⟨by decide, by decide⟩ fun d4 H12 a4 b4 x12 p12 => ⟨_, _, rfl, rfl, c_nil ⟨by show 4 ≤ sizeLine; decide, fun a hn => ?_⟩⟩))⟩))))))
    have x13 := (((x6.trans (Xp.of ((e7.trans e8).trans e9))).trans x10).trans (Xp.of e11)).trans x12
    exact k _ _ (x13.new (x13.fresh p12 hn)) (p12.upd (p12.some hn)) ⟨a, (d1 - 7, d2 - 7, 1 + d3, 1 + d4), rfl, upd_same, by
      unfold GBox
      show (-1000000 ≤ d1 - 7 ∧ d1 - 7 ≤ 1000000) ∧ (-1000000 ≤ d2 - 7 ∧ d2 - 7 ≤ 1000000) ∧ (1 ≤ 1 + d3 ∧ 1 + d3 ≤ 1000000) ∧ (1 ≤ 1 + d4 ∧ 1 + d4 ≤ 1000000)
      omega⟩
end
end Kp
set_option Elab.async false
set_option linter.all false
set_option maxRecDepth 100000
set_option maxHeartbeats 4000000
/-! keys, ways, deeds -/
namespace Kp
open PySem PySem.Spec PyProof.Rows L2 Evl
theorem joinL_one : ∀ cs : List Nat, TL.joinL [] (cs.map fun c => [c]) = cs
  | [] => rfl
  | [c] => rfl
  | c :: d :: cs => by
    show [c] ++ ([] ++ TL.joinL [] ((d :: cs).map fun c => [c])) = c :: d :: cs
    rw [joinL_one (d :: cs)]
    rfl
theorem join_signs (cs : List Nat) : (Txt.join "" (cs.map fun c => (⟨#[c]⟩ : Str))).cps.toList = cs := by
  have e := TL.tl_join "" (cs.map fun c => (⟨#[c]⟩ : Str))
  rw [← TL.join_eq, List.map_map] at e
  have e2 : TL.joinL (TL.tl "") (cs.map (TL.tl ∘ fun c => (⟨#[c]⟩ : Str))) = cs := joinL_one cs
  exact e.trans e2
theorem gkey_menu : ∀ x ∈ (["a", "b", "f1", "enter"] : List Str), GKey x := by
  intro x hx
  simp only [List.mem_cons, List.not_mem_nil, or_false] at hx
  rcases hx with rfl | rfl | rfl | rfl <;> (unfold GKey; decide +kernel)
section
variable {K : PySem.W.Frag} {σ : L2.St} {H : Hp} {te tb : TE} {ta tr : TA} {Q : VK} {v : V} {D : Ends} {r : R2}
theorem c_rng1 {R : It → Hp → Prop} (h : ta σ H fun vs H1 => ∃ j : Int, vs = [.int j] ∧ -(2 ^ 62) ≤ j ∧ j < 2 ^ 62 ∧ R (Itr 0 j.toNat) H1) : iRng1 ta σ H R := h
theorem c_yes {Q : Bool → Hp → Prop} (h : Q true H) : tYes σ H Q := h
theorem c_m1 {rm : V → List V → Hp → VK → Prop} (h : te σ H fun x H1 => (∃ a, x = .str a) ∧ tb σ H1 fun y H2 => rm x [y] H2 Q) : tM1 rm te tb σ H Q := h
theorem mem_str {x : V} {xs : List Str} (h : x ∈ xs.map V.str) : ∃ y, x = .str y ∧ y ∈ xs := by
  obtain ⟨y, hy, rfl⟩ := List.mem_map.mp h
  exact ⟨y, rfl, hy⟩
theorem mem_int {x : V} {xs : List Int} (h : x ∈ xs.map V.int) : ∃ y, x = .int y ∧ y ∈ xs := by
  obtain ⟨y, hy, rfl⟩ := List.mem_map.mp h
  exact ⟨y, rfl, hy⟩
end
section
variable {P : Program} {w : World} {K : PySem.W.Frag} {mg : Str → Option Value} {base : Heap}
def poKey (_ : List V) (_ : Hp) (v : V) (_ : Hp) : Prop := ∃ x : Str, v = .str x ∧ GKey x
theorem sc_law_key : FnScope ["_law_pen_here", "_law_signs", "_law_turn"] ["_law_pen_here"] (defScope s_law_key) := ⟨rfl, rfl, rfl, by decide +kernel, rfl, by decide +kernel, by decide +kernel⟩
theorem d_law_key (T : Top K mg) : DefAt P w K mg base 3 "_law_key" ["_law_pen_here"] (SpP preNo poKey) := by
  refine def_of T.f_law_key sc_law_key (by rintro _ _ _ _ ⟨_, _, rfl, _, rfl, _⟩; rfl) (fun _ _ _ _ _ _ us hl => match us, hl with | [_], _ => rfl) ?_
  intro f cdv A outer s H vs Q E hr h
  obtain ⟨p, _, rfl, hp, rfl, k⟩ := h
  refine ⟨_, (pss_cons (ps_if (pt_cmpR op_eq (pe_callD (d_law_draw T) hr rfl (pa_cons (pv 0) (pa_cons pe_int pa_nil))) pe_int (nomark _)) (pss_one (ps_ret (pe_callD (d_law_pick T) hr rfl (pa_cons (pv 0) (pa_cons (pe_lst (pa_cons pe_str (pa_cons pe_str (pa_cons pe_str (pa_cons pe_str pa_nil))))) pa_nil))))) pss_nil) (pss_cons (ps_set (i := 1) sc_law_key.nd rfl (Or.inr rfl) pe_str) (pss_one (ps_ret (pe_join pe_str (pe_lc (own := [("_law_turn", 2)]) (g := (gName 2)) (tt := tYes) rfl sc_law_key.nd (pi_range1 rfl T.g_range (pa_cons (pe_op op_add pe_int (pe_callD (d_law_draw T) hr rfl (pa_cons (pv 0) (pa_cons pe_int pa_nil)))) pa_nil)) (blkOk_by (own := [("_law_turn", 2)]) (N := ["_law_pen_here", "_law_signs", "_law_turn"]) (sc := defScope s_law_key) (by decide +kernel)) (fun _ _ _ _ _ => (pg_name (i := 2) sc_law_key.nd rfl (Or.inl rfl))) (fun _ _ _ _ _ => pts_nil) (fun _ _ _ _ _ => (pe_callD (d_law_pick T) hr rfl (pa_cons (pv 0) (pa_cons (pv 1) pa_nil)))))))))), ?_⟩
  refine c_seq (c_if (c_test (c_op (g_draw (ea_cons (ev_var rfl) (ea_cons ev_c ea_nil)) hp ⟨by decide, by decide⟩ fun d0 H1 _ _ x1 p1 => er ev_c fun H2 e2 => ⟨rfl, _, rfl, if2 (fun _ => ?_) fun _ => ?_⟩))))
  · refine c_ret (g_pickL (xs := (["a", "b", "f1", "enter"] : List Str).map V.str) (ev_var rfl) (el_lst (ea_cons ev_c (ea_cons ev_c (ea_cons ev_c (ea_cons ev_c ea_nil)))) (by show 4 ≤ 100000; decide)) (p1.ex e2) ⟨by decide, by decide⟩ fun v H3 hv x3 p3 => ?_)
    obtain ⟨y, rfl, hy⟩ := mem_str hv
    exact k _ H3 ((x1.trans (Xp.of e2)).trans x3) p3 ⟨y, rfl, gkey_menu y hy⟩
  · have x2 := x1.trans (Xp.of e2)
    have p2 := p1.ex e2
    refine q_asg ev_c fun H3 e3 => ?_
    dsimp only
    refine c_ret (c_m1 (er ev_c fun H4 e4 => ⟨⟨_, rfl⟩, ?_⟩))
    have p4 := p2.ex (e3.trans e4)
    have x4 := x2.trans (Xp.of (e3.trans e4))
    unfold tLc
    refine c_rng1 (c_cons (c_op (er ev_c fun H5 e5 => g_draw (ea_cons (ev_var rfl) (ea_cons ev_c ea_nil)) (p4.ex e5) ⟨by decide, by decide⟩ fun d H6 d0 d1 x6 p6 => ⟨_, _, rfl, rfl, c_nil ⟨1 + d, rfl, by omega, by omega, fun Dl hD => ?_⟩⟩)))
    have x6' := (x4.trans (Xp.of e5)).trans x6
    have hDp : Dl ≠ p := p6.some hD
    refine lc_range (lo := 0) (n := (1 + d).toNat) (fun i H' => Xp p H6 H' ∧ Pen p H' ∧ ∃ cs : List Nat, H' Dl = some (.lst (cs.map fun c => V.str ⟨#[c]⟩)) ∧ cs.length = i ∧ ∀ c ∈ cs, c ∈ SIGNS.cps.toList)
      ⟨(Xp.refl p H6).new hD, p6.upd hDp, [], upd_same, rfl, fun c hc => by simp at hc⟩ ?_ ?_
    · rintro i H' hi ⟨x7, p7, cs, hcs, hl, hm⟩
      refine ⟨rfl, ?_⟩
      refine c_yes (ifT rfl ?_)
      refine g_pickS (z := SIGNS) (ea_cons (ev_var rfl) (ea_cons (ev_var rfl) ea_nil)) p7 ⟨by decide +kernel, by decide +kernel⟩ fun c H8 hc x8 p8 => ?_
      refine ⟨_, x8 _ _ hDp hcs, by rw [List.length_map, hl]; exact Nat.lt_of_lt_of_le (show i < 100 by omega) (by decide), (x7.trans x8).new hD, p8.upd hDp, cs ++ [c], ?_, by rw [List.length_append, hl]; rfl, fun c' hc' => ?_⟩
      · rw [upd_same, List.map_append]
        rfl
      · rcases List.mem_append.mp hc' with h | h
        · exact hm c' h
        · rw [List.mem_singleton.mp h]
          exact hc
    · rintro H' ⟨x7, p7, cs, hcs, hl, hm⟩
      refine ⟨"", Dl, cs.map fun c => (⟨#[c]⟩ : Str), rfl, rfl, .inl (sq_of (by rw [hcs, List.map_map]; rfl)), ?_, ?_⟩
      · have e1 : ((cs.map fun c => (⟨#[c]⟩ : Str)).map (·.length)).sum = cs.length := by
          rw [List.map_map]
          clear hm hcs hl
          induction cs with
          | nil => rfl
          | cons a cs ih =>
            rw [List.map_cons, List.sum_cons, ih, List.length_cons]
            show 1 + cs.length = cs.length + 1
            omega
        rw [e1]
        show cs.length + _ * 0 ≤ 16777216
        omega
      · have ej := join_signs cs
        have el : (Txt.join "" (cs.map fun c => (⟨#[c]⟩ : Str))).length = cs.length := by
          have q := congrArg List.length ej
          rw [Array.length_toList] at q
          exact q
        exact k _ H' (x6'.trans x7) p7 ⟨_, rfl, by rw [el]; omega, by rw [el]; omega, by rw [ej]; exact hm⟩
def poWay (_ : List V) (_ : Hp) (v : V) (_ : Hp) : Prop := ∃ x : Str, v = .str x ∧ x ∈ WAYSL
theorem sc_law_way : FnScope ["_law_pen_here"] ["_law_pen_here"] (defScope s_law_way) := ⟨rfl, rfl, rfl, by decide +kernel, rfl, by decide +kernel, by decide +kernel⟩
theorem d_law_way (T : Top K mg) : DefAt P w K mg base 3 "_law_way" ["_law_pen_here"] (SpP preNo poWay) := by
  refine def_of T.f_law_way sc_law_way (by rintro _ _ _ _ ⟨_, _, rfl, _, rfl, _⟩; rfl) (fun _ _ _ _ _ _ us hl => match us, hl with | [_], _ => rfl) ?_
  intro f cdv A outer s H vs Q E hr h
  obtain ⟨p, _, rfl, hp, rfl, k⟩ := h
  refine ⟨_, (pss_one (ps_ret (pe_callD (d_law_pick T) hr rfl (pa_cons (pv 0) (pa_cons (pe_lst (pa_cons pe_str (pa_cons pe_str (pa_cons pe_str (pa_cons pe_str (pa_cons pe_str (pa_cons pe_str (pa_cons pe_str (pa_cons pe_str pa_nil))))))))) pa_nil))))), ?_⟩
  refine c_ret (g_pickL (xs := WAYSL.map V.str) (ev_var rfl) (el_lst (ea_cons ev_c (ea_cons ev_c (ea_cons ev_c (ea_cons ev_c (ea_cons ev_c (ea_cons ev_c (ea_cons ev_c (ea_cons ev_c ea_nil)))))))) (by show 8 ≤ 100000; decide)) hp ⟨by decide, by decide⟩ fun v H3 hv x3 p3 => ?_)
  obtain ⟨y, rfl, hy⟩ := mem_str hv
  exact k _ H3 x3 p3 ⟨y, rfl, hy⟩
def poDeed (_ : List V) (_ : Hp) (v : V) (H' : Hp) : Prop := ∃ (a : Addr) (q : Deed), v = .ref a ∧ H' a = some (.tup q.vs) ∧ GDeed q
theorem g_no {σ : L2.St} {H : Hp} {ta : TA} {Q : VK} {p : Addr} {E : XK} {po : List V → Hp → V → Hp → Prop} (ha : EvA ta σ H [.ref p]) (hp : Pen p H) (k : ∀ v H0 H', Ex H H0 → Xp p H H' → Pen p H' → po [] H0 v H' → Q v H') : tCall (SpP preNo po) [] E ta σ H Q := g_call ha hp (fun _ _ => rfl) k
theorem sc_law_deed : FnScope ["_law_pen_here", "_law_way_here", "_law_far"] ["_law_pen_here"] (defScope s_law_deed) := ⟨rfl, rfl, rfl, by decide +kernel, rfl, by decide +kernel, by decide +kernel⟩
theorem d_law_deed (T : Top K mg) : DefAt P w K mg base 4 "_law_deed" ["_law_pen_here"] (SpP preNo poDeed) := by
  refine def_of T.f_law_deed sc_law_deed (by rintro _ _ _ _ ⟨_, _, rfl, _, rfl, _⟩; rfl) (fun _ _ _ _ _ _ us hl => match us, hl with | [_], _ => rfl) ?_
  intro f cdv A outer s H vs Q E hr h
  obtain ⟨p, _, rfl, hp, rfl, k⟩ := h
  refine ⟨_, (pss_cons (ps_set (i := 1) sc_law_deed.nd rfl (Or.inl rfl) (pe_callD (d_law_draw T) hr rfl (pa_cons (pv 0) (pa_cons pe_int pa_nil)))) (pss_cons (ps_if (pt_cmpR op_lt (pv 1) pe_int (nomark _)) (pss_one (ps_ret (pe_tup (pa_cons pe_str (pa_cons (pe_callD (d_law_way T) hr rfl (pa_cons (pv 0) pa_nil)) pa_nil))))) pss_nil) (pss_cons (ps_if (pt_cmpR op_eq (pv 1) pe_int (nomark _)) (pss_cons (ps_set (i := 2) sc_law_deed.nd rfl (Or.inl rfl) (pe_lst (pa_cons (pe_op op_sub (pe_callD (d_law_draw T) hr rfl (pa_cons (pv 0) (pa_cons pe_int pa_nil))) pe_int) (pa_cons (pe_op op_pow pe_int pe_int) (pa_cons (pe_un un_neg (pe_op op_pow pe_int pe_int)) pa_nil))))) (pss_one (ps_ret (pe_tup (pa_cons pe_str (pa_cons (pe_callD (d_law_pick T) hr rfl (pa_cons (pv 0) (pa_cons (pv 2) pa_nil))) pa_nil)))))) pss_nil) (pss_one (ps_ret (pe_ix ix_list (pe_lst (pa_cons (pe_tup (pa_cons pe_str pa_nil)) (pa_cons (pe_tup (pa_cons pe_str pa_nil)) pa_nil))) (pe_op op_sub (pv 1) pe_int) (fun _ _ => rfl))))))), ?_⟩
  refine c_seq (c_asg (g_draw (ea_cons (ev_var rfl) (ea_cons ev_c ea_nil)) hp ⟨by decide, by decide⟩ fun d H1 d0 d1 x1 p1 => ?_))
  refine q_when (et_test (ev_op (ev_var rfl) ev_c rv_I0)) (fun _ H2 e2 => ?_) fun hb H2 e2 => ?_
  · refine c_ret (c_tup (c_cons (er ev_c fun H3 e3 => c_cons (g_no (ea_cons (ev_var rfl) ea_nil) ((p1.ex e2).ex e3) fun v H0 H4 _ x4 p4 po => c_nil ⟨by show 2 ≤ sizeLine; decide, fun a hn => ?_⟩))))
    obtain ⟨y, rfl, hy⟩ := po
    have x5 := (x1.trans (Xp.of (e2.trans e3))).trans x4
    exact k _ _ (x5.new (x5.fresh p4 hn)) (p4.upd (p4.some hn)) ⟨a, .go y, rfl, upd_same, hy⟩
  · have hd2 : 2 ≤ d := by
      simp only [decide_eq_false_iff_not] at hb
      omega
    refine q_when (et_test (ev_op (ev_var rfl) ev_c (rv_eq rfl))) (fun _ H3 e3 => ?_) fun hc H3 e3 => ?_
    · have p3 := p1.ex (e2.trans e3)
      have x3 := x1.trans (Xp.of (e2.trans e3))
      refine c_seq (c_asg (c_lst (c_cons (c_op (g_draw (ea_cons (ev_var rfl) (ea_cons ev_c ea_nil)) p3 ⟨by decide, by decide⟩ fun d' H4 a0 a1 x4 p4 => er ev_c fun H5 e5 => ⟨_, _, rfl, rfl, ea (vs := [.int 1000000, .int (-1000000)]) (ea_cons ev_p6 (ea_cons (ev_neg ev_p6) ea_nil)) fun H6 e6 => ⟨by show 3 ≤ sizeLine; decide, fun l hn => ?_⟩⟩)))))
      have p6 := p4.ex (e5.trans e6)
      have x6 := (x3.trans x4).trans (Xp.of (e5.trans e6))
      refine c_ret (c_tup (c_cons (er ev_c fun H7 e7 => c_cons (g_pick (xs := [d' - 1000, 1000000, -1000000].map V.int) (ea_cons (ev_var rfl) (ea_cons (ev_var rfl) ea_nil)) ((p6.upd (p6.some hn)).ex e7) ⟨p6.some hn, .inl (e7 _ _ upd_same)⟩ ⟨by show 1 ≤ 3; decide, by show 3 ≤ 1000; decide⟩ fun v H8 hv x8 p8 => c_nil ⟨by show 2 ≤ sizeLine; decide, fun a hn2 => ?_⟩))))
      obtain ⟨y, rfl, hy⟩ := mem_int hv
      have x9 := (((x6.new (x6.fresh p6 hn))).trans (Xp.of e7)).trans x8
      exact k _ _ (x9.new (x9.fresh p8 hn2)) (p8.upd (p8.some hn2)) ⟨a, .say y, rfl, upd_same, by
        simp only [List.mem_cons, List.not_mem_nil, or_false] at hy
        show -1000000 ≤ y ∧ y ≤ 1000000
        omega⟩
    · have hd : d = 3 ∨ d = 4 := by
        have : d ≠ 2 := by
          intro e
          rw [e] at hc
          cases hc
        omega
      have p3 := p1.ex (e2.trans e3)
      have x3 := x1.trans (Xp.of (e2.trans e3))
      refine c_ret (c_op (elt_lst (bs := [[.str "shut"], [.str "still"]]) (eat_cons (eu_tup (ea_cons ev_c ea_nil) (by show 1 ≤ 100000; decide)) (eat_cons (eu_tup (ea_cons ev_c ea_nil) (by show 1 ≤ 100000; decide)) eat_nil)) (by decide) H3 (Ex.refl H3) _ fun l ps H4 hn e4 hl ht => er (ev_op (ev_var rfl) ev_c rv_I0) fun H5 e5 => ?_))
      obtain ⟨a, b, rfl⟩ : ∃ a b, ps = [a, b] := by
        cases ht with
        | cons r t =>
          cases t with
          | cons r t =>
            cases t
            exact ⟨_, _, rfl⟩
      have ht5 := ht.tm (.of e5)
      cases ht5 with
      | cons r1 t1 =>
        cases t1 with
        | cons r2 t2 =>
          rcases hd with rfl | rfl
          · exact ⟨l, _, _, .ref a, rfl, rfl, sq_of (e5 _ _ hl), atI_nat (j := 0) rfl, k _ H5 (x3.trans (Xp.of (e4.trans e5))) (p3.ex (e4.trans e5)) ⟨a, .shut, rfl, r1, trivial⟩⟩
          · exact ⟨l, _, _, .ref b, rfl, rfl, sq_of (e5 _ _ hl), atI_nat (j := 1) rfl, k _ H5 (x3.trans (Xp.of (e4.trans e5))) (p3.ex (e4.trans e5)) ⟨b, .still, rfl, r2, trivial⟩⟩
end
end Kp
set_option Elab.async false
set_option linter.all false
set_option maxRecDepth 100000
set_option maxHeartbeats 4000000
/-! the keys of a pane -/
namespace Kp
open PySem PySem.Spec PyProof.Rows L2 Evl
theorem sort_back {α : Type} {f : α → V} {g : V → α} {l0 : List α} {ys : List V} (hg : ∀ q ∈ l0, g (f q) = q) (hp : ys.Perm (l0.map f)) : (ys.map g).Perm l0 ∧ ys = (ys.map g).map f := by
  constructor
  · have q := hp.map g
    rw [List.map_map] at q
    have e : l0.map (g ∘ f) = l0 := by
      have e2 : l0.map (g ∘ f) = l0.map id := List.map_congr_left fun q hq => hg q hq
      rw [e2, List.map_id]
    rw [e] at q
    exact q
  · rw [List.map_map]
    have e : ys.map (f ∘ g) = ys.map id := List.map_congr_left fun y hy => by
      obtain ⟨q, hq, rfl⟩ := List.mem_map.mp (hp.mem_iff.mp hy)
      show f (g (f q)) = f q
      rw [hg q hq]
    rw [e, List.map_id]
theorem strLt_of {a b : Str} (h : ltS b a = false) (hn : a ≠ b) : strLt a b := by
  have h1 : ¬ b.cps.toList < a.cps.toList := of_decide_eq_false h
  have h2 : a.cps.toList ≤ b.cps.toList := List.not_lt.mp h1
  rcases List.le_iff_lt_or_eq.mp h2 with h3 | h3
  · exact h3
  · exact absurd (Str.ext' (Array.toList_inj.mp h3)) hn
instance : Inhabited KeyD := ⟨⟨0, "", 0, .still⟩⟩
def keyBack (l0 : List KeyD) (v : V) : KeyD := (l0.find? fun q => decide (V.ref q.pa = v)).getD default
theorem keyBack_of {H : Hp} {l0 : List KeyD} (ha : ∀ q ∈ l0, KeyAt H q) (hn : (l0.map (·.key)).Nodup) : ∀ q ∈ l0, keyBack l0 (.ref q.pa) = q := by
  intro q hq
  have hs : (l0.find? fun z => decide (V.ref z.pa = V.ref q.pa)).isSome := List.find?_isSome.mpr ⟨q, hq, decide_eq_true rfl⟩
  obtain ⟨x, hx⟩ := Option.isSome_iff_exists.mp hs
  unfold keyBack
  rw [hx]
  show x = q
  have hm := List.mem_of_find?_eq_some hx
  have h2 := List.find?_some hx
  have he : V.ref x.pa = V.ref q.pa := of_decide_eq_true h2
  have e1 := (ha x hm).p
  have e2 := (ha q hq).p
  rw [V.ref.inj he, e2] at e1
  have ek : x.key = q.key := by
    have z := HO.tup.inj (Option.some.inj e1)
    injection z with z1 z2
    exact (V.str.inj z1).symm
  clear e1 e2 he hx hs ha
  induction l0 with
  | nil => simp at hq
  | cons a l ih =>
    rw [List.map_cons] at hn
    obtain ⟨h1, h2⟩ := List.nodup_cons.mp hn
    rcases List.mem_cons.mp hm with g1 | g1
    · rcases List.mem_cons.mp hq with g2 | g2
      · rw [g1, g2]
      · exact absurd (List.mem_map.mpr ⟨q, g2, by rw [← ek, g1]⟩) h1
    · rcases List.mem_cons.mp hq with g2 | g2
      · exact absurd (List.mem_map.mpr ⟨x, g1, by rw [ek, g2]⟩) h1
      · exact ih h2 g2 g1
/-- what stands in the dict of keys: key, deed's place, deed -/
abbrev Ent : Type := Str × Addr × Deed
def entK (es : List Ent) : List (Key × V) := es.map fun e => ((Sum.inr e.1 : Key), V.ref e.2.1)
def entPut (es : List Ent) (e : Ent) : List Ent := if e.1 ∈ es.map (·.1) then es.map (fun z => if z.1 = e.1 then e else z) else es ++ [e]
theorem ent_any (es : List Ent) (x : Str) : ((entK es).any fun kv => decide (kv.1 = Sum.inr x)) = decide (x ∈ es.map (·.1)) := by
  unfold entK
  induction es with
  | nil => rfl
  | cons a es ih =>
    rw [List.map_cons, List.any_cons, ih, List.map_cons]
    by_cases e : x = a.1
    · rw [e]
      simp
    · have e2 : decide ((Sum.inr a.1 : Key) = Sum.inr x) = false := decide_eq_false fun q => e (Sum.inr.inj q).symm
      show (decide ((Sum.inr a.1 : Key) = Sum.inr x) || decide (x ∈ es.map (·.1))) = decide (x ∈ a.1 :: es.map (·.1))
      rw [e2]
      simp [e]
theorem entK_put (es : List Ent) (e : Ent) : putK (entK es) (Sum.inr e.1) (.ref e.2.1) = entK (entPut es e) := by
  unfold putK entPut
  rw [ent_any]
  by_cases h : e.1 ∈ es.map (·.1)
  · rw [decide_eq_true h, if_pos rfl, if_pos h]
    unfold entK
    rw [List.map_map, List.map_map]
    refine List.map_congr_left fun z _ => ?_
    show (if (Sum.inr z.1 : Key) = Sum.inr e.1 then ((Sum.inr z.1 : Key), V.ref e.2.1) else (Sum.inr z.1, V.ref z.2.1)) = ((Sum.inr (if z.1 = e.1 then e else z).1 : Key), V.ref (if z.1 = e.1 then e else z).2.1)
    by_cases q : z.1 = e.1
    · rw [if_pos (by rw [q]), if_pos q, q]
    · rw [if_neg fun w => q (Sum.inr.inj w), if_neg q]
  · rw [decide_eq_false h, if_neg (by decide), if_neg h]
    unfold entK
    rw [List.map_append]
    rfl
theorem entPut_mem {es : List Ent} {e z : Ent} (h : z ∈ entPut es e) : z ∈ es ∨ z = e := by
  unfold entPut at h
  split at h
  · obtain ⟨y, hy, rfl⟩ := List.mem_map.mp h
    split
    · exact .inr rfl
    · exact .inl hy
  · rcases List.mem_append.mp h with h | h
    · exact .inl h
    · exact .inr (List.mem_singleton.mp h)
theorem entPut_len (es : List Ent) (e : Ent) : (entPut es e).length ≤ es.length + 1 := by
  unfold entPut
  split
  · rw [List.length_map]
    omega
  · rw [List.length_append]
    exact Nat.le_refl _
theorem entPut_nd {es : List Ent} {e : Ent} (h : (es.map (·.1)).Nodup) : ((entPut es e).map (·.1)).Nodup := by
  unfold entPut
  split
  · rw [List.map_map]
    have e2 : es.map ((fun z : Ent => z.1) ∘ fun z => if z.1 = e.1 then e else z) = es.map (·.1) := List.map_congr_left fun z _ => by
      show (if z.1 = e.1 then e else z).1 = z.1
      split
      · rename_i q
        exact q.symm
      · rfl
    rw [e2]
    exact h
  · rename_i hn
    rw [List.map_append]
    exact nd_snoc h hn
theorem ent_back {HB : Hp} {g : Bool} {es : List Ent} : ∀ {ps : List Addr}, PairsAt HB ps (es.map fun e => (V.str e.1, V.ref e.2.1)) → (∀ e ∈ es, GKey e.1 ∧ GDeed e.2.2 ∧ HB e.2.1 = some (.tup e.2.2.vs) ∧ (g = true → e.2.2 ≠ .shut)) → ∃ l0 : List KeyD, ps.map V.ref = l0.map (fun q => V.ref q.pa) ∧ l0.map (·.key) = es.map (·.1) ∧ ∀ q ∈ l0, KeyAt HB q ∧ GKey q.key ∧ GDeed q.deed ∧ (g = true → q.deed ≠ .shut) := by
  induction es with
  | nil =>
    intro ps hpB _
    cases hpB
    exact ⟨[], rfl, rfl, fun q hq => by simp at hq⟩
  | cons e es ih =>
    intro ps hpB hesB
    cases hpB with
    | cons r t =>
      obtain ⟨l0, h1, h2, h3⟩ := ih t fun z hz => hesB z (List.mem_cons_of_mem _ hz)
      refine ⟨⟨_, e.1, e.2.1, e.2.2⟩ :: l0, by rw [List.map_cons, List.map_cons, h1], by rw [List.map_cons, List.map_cons, h2], fun q hq => ?_⟩
      rcases List.mem_cons.mp hq with rfl | hq
      · obtain ⟨g1, g2, g3, g4⟩ := hesB e List.mem_cons_self
        exact ⟨⟨r, g3⟩, g1, g2, g4⟩
      · exact h3 q hq
section
variable {K : PySem.W.Frag} {σ : L2.St} {H : Hp} {te td ty tv : TE} {ta tr : TA} {Q : VK} {v : V} {D : Ends} {r : R2} {t : TT} {tz tu : TS}
/-- if c: x = a new tuple -/
theorem q_whenU {b : Bool} {i : Nat} {xs : List V} {x0 : V} (h : EvT t σ H b) (hi : σ[i]? = some (some x0)) (hu : ∀ H1, Ex H H1 → EvU te σ H1 xs) (k : ∀ x H1, Ex H H1 → (b = false ∧ x = x0 ∨ b = true ∧ ∃ p, x = .ref p ∧ H1 p = some (.tup xs)) → tz D (σ.set i (some x)) H1) : tSeq (tIfS t (tAsg te (gName i)) tNext) tz D σ H :=
  q_when h (fun hb H1 e1 => s_asgU (D := { D with nx := tz D }) (hu H1 e1) fun p H2 _ e2 h2 => k _ H2 (e1.trans e2) (.inr ⟨hb, p, rfl, h2⟩)) (fun hb H1 e1 => by
    have q := k x0 H1 e1 (.inl ⟨hb, rfl⟩)
    have e : σ.set i (some x0) = σ := by
      obtain ⟨hl, he⟩ := List.getElem?_eq_some_iff.mp hi
      rw [← he, List.set_getElem_self]
    rw [e] at q
    exact q)
theorem c_lock {ti : TE} {d : Addr} {u : HO} (hd : H d = some u) (hm : Mut (some u)) (h : ∀ od, ti σ (upd H d (.frz od u)) fun v H' => H' d = some (.frz od u) ∧ Q v (upd H' d u)) : tLockE ti σ H Q := ⟨d, u, hd, hm, h⟩
end
section
variable {P : Program} {w : World} {K : PySem.W.Frag} {mg : Str → Option Value} {base : Heap}
def preKeys (_ : Addr) (r : List V) (_ : Hp) : Prop := ∃ (m : Int) (g : Bool), r = [.int m, .bl g] ∧ 0 ≤ m ∧ m ≤ 2
def poKeys (r : List V) (_ : Hp) (v : V) (H' : Hp) : Prop := ∃ (a : Addr) (l : List KeyD), v = .ref a ∧ H' a = some (.tup (l.map fun q => V.ref q.pa)) ∧ (∀ q ∈ l, KeyAt H' q) ∧ GKeys l ∧ ∀ m, r = [.int m, .bl true] → ∀ q ∈ l, q.deed ≠ .shut
theorem sc_law_keys : FnScope ["_law_pen_here", "_law_many", "_law_ground", "_law_known", "_law_turn", "_law_deed_here", "_law_stroke"] ["_law_pen_here", "_law_many", "_law_ground"] (defScope s_law_keys) := ⟨rfl, rfl, rfl, by decide +kernel, rfl, by decide +kernel, by decide +kernel⟩
theorem d_law_keys (T : Top K mg) : DefAt P w K mg base 5 "_law_keys" ["_law_pen_here", "_law_many", "_law_ground"] (SpP preKeys poKeys) := by
  refine def_of T.f_law_keys sc_law_keys (by rintro _ _ _ _ ⟨_, _, rfl, _, ⟨_, _, rfl, _⟩, _⟩; rfl) (fun _ _ _ _ _ _ us hl => match us, hl with | [_, _, _], _ => rfl) ?_
  intro f cdv A outer s H vs Q E hr h
  obtain ⟨p, _, rfl, hp, ⟨m, g, rfl, hm0, hm2⟩, k⟩ := h
  refine ⟨_, (pss_cons (ps_set (i := 3) sc_law_keys.nd rfl (Or.inl rfl) pe_dnewK) (pss_cons (ps_for PassesOwn.never rfl (pi_range1 rfl T.g_range (pa_cons (pv 1) pa_nil)) (pg_name (i := 4) sc_law_keys.nd rfl (Or.inl rfl)) (pss_cons (ps_set (i := 5) sc_law_keys.nd rfl (Or.inl rfl) (pe_callD (d_law_deed T) hr rfl (pa_cons (pv 0) pa_nil))) (pss_cons (ps_if (PW.pt (pw_and (pt_val (pv 2)) (pw_and1 (pt_cmpR (op_eqD hr.units) (pv 5) (pe_tup (pa_cons pe_str pa_nil)) (nomark _))))) (pss_one (ps_set (i := 5) sc_law_keys.nd rfl (Or.inl rfl) (pe_tup (pa_cons pe_str pa_nil)))) pss_nil) (pss_one (ps_dput (hu_of hr) (pv 3) (pe_callD (d_law_key T) hr rfl (pa_cons (pv 0) pa_nil)) (pv 5) rfl))))) (pss_one (ps_ret (pe_callTy cr_tupS (by rfl) T.g_tuple PyProof.Rows.boot_tuple (pa_cons (pe_callB (cr_sortedK fkS) (by rfl) T.g_sorted PyProof.Rows.boot_sorted (pa_cons (pe_lock (pe_lc (own := [("_law_stroke", 6), ("_law_deed_here", 5)]) (g := (gTup K 2 (gCons (gName 6) (gCons (gName 5) gNil)))) (tt := tYes) rfl sc_law_keys.nd (pi_items (pv 3)) (blkOk_by (own := [("_law_stroke", 6), ("_law_deed_here", 5)]) (N := ["_law_pen_here", "_law_many", "_law_ground", "_law_known", "_law_turn", "_law_deed_here", "_law_stroke"]) (sc := defScope s_law_keys) (by decide +kernel)) (fun _ _ _ _ _ => (pg_tup rfl (pgs_cons (pg_name (i := 6) sc_law_keys.nd rfl (Or.inl rfl)) (pgs_cons (pg_name (i := 5) sc_law_keys.nd rfl (Or.inl rfl)) pgs_nil)))) (fun _ _ _ _ _ => pts_nil) (fun _ _ _ _ _ => (pe_tup (pa_cons (pv 6) (pa_cons (pv 5) pa_nil)))))) pa_nil)) pa_nil)))))), ?_⟩
  refine c_seq (c_asg fun d hd => ?_)
  have hdp := hp.some hd
  dsimp only
  refine q_forR1 (n := m) (ea_cons (ev_var rfl) ea_nil) (by omega)
    (fun i σ' H' => ∃ (es : List Ent) (v4 v5 v6 : Option V), σ' = [some (.ref p), some (.int m), some (.bl g), some (.ref d), v4, v5, v6] ∧ Xp p H H' ∧ Pen p H' ∧ H' d = some (.dK (entK es)) ∧ (∀ e ∈ es, GKey e.1 ∧ GDeed e.2.2 ∧ H' e.2.1 = some (.tup e.2.2.vs) ∧ (g = true → e.2.2 ≠ .shut)) ∧ (es.map (·.1)).Nodup ∧ es.length ≤ i)
    (fun H1 e1 => ⟨[], _, _, _, rfl, ((Xp.refl p H).new hd).trans (Xp.of e1), (hp.upd hdp).ex e1, e1 _ _ upd_same, fun e he => by simp at he, List.nodup_nil, Nat.le_refl _⟩) ?_ ?_
  · rintro i σ' H' hi ⟨es, v4, v5, v6, rfl, x', p', hd', hes, hnd, hle⟩
    refine c_seq (c_asg (g_no (ea_cons (ev_var rfl) ea_nil) p' fun v H0 H1 _ x1 p1 po => ?_))
    obtain ⟨a, q, rfl, ha, hq⟩ := po
    have hd1 := x1 _ _ hdp hd'
    dsimp only [gName]
    refine q_whenU (x0 := .ref a) (et_and (et_B (ev_var rfl)) fun _ => et_test (ev_opU (ev_var rfl) (eu_tup (ea_cons ev_c ea_nil) (by show 1 ≤ 100000; decide)) fun b H2 hb e2 => rv_eqD (deed_dp (e2 _ _ ha)) (deed_dp (q := .shut) hb) (deed_shaped hq) shut_shaped (deed_shut q))) rfl
      (fun H2 e2 => eu_tup (vs := [.str "still"]) (ea_cons ev_c ea_nil) (by show 1 ≤ 100000; decide)) fun x H2 e2 hx => ?_
    -- the deed that is kept
    obtain ⟨a2, q2, rfl, ha2, hq2, hns⟩ : ∃ (a2 : Addr) (q2 : Deed), x = .ref a2 ∧ H2 a2 = some (.tup q2.vs) ∧ GDeed q2 ∧ (g = true → q2 ≠ .shut) := by
      rcases hx with ⟨hb, rfl⟩ | ⟨hb, b, rfl, hb2⟩
      · refine ⟨a, q, rfl, e2 _ _ ha, hq, fun hg => ?_⟩
        rw [hg] at hb
        intro e
        rw [e] at hb
        cases hb
      · exact ⟨b, .still, rfl, hb2, trivial, fun _ e => by cases e⟩
    have p2 := p1.ex e2
    have x2 := (x'.trans x1).trans (Xp.of e2)
    have hd2 := e2 _ _ hd1
    show sDPut _ _ _ _ _ _
    refine er (ev_var rfl) fun H3 e3 => er (ev_var rfl) fun H4 e4 => g_no (ea_cons (ev_var rfl) ea_nil) (p2.ex (e3.trans e4)) fun v H0 H5 _ x5 p5 po => ?_
    obtain ⟨y, rfl, hy⟩ := po
    have hd5 := x5 _ _ hdp (e4 _ _ (e3 _ _ hd2))
    have x6 := (x2.trans (Xp.of (e3.trans e4))).trans x5
    have tm2 : Tm H2 H5 := (Tm.of (e3.trans e4)).trans (x5.tm (p2.ex (e3.trans e4)))
    have tm0 : Tm H' H2 := (x1.tm p').trans (Tm.of e2)
    have tmp : Tm H5 (upd H5 d (.dK (putK (entK es) (Sum.inr y) (.ref a2)))) := fun c xs hc => by
      rw [upd_ne (ne_of hc hd5 (by intro z; cases z))]
      exact hc
    refine ⟨d, _, rfl, DPut.k (k := Sum.inr y) hd5 (by
      unfold entK
      rw [List.length_map]
      exact Nat.lt_of_le_of_lt (show es.length ≤ 2 by omega) (by decide)), ?_⟩
    refine ⟨entPut es (y, a2, q2), _, _, _, rfl, x6.new hd, p5.upd hdp, ?_, ?_, entPut_nd hnd, Nat.le_trans (entPut_len _ _) (by omega)⟩
    · rw [upd_same]
      exact congrArg (fun z => some (HO.dK z)) (entK_put es (y, a2, q2))
    · intro e he
      rcases entPut_mem he with he | rfl
      · obtain ⟨g1, g2, g3, g4⟩ := hes e he
        exact ⟨g1, g2, tmp _ _ (tm2 _ _ (tm0 _ _ g3)), g4⟩
      · exact ⟨hy, hq2, tmp _ _ (tm2 _ _ ha2), hns⟩
  · rintro σ' H' ⟨es, v4, v5, v6, rfl, x', p', hd', hes, hnd, hle⟩
    have hle2 : es.length ≤ 2 := by omega
    refine c_ret (c_cb (c_cons (c_cb (c_cons (c_lock hd' trivial fun od => ?_)))))
    unfold tLc
    refine er (ev_var rfl) fun H1 e1 => ⟨d, od, entK es, rfl, e1 _ _ upd_same, fun Dl hD => ?_⟩
    refine lc_it walk_items (fun i H2 => Ex H1 H2 ∧ H1 Dl = none ∧ ∃ ps, H2 Dl = some (.lst (ps.map V.ref)) ∧ PairsAt H2 ps ((es.take i).map fun e => (V.str e.1, V.ref e.2.1)))
      ⟨Ex.new hD, hD, [], upd_same, .nil⟩ (fun i H2 _ ⟨e2, _⟩ => e2 _ _ (e1 _ _ upd_same)) ?_ ?_
    · rintro i xv H2 H3 hi ⟨e2, hDl, ps, hps, hpa⟩ ⟨Tt, xk, xw, rfl, hTn, rfl, hk, hv⟩
      unfold entK at hk hv
      dsimp only at hk hv
      rw [List.getElem?_map] at hk hv
      cases hy : es[i]? with
      | none =>
        rw [hy] at hk
        cases hk
      | some e =>
        rw [hy] at hk hv
        obtain rfl : V.str e.1 = xk := Option.some.inj hk
        obtain rfl : V.ref e.2.1 = xw := Option.some.inj hv
        refine ⟨Tt, _, rfl, st_of upd_same, rfl, _, _, rfl, _, _, rfl, rfl, rfl, c_yes (ifT rfl ?_)⟩
        have hTD : Dl ≠ Tt := ne_of_none hps hTn
        refine c_tup (ea (ea_cons (ev_var rfl) (ea_cons (ev_var rfl) ea_nil)) fun H4 e4 => ⟨by show 2 ≤ sizeLine; decide, fun b hb => ?_⟩)
        have e5 : Ex H2 (upd H4 b (.tup [.str e.1, .ref e.2.1])) := ((Ex.new hTn).trans e4).trans (Ex.new hb)
        have hps5 := e5 _ _ hps
        refine ⟨_, hps5, by
          rw [List.length_map, hpa.len, List.length_map, List.length_take]
          exact Nat.lt_of_le_of_lt (show min i es.length ≤ 2 by omega) (by decide), Ex.mut (e2.trans e5) hDl, hDl, ps ++ [b], ?_, ?_⟩
        · rw [upd_same, List.map_append]
          rfl
        · have tm : Tm (upd H4 b (.tup [.str e.1, .ref e.2.1])) (upd (upd H4 b (.tup [.str e.1, .ref e.2.1])) Dl (.lst (ps.map V.ref ++ [.ref b]))) := fun c xs hc => by
            rw [upd_ne (ne_of hc hps5 (by intro z; cases z))]
            exact hc
          rw [List.take_add_one, hy, List.map_append]
          exact PairsAt.snoc (tm _ _ upd_same) ((hpa.tm (.of e5)).tm tm)
    · rintro H2 ⟨e2, hDl, ps, hps, hpa⟩
      have hlen : (entK es).length = es.length := by
        unfold entK
        rw [List.length_map]
      rw [hlen, List.take_length] at hpa
      have hfr : H2 d = some (.frz od (.dK (entK es))) := e2 _ _ (e1 _ _ upd_same)
      refine ⟨hfr, c_nil ?_⟩
      -- the heap behind the lock
      have tmB : Tm H2 (upd H2 d (.dK (entK es))) := fun c xs hc => by
        rw [upd_ne (ne_of hc hfr (by intro z; cases z))]
        exact hc
      have hDd : Dl ≠ d := ne_of hps hfr (by intro z; cases z)
      have eB : Ex H' (upd H2 d (.dK (entK es))) := fun c o hc => by
        by_cases hcd : c = d
        · rw [hcd] at hc ⊢
          rw [upd_same, ← hc, hd']
        · rw [upd_ne hcd]
          refine e2 _ _ (e1 _ _ ?_)
          rw [upd_ne hcd]
          exact hc
      have hpB := hpa.tm tmB
      have hDB : (upd H2 d (.dK (entK es))) Dl = some (.lst (ps.map V.ref)) := by
        rw [upd_ne hDd]
        exact hps
      generalize upd H2 d (.dK (entK es)) = HB at eB hpB hDB ⊢
      have hesB : ∀ e ∈ es, GKey e.1 ∧ GDeed e.2.2 ∧ HB e.2.1 = some (.tup e.2.2.vs) ∧ (g = true → e.2.2 ≠ .shut) := fun e he => ⟨(hes e he).1, (hes e he).2.1, eB _ _ (hes e he).2.2.1, (hes e he).2.2.2⟩
      obtain ⟨l0, hl0, hl1, hl2⟩ : ∃ l0 : List KeyD, ps.map V.ref = l0.map (fun q => V.ref q.pa) ∧ l0.map (·.key) = es.map (·.1) ∧ ∀ q ∈ l0, KeyAt HB q ∧ GKey q.key ∧ GDeed q.deed ∧ (g = true → q.deed ≠ .shut) := ent_back hpB hesB
      rw [hl0] at hDB
      have hkb := keyBack_of (fun q hq => (hl2 q hq).1) (by rw [hl1]; exact hnd)
      refine ⟨Dl, l0.map (fun q => V.ref q.pa), fun v => (keyBack l0 v).key, rfl, sq_of hDB, fun x hx => ?_, fun x hx y hy e => ?_, fun ys pS perm srt hS => c_nil ⟨pS, ys, rfl, .inl ⟨sq_of upd_same, fun pT hT => ?_⟩⟩⟩
      · obtain ⟨q, hq, rfl⟩ := List.mem_map.mp hx
        refine ⟨q.pa, [.ref q.da], rfl, ?_⟩
        show HB q.pa = some (.tup [V.str (keyBack l0 (.ref q.pa)).key, .ref q.da])
        rw [hkb q hq]
        exact (hl2 q hq).1.p
      · obtain ⟨q, hq, rfl⟩ := List.mem_map.mp hx
        obtain ⟨q', hq', rfl⟩ := List.mem_map.mp hy
        have e1 : (keyBack l0 (.ref q.pa)).key = (keyBack l0 (.ref q'.pa)).key := e
        rw [hkb q hq, hkb q' hq'] at e1
        have hn2 : (l0.map (·.key)).Nodup := by rw [hl1]; exact hnd
        have : q = q' := by
          clear hl0 hl1 hl2 hkb hDB hx hy e
          induction l0 with
          | nil => simp at hq
          | cons a l ih =>
            rw [List.map_cons] at hn2
            obtain ⟨h1, h2⟩ := List.nodup_cons.mp hn2
            rcases List.mem_cons.mp hq with g1 | g1
            · rcases List.mem_cons.mp hq' with g2 | g2
              · rw [g1, g2]
              · exact absurd (List.mem_map.mpr ⟨q', g2, by rw [← e1, g1]⟩) h1
            · rcases List.mem_cons.mp hq' with g2 | g2
              · exact absurd (List.mem_map.mpr ⟨q, g1, by rw [e1, g2]⟩) h1
              · exact ih g1 g2 h2
        rw [this]
      · obtain ⟨sp, sm⟩ := sort_back hkb perm
        generalize hlS : ys.map (keyBack l0) = lS at sp sm
        have eT : Ex HB (upd (upd HB pS (.lst ys)) pT (.tup ys)) := (Ex.new hS).trans (Ex.new hT)
        have ndS : (lS.map (·.key)).Nodup := (sp.map (·.key)).nodup_iff.mpr (by rw [hl1]; exact hnd)
        have lenS : lS.length ≤ 20 := by
          have q := sp.length_eq
          have q2 := congrArg List.length hl1
          rw [List.length_map, List.length_map] at q2
          omega
        refine k _ _ (x'.trans (Xp.of (eB.trans eT))) (p'.ex (eB.trans eT)) ⟨pT, lS, rfl, by rw [upd_same, ← sm], fun q hq => ((hl2 q (sp.mem_iff.mp hq)).1).ex eT, ⟨lenS, fun z hz => ⟨(hl2 z (sp.mem_iff.mp hz)).2.1, (hl2 z (sp.mem_iff.mp hz)).2.2.1⟩, ?_⟩, fun m' e q hq => ?_⟩
        · have srt2 : lS.Pairwise fun a b => ltS b.key a.key = false := by
            rw [← hlS]
            exact List.pairwise_map.mpr srt
          rw [List.pairwise_map]
          have nd2 : lS.Pairwise fun a b => a.key ≠ b.key := List.pairwise_map.mp ndS
          exact (srt2.and nd2).imp fun {a b} h => strLt_of h.1 h.2
        · have hg : g = true := by
            injection e with _ e2
            injection e2 with e3 _
            exact V.bl.inj e3
          exact (hl2 q (sp.mem_iff.mp hq)).2.2.2 hg
end
end Kp
set_option Elab.async false
set_option linter.all false
set_option maxRecDepth 100000
set_option maxHeartbeats 4000000
/-! marks and panes -/
namespace Kp
open PySem PySem.Spec PyProof.Rows L2 Evl
def MK : List (Str × Int) := [("asleep", 9), ("hidden", 9), ("hold", 5), ("one", 4)]
abbrev mkV (z : Str × Int) : List V := [.str z.1, .int z.2]
theorem TupsAt.get {H : Hp} : ∀ {ps : List Addr} {bs : List (List V)}, TupsAt H ps bs → ∀ {i : Nat} {v : V}, (ps.map V.ref)[i]? = some v → ∃ a xs, v = .ref a ∧ bs[i]? = some xs ∧ H a = some (.tup xs)
  | _, _, .nil, i, v, h => by simp at h
  | a :: ps, xs :: bs, .cons r t, 0, v, h => ⟨a, xs, (Option.some.inj h).symm, rfl, r⟩
  | a :: ps, xs :: bs, .cons r t, i + 1, v, h => TupsAt.get t (i := i) h
theorem marks_sorted : MARKSL.Pairwise strLt := by decide +kernel
section
variable {K : PySem.W.Frag} {σ : L2.St} {H : Hp} {te : TE} {D : Ends} {Q : VK}
theorem c_tupleL {l : Addr} {xs : List V} (h : Ev te σ H (.ref l)) (hl : H l = some (.lst xs)) (k : ∀ p H1, H1 p = none → Ex H H1 → Q (.ref p) (upd H1 p (.tup xs))) : tCB (rTupS K) (tCons te tNil) σ H Q :=
  h H (Ex.refl H) _ fun H1 e => ⟨l, xs, rfl, .inl ⟨sq_of (e _ _ hl), fun p hp => k p H1 hp e⟩⟩
theorem q_forLT {g : TG} {tb tz : TS} {tl : TE} {bs : List (List V)} (h : EvLT tl σ H bs) (Pv : Addr → List Addr → Nat → L2.St → Hp → Prop) (h0 : ∀ lp ps H1, H lp = none → Ex H H1 → H1 lp = some (.lst (ps.map V.ref)) → TupsAt H1 ps bs → Pv lp ps 0 σ H1)
    (hl : ∀ lp ps i σ' H', Pv lp ps i σ' H' → H' lp = some (.lst (ps.map V.ref)) ∧ TupsAt H' ps bs)
    (hs : ∀ lp ps i a xs σ' H', bs[i]? = some xs → H' a = some (.tup xs) → Pv lp ps i σ' H' → g (.ref a) σ' H' fun σ2 H2 => tb { D with nx := Pv lp ps (i + 1), ct := Pv lp ps (i + 1), bk := tz D } σ2 H2)
    (hd : ∀ lp ps σ' H', Pv lp ps bs.length σ' H' → tz D σ' H') : tSeq (tFor (iList K tl) g tb) tz D σ H :=
  h H (Ex.refl H) _ fun lp ps H1 hn e h1 ht => ⟨lp, rfl, ⟨_, sq_of h1⟩, for_list (Pv lp ps) (h0 lp ps H1 hn e h1 ht) (fun i σ' H' _ q => sq_of (hl lp ps i σ' H' q).1) (fun i x σ' H' hi q => by
    obtain ⟨a, xs, rfl, hb, ha⟩ := (hl lp ps i σ' H' q).2.get hi
    exact hs lp ps i a xs σ' H' hb ha q) (fun σ' H' q => hd lp ps σ' H' (by
    rw [List.length_map, ht.len] at q
    exact q))⟩
/-- if c: l.append(x) -/
theorem q_appIf {p l : Addr} {i : Nat} {t : TT} {tz : TS} {cond : Prop} {H0 : Hp} {ms : List Str} {c : Str} (hσ : σ[i]? = some (some (.ref l))) (hn : H0 l = none) (hlp : l ≠ p) (x : Xp p H0 H) (hl : H l = some (.lst (ms.map V.str))) (hms : ms.length < 100)
    (ht : ∀ Q' : Bool → Hp → Prop, (∀ b H1, Xp p H H1 → Pen p H1 → (b = true → cond) → Q' b H1) → t σ H Q')
    (k : ∀ ms' H1, (ms' = ms ∨ ms' = ms ++ [c] ∧ cond) → Xp p H0 H1 → Pen p H1 → H1 l = some (.lst (ms'.map V.str)) → tz D σ H1) : tSeq (tIfS t (tDrop (tBM K "list" rAppend (tVar i) (tCons (tC (.str c)) tNil))) tNext) tz D σ H :=
  c_seq (c_if (ht _ fun b H1 x1 p1 hb => if2 (fun e => by
    have hl1 := x1 _ _ hlp hl
    refine s_app hl1 (ev_var hσ) ev_c (by rw [List.length_map]; omega) fun H2 e2 => k (ms ++ [c]) _ (.inr ⟨rfl, hb e⟩) (((x.trans x1).trans (Xp.of e2)).new hn) ((p1.ex e2).upd hlp) (by
      rw [upd_same, List.map_append]
      rfl)) fun _ => k ms H1 (.inl rfl) (x.trans x1) p1 (x1 _ _ hlp hl)))
end
section
variable {P : Program} {w : World} {K : PySem.W.Frag} {mg : Str → Option Value} {base : Heap}
def preMarks (_ : Addr) (r : List V) (_ : Hp) : Prop := ∃ u : Int, r = [.int u]
def poMarks (r : List V) (_ : Hp) (v : V) (H' : Hp) : Prop := ∃ (a : Addr) (ms : List Str), v = .ref a ∧ H' a = some (.tup (ms.map V.str)) ∧ ms.Sublist MARKSL ∧ (("sheet" : Str) ∈ ms → r = [.int 0])
theorem sc_law_marks : FnScope ["_law_pen_here", "_law_up", "_law_marks_here", "_law_mark", "_law_often"] ["_law_pen_here", "_law_up"] (defScope s_law_marks) := ⟨rfl, rfl, rfl, by decide +kernel, rfl, by decide +kernel, by decide +kernel⟩
theorem d_law_marks (T : Top K mg) : DefAt P w K mg base 2 "_law_marks" ["_law_pen_here", "_law_up"] (SpP preMarks poMarks) := by
  refine def_of T.f_law_marks sc_law_marks (by rintro _ _ _ _ ⟨_, _, rfl, _, ⟨_, rfl⟩, _⟩; rfl) (fun _ _ _ _ _ _ us hl => match us, hl with | [_, _], _ => rfl) ?_
  intro f cdv A outer s H vs Q E hr h
  obtain ⟨p, _, rfl, hp, ⟨u, rfl⟩, k⟩ := h
  refine ⟨_, (pss_cons (ps_set (i := 2) sc_law_marks.nd rfl (Or.inl rfl) (pe_lst pa_nil)) (pss_cons (ps_for PassesOwn.never rfl (pi_list (pe_lst (pa_cons (pe_tup (pa_cons pe_str (pa_cons pe_int pa_nil))) (pa_cons (pe_tup (pa_cons pe_str (pa_cons pe_int pa_nil))) (pa_cons (pe_tup (pa_cons pe_str (pa_cons pe_int pa_nil))) (pa_cons (pe_tup (pa_cons pe_str (pa_cons pe_int pa_nil))) pa_nil)))))) (pg_tup rfl (pgs_cons (pg_name (i := 3) sc_law_marks.nd rfl (Or.inl rfl)) (pgs_cons (pg_name (i := 4) sc_law_marks.nd rfl (Or.inl rfl)) pgs_nil))) (pss_one (ps_if (pt_cmpR op_eq (pe_callD (d_law_draw T) hr rfl (pa_cons (pv 0) (pa_cons (pv 4) pa_nil))) pe_int (nomark _)) (pss_one (ps_expr (pe_bm PySem.F.plainAttrs_list PySem.F.slot_list_append PySem.F.type_list_append mt_append (pv 2) (pa_cons (pv 3) pa_nil)))) pss_nil))) (pss_cons (ps_if (PW.pt (pw_and (pt_cmpR op_eq (pv 1) pe_int (nomark _)) (pw_and1 (pt_cmpR op_eq (pe_callD (d_law_draw T) hr rfl (pa_cons (pv 0) (pa_cons pe_int pa_nil))) pe_int (nomark _))))) (pss_one (ps_expr (pe_bm PySem.F.plainAttrs_list PySem.F.slot_list_append PySem.F.type_list_append mt_append (pv 2) (pa_cons pe_str pa_nil)))) pss_nil) (pss_cons (ps_if (pt_cmpR op_gt (pe_callD (d_law_draw T) hr rfl (pa_cons (pv 0) (pa_cons pe_int pa_nil))) pe_int (nomark _)) (pss_one (ps_expr (pe_bm PySem.F.plainAttrs_list PySem.F.slot_list_append PySem.F.type_list_append mt_append (pv 2) (pa_cons pe_str pa_nil)))) pss_nil) (pss_one (ps_ret (pe_callTy cr_tupS (by rfl) T.g_tuple PyProof.Rows.boot_tuple (pa_cons (pv 2) pa_nil)))))))), ?_⟩
  refine q_asgL (el_lst ea_nil (by show 0 ≤ 100000; decide)) fun l H1 hl0 e1 hl => ?_
  have hlp : l ≠ p := hp.some hl0
  have p1 := hp.ex e1
  refine q_forLT (bs := MK.map mkV) (elt_lst (eat_cons (eu_tup (ea_cons ev_c (ea_cons ev_c ea_nil)) (by show 2 ≤ 100000; decide)) (eat_cons (eu_tup (ea_cons ev_c (ea_cons ev_c ea_nil)) (by show 2 ≤ 100000; decide)) (eat_cons (eu_tup (ea_cons ev_c (ea_cons ev_c ea_nil)) (by show 2 ≤ 100000; decide)) (eat_cons (eu_tup (ea_cons ev_c (ea_cons ev_c ea_nil)) (by show 2 ≤ 100000; decide)) eat_nil)))) (by decide))
    (fun lp ps i σ' H' => ∃ (ms : List Str) (v3 v4 : Option V), σ' = [some (.ref p), some (.int u), some (.ref l), v3, v4] ∧ Xp p H H' ∧ Pen p H' ∧ H' l = some (.lst (ms.map V.str)) ∧ lp ≠ p ∧ l ≠ lp ∧ H' lp = some (.lst (ps.map V.ref)) ∧ TupsAt H' ps (MK.map mkV) ∧ ms.Sublist ((MK.take i).map (·.1)))
    (fun lp ps H2 hn e2 hlp2 ht => ⟨[], _, _, rfl, Xp.of (e1.trans e2), p1.ex e2, e2 _ _ hl, p1.some hn, ne_of_none hl hn, hlp2, ht, List.Sublist.refl _⟩) (fun lp ps i σ' H' h => by
      obtain ⟨_, _, _, _, _, _, _, _, _, h1, h2, _⟩ := h
      exact ⟨h1, h2⟩) ?_ ?_
  · rintro lp ps i a xs σ' H' hb ha ⟨ms, v3, v4, rfl, x', p', hl', hpp, hll, hlp', ht', hs'⟩
    rw [List.getElem?_map] at hb
    cases hz : MK[i]? with
    | none =>
      rw [hz] at hb
      cases hb
    | some z =>
      rw [hz] at hb
      obtain rfl : mkV z = xs := Option.some.inj hb
      have hz2 : 1 ≤ z.2 ∧ z.2 ≤ 1000000 := by
        have : ∀ z ∈ MK, 1 ≤ z.2 ∧ z.2 ≤ 1000000 := by decide
        exact this z (List.mem_of_getElem? hz)
      refine ⟨a, mkV z, rfl, st_of ha, rfl, _, _, rfl, _, _, rfl, rfl, ?_⟩
      have hi4 : i < 4 := by
        have := (List.getElem?_eq_some_iff.mp hz).1
        exact this
      have tk : MK.take (i + 1) = MK.take i ++ [z] := by
        rw [List.take_add_one, hz]
        rfl
      refine c_if (c_test (c_op (g_draw (ea_cons (ev_var rfl) (ea_cons (ev_var rfl) ea_nil)) p' hz2 fun d H3 _ _ x3 p3 => er ev_c fun H4 e4 => ⟨rfl, _, rfl, if2 (fun _ => ?_) fun _ => ?_⟩)))
      · have x4 := x3.trans (Xp.of e4)
        have hl4 := x4 _ _ hlp hl'
        have hlp4 := x4 _ _ hpp hlp'
        have p4 := p3.ex e4
        refine s_app hl4 (ev_var rfl) (ev_var rfl) (by
          rw [List.length_map]
          have := hs'.length_le
          rw [List.length_map, List.length_take] at this
          omega) fun H5 e5 => ?_
        have hl5 := e5 _ _ hl4
        have hlp5 := e5 _ _ hlp4
        have x5 := (x'.trans x4).trans (Xp.of e5)
        have tm5 : Tm H' (upd H5 l (.lst (ms.map V.str ++ [.str z.1]))) := fun c ys hc => by
          have h5 := ((x4.trans (Xp.of e5)).tm p') _ _ hc
          rw [upd_ne (ne_of h5 hl5 (by intro w; cases w))]
          exact h5
        refine ⟨ms ++ [z.1], _, _, rfl, x5.new hl0, (p4.ex e5).upd hlp, by rw [upd_same, List.map_append]; rfl, hpp, hll, by rw [upd_ne hll.symm]; exact hlp5, ht'.tm tm5, ?_⟩
        rw [tk, List.map_append]
        exact hs'.append (List.Sublist.refl _)
      · have x4 := x3.trans (Xp.of e4)
        refine ⟨ms, _, _, rfl, x'.trans x4, p3.ex e4, x4 _ _ hlp hl', hpp, hll, x4 _ _ hpp hlp', ht'.tm (x4.tm p'), ?_⟩
        rw [tk, List.map_append]
        exact hs'.trans (List.sublist_append_left _ _)
  · rintro lp ps σ' H' ⟨ms, v3, v4, rfl, x', p', hl', -, -, -, -, hs'⟩
    have hs4 : ms.Sublist ["asleep", "hidden", "hold", "one"] := hs'
    clear hs'
    have hnot : ("sheet" : Str) ∉ ms := fun h => by
      have := hs4.subset h
      revert this
      decide
    refine q_appIf (cond := u = 0) rfl hl0 hlp x' hl' (by have := hs4.length_le; simp at this; omega) (fun Q' q => et_test (ev_op (z := .bl (decide (V.int u = V.int 0))) (ev_var rfl) ev_c (rv_eq rfl)) H' (Ex.refl H') _ fun H3 e3 => if2 (fun hu => c_test (c_op (g_draw (ea_cons (ev_var rfl) (ea_cons ev_c ea_nil)) (p'.ex e3) ⟨by decide, by decide⟩ fun d H4 _ _ x4 p4 => er ev_c fun H5 e5 => ⟨rfl, _, rfl, q _ H5 (((Xp.of e3).trans x4).trans (Xp.of e5)) (p4.ex e5) fun _ => V.int.inj (of_decide_eq_true hu)⟩))) fun hu => q _ H3 (Xp.of e3) (p'.ex e3) fun z => by cases z)
      fun ms1 H3 hc x3 p3 hl3 => ?_
    have hs5 : ms1.Sublist ["asleep", "hidden", "hold", "one", "sheet"] := by
      rcases hc with rfl | ⟨rfl, _⟩
      · exact hs4.trans (by decide)
      · exact hs4.append (List.Sublist.refl _)
    have hu1 : ("sheet" : Str) ∈ ms1 → u = 0 := fun hm => by
      rcases hc with rfl | ⟨rfl, h⟩
      · exact absurd hm hnot
      · exact h
    refine q_appIf (cond := True) rfl hl0 hlp x3 hl3 (by have := hs5.length_le; simp at this; omega) (fun Q' q => c_test (c_op (g_draw (ea_cons (ev_var rfl) (ea_cons ev_c ea_nil)) p3 ⟨by decide, by decide⟩ fun d H4 _ _ x4 p4 => er ev_c fun H5 e5 => ⟨_, _, rfl, rfl, _, rfl, q _ H5 (x4.trans (Xp.of e5)) (p4.ex e5) fun _ => trivial⟩)))
      fun ms2 H4 hc2 x4 p4 hl4 => ?_
    refine c_ret (c_tupleL (ev_var rfl) hl4 fun a H5 hn e5 => k _ _ (((x4.trans (Xp.of e5)).new ((x4.trans (Xp.of e5)).fresh (p4.ex e5) hn))) ((p4.ex e5).upd ((p4.ex e5).some hn)) ⟨a, ms2, rfl, upd_same, ?_, fun hm => ?_⟩)
    · rcases hc2 with rfl | ⟨rfl, _⟩
      · exact hs5.trans (by decide)
      · exact hs5.append (List.Sublist.refl _)
    · rw [hu1 (by
        rcases hc2 with rfl | ⟨rfl, _⟩
        · exact hm
        · rcases List.mem_append.mp hm with h | h
          · exact h
          · exact absurd (List.mem_singleton.mp h) (by decide))]
end
end Kp
set_option Elab.async false
set_option linter.all false
set_option maxRecDepth 100000
set_option maxHeartbeats 4000000
/-! panes -/
namespace Kp
open PySem PySem.Spec PyProof.Rows L2 Evl
section
variable {P : Program} {w : World} {K : PySem.W.Frag} {mg : Str → Option Value} {base : Heap}
def prePane (_ : Addr) (r : List V) (_ : Hp) : Prop := ∃ n u : Int, r = [.int n, .int u] ∧ 0 ≤ n ∧ n ≤ 1000000 ∧ 0 ≤ u ∧ u ≤ 1000000
def poPane (r : List V) (_ : Hp) (v : V) (H' : Hp) : Prop := ∃ (q : LP) (u : Int), v = .ref q.ad ∧ r = [.int q.nm, .int u] ∧ LpAt H' q ∧ GPane q ∧ q.up = some u ∧ (("sheet" : Str) ∈ q.marks → u = 0)
theorem sc_law_pane : FnScope ["_law_pen_here", "_law_name", "_law_up", "_law_marks_here", "_law_turn"] ["_law_pen_here", "_law_name", "_law_up"] (defScope s_law_pane) := ⟨rfl, rfl, rfl, by decide +kernel, rfl, by decide +kernel, by decide +kernel⟩
theorem d_law_pane (T : Top K mg) : DefAt P w K mg base 6 "_law_pane" ["_law_pen_here", "_law_name", "_law_up"] (SpP prePane poPane) := by
  refine def_of T.f_law_pane sc_law_pane (by rintro _ _ _ _ ⟨_, _, rfl, _, ⟨_, _, rfl, _⟩, _⟩; rfl) (fun _ _ _ _ _ _ us hl => match us, hl with | [_, _, _], _ => rfl) ?_
  intro f cdv A outer s H vs Q E hr h
  obtain ⟨p, _, rfl, hp, ⟨n, u, rfl, hn0, hn1, hu0, hu1⟩, k⟩ := h
  refine ⟨_, (pss_cons (ps_set (i := 3) sc_law_pane.nd rfl (Or.inl rfl) (pe_callD (d_law_marks T) hr rfl (pa_cons (pv 0) (pa_cons (pv 2) pa_nil)))) (pss_cons (ps_set (i := 4) sc_law_pane.nd rfl (Or.inl rfl) (pe_callD (d_law_pick T) hr rfl (pa_cons (pv 0) (pa_cons (pe_lst (pa_cons pe_int (pa_cons pe_int (pa_cons (pe_op op_sub (pe_callD (d_law_draw T) hr rfl (pa_cons (pv 0) (pa_cons pe_int pa_nil))) pe_int) (pa_cons (pe_op op_pow pe_int pe_int) (pa_cons (pe_un un_neg (pe_op op_pow pe_int pe_int)) pa_nil)))))) pa_nil)))) (pss_one (ps_ret (pe_tup (pa_cons (pv 1) (pa_cons (pv 2) (pa_cons (pe_callD (d_law_box T) hr rfl (pa_cons (pv 0) pa_nil)) (pa_cons (pv 4) (pa_cons (pv 3) (pa_cons (pe_callD (d_law_keys T) hr rfl (pa_cons (pv 0) (pa_cons (pe_callD (d_law_draw T) hr rfl (pa_cons (pv 0) (pa_cons pe_int pa_nil))) (pa_cons pe_bl pa_nil)))) pa_nil))))))))))), ?_⟩
  refine c_seq (c_asg (g_call (vs := [.int u]) (ea_cons (ev_var rfl) (ea_cons (ev_var rfl) ea_nil)) hp (fun _ _ => ⟨u, rfl⟩) fun v H0 H1 _ x1 p1 po => ?_))
  obtain ⟨ma, ms, rfl, hma, hms, hsh⟩ := po
  dsimp only
  refine c_seq (c_asg ?_)
  refine c_call (c_cons (er (ev_var rfl) fun H2 e2 => c_cons (c_lst (c_cons (er ev_c fun H3 e3 => c_cons (er ev_c fun H4 e4 => c_cons (c_op (g_draw (ea_cons (ev_var rfl) (ea_cons ev_c ea_nil)) (p1.ex ((e2.trans e3).trans e4)) ⟨by decide, by decide⟩ fun d H5 d0 d1 x5 p5 => er ev_c fun H6 e6 => ⟨_, _, rfl, rfl, ea (vs := [.int 1000000, .int (-1000000)]) (ea_cons ev_p6 (ea_cons (ev_neg ev_p6) ea_nil)) fun H7 e7 => ⟨by show 5 ≤ sizeLine; decide, fun l hl => c_nil ?_⟩⟩))))))))
  have x7 := (((x1.trans (Xp.of ((e2.trans e3).trans e4))).trans x5).trans (Xp.of (e6.trans e7)))
  have p7 := p5.ex (e6.trans e7)
  have tm7 : Tm H1 H7 := ((Tm.of ((e2.trans e3).trans e4)).trans (x5.tm (p1.ex ((e2.trans e3).trans e4)))).trans (.of (e6.trans e7))
  have hma7 := tm7 _ _ hma
  refine ⟨p, [.ref l], rfl, p7.upd (p7.some hl), .inl ⟨l, [0, 0, d - 4, 1000000, -1000000].map V.int, rfl, ⟨p7.some hl, .inl upd_same⟩, by show 1 ≤ 5; decide, by show 5 ≤ 1000; decide⟩, fun v H8 x8 p8 po => ?_⟩
  obtain ⟨tn, rfl, htn0, htn1⟩ : ∃ tn : Int, v = .int tn ∧ -1000000 ≤ tn ∧ tn ≤ 1000000 := by
    rcases po with ⟨t', ys, e, h, hv⟩ | ⟨z, c, e, _⟩
    · cases e
      have e2 : ys = [0, 0, d - 4, 1000000, -1000000].map V.int := by
        rw [upd_same] at h
        rcases h with h | h <;> cases h
        rfl
      rw [e2] at hv
      obtain ⟨y, rfl, hy⟩ := mem_int hv
      simp only [List.mem_cons, List.not_mem_nil, or_false] at hy
      exact ⟨y, rfl, by omega, by omega⟩
    · cases e
  have x9 := (x7.new (x7.fresh p7 hl)).trans x8
  have hma8 := x8.tm (p7.upd (p7.some hl)) _ _ ((Ex.new hl) _ _ hma7)
  refine c_ret (c_tup (c_cons (er (ev_var rfl) fun H9 e9 => c_cons (er (ev_var rfl) fun H10 e10 => c_cons (g_no (ea_cons (ev_var rfl) ea_nil) (p8.ex (e9.trans e10)) fun v H0' H11 _ x11 p11 po2 => ?_)))))
  obtain ⟨ba, b, rfl, hba, hb⟩ := po2
  have tm11 := (Tm.of (e9.trans e10)).trans (x11.tm (p8.ex (e9.trans e10)))
  refine c_cons (er (ev_var rfl) fun H12 e12 => c_cons (er (ev_var rfl) fun H13 e13 => c_cons (c_call (c_cons (er (ev_var rfl) fun H14 e14 => c_cons (g_draw (ea_cons (ev_var rfl) (ea_cons ev_c ea_nil)) (p11.ex ((e12.trans e13).trans e14)) ⟨by decide, by decide⟩ fun m H15 m0 m1 x15 p15 => c_cons (er ev_c fun H16 e16 => c_nil ?_)))))))
  have p16 := p15.ex e16
  have x16 := (((x9.trans (Xp.of (e9.trans e10))).trans x11).trans (Xp.of ((e12.trans e13).trans e14))).trans (x15.trans (Xp.of e16))
  have tm16 : Tm H11 H16 := ((Tm.of ((e12.trans e13).trans e14)).trans (x15.tm (p11.ex ((e12.trans e13).trans e14)))).trans (.of e16)
  refine ⟨p, [.int m, .bl false], rfl, p16, ⟨m, false, rfl, m0, by omega⟩, fun v H17 x17 p17 po3 => ?_⟩
  obtain ⟨ka, ks, rfl, hka, hks, hgk, -⟩ := po3
  have tm17 := x17.tm p16
  refine c_nil ⟨by show 6 ≤ sizeLine; decide, fun ad had => ?_⟩
  have x18 := x16.trans x17
  have en : Ex H17 (upd H17 ad (.tup [.int n, .int u, .ref ba, .int tn, .ref ma, .ref ka])) := Ex.new had
  refine k _ _ (x18.new (x18.fresh p17 had)) (p17.upd (p17.some had)) ⟨⟨ad, n, some u, ba, b.1, b.2.1, b.2.2.1, b.2.2.2, tn, ma, ms, ka, ks⟩, u, rfl, rfl,
    ⟨upd_same, en _ _ (tm17 _ _ (tm16 _ _ hba)), en _ _ (tm17 _ _ (tm16 _ _ (tm11 _ _ hma8))), en _ _ hka, fun z hz => (hks z hz).ex en⟩,
    ⟨⟨hn0, hn1⟩, fun m e => by
      cases e
      exact ⟨hu0, hu1⟩, hb.1, hb.2.1, hb.2.2.1, hb.2.2.2, ⟨htn0, htn1⟩, ⟨fun x hx => hms.subset hx, marks_sorted.sublist hms, hms.length_le⟩, hgk⟩, rfl, fun hm => by
      have q := hsh hm
      injection q with q1 _
      exact V.int.inj q1⟩
end
end Kp
set_option Elab.async false
set_option linter.all false
set_option maxRecDepth 100000
set_option maxHeartbeats 4000000
/-! plans -/
namespace Kp
open PySem PySem.Spec PyProof.Rows L2 Evl
def lpBack (l0 : List LP) (v : V) : LP := (l0.find? fun q => decide (V.ref q.ad = v)).getD default
theorem lpBack_of {H : Hp} {l0 : List LP} (ha : ∀ q ∈ l0, LpAt H q) (hn : (names l0).Nodup) : ∀ q ∈ l0, lpBack l0 (.ref q.ad) = q := by
  intro q hq
  have hs : (l0.find? fun z => decide (V.ref z.ad = V.ref q.ad)).isSome := List.find?_isSome.mpr ⟨q, hq, decide_eq_true rfl⟩
  obtain ⟨x, hx⟩ := Option.isSome_iff_exists.mp hs
  unfold lpBack
  rw [hx]
  show x = q
  have hm := List.mem_of_find?_eq_some hx
  have h2 := List.find?_some hx
  have he : V.ref x.ad = V.ref q.ad := of_decide_eq_true h2
  have e1 := (ha x hm).a
  have e2 := (ha q hq).a
  rw [V.ref.inj he, e2] at e1
  have ek : x.nm = q.nm := by
    have z := HO.tup.inj (Option.some.inj e1)
    injection z with z1 z2
    exact (V.int.inj z1).symm
  exact map_inj hn hm hq ek
theorem plan_good {g : LP} {qs lS : List LP} {ms : List Int} (hg : GPane g) (h0 : g.nm = 0 ∧ g.up = none ∧ g.l = 0 ∧ g.t = 0 ∧ g.turn = 0 ∧ g.marks = []) (hk : ∀ z ∈ g.keys, z.deed ≠ .shut) (hq : ∀ q ∈ qs, GPane q) (hm : names qs = ms) (hms : ∀ n ∈ ms, 1 ≤ n) (hnd : ms.Nodup) (hlen : ms.length ≤ 5)
    (hu : ∀ j q, qs[j]? = some q → ∃ m, q.up = some m ∧ m ∈ (0 :: ms).take (j + 1) ∧ (("sheet" : Str) ∈ q.marks → m = 0)) (hp : lS.Perm (g :: qs)) (hs : lS.Pairwise fun a b => ltI b.nm a.nm = false) : Good lS := by
  have hall : names (g :: qs) = 0 :: ms := by
    show g.nm :: names qs = 0 :: ms
    rw [hm, h0.1]
  have hnd0 : (0 :: ms).Nodup := List.nodup_cons.mpr ⟨fun h => by have := hms 0 h; omega, hnd⟩
  have hnm : (names lS).Perm (0 :: ms) := by
    rw [← hall]
    exact hp.map _
  have hlt : (names lS).Pairwise (· < ·) := by
    refine nd_lt ?_ (hnm.nodup_iff.mpr hnd0)
    refine List.pairwise_map.mpr (hs.imp fun {a b} h => ?_)
    have := of_decide_eq_false (p := b.nm < a.nm) h
    omega
  have hl : lS.length = ms.length + 1 := by
    have := hnm.length_eq
    rw [names, List.length_map, List.length_cons] at this
    exact this
  cases hS : lS with
  | nil =>
    rw [hS] at hl
    cases hl
  | cons a r =>
    rw [hS] at hp hlt hnm hl
    have ha : a.nm = 0 := by
      have hin : (0 : Int) ∈ names (a :: r) := hnm.mem_iff.mpr List.mem_cons_self
      have ha2 : a.nm ∈ (0 :: ms : List Int) := hnm.mem_iff.mp List.mem_cons_self
      rcases List.mem_cons.mp ha2 with e | e
      · exact e
      · have h1 := hms _ e
        rcases List.mem_cons.mp hin with e2 | e2
        · exact e2.symm
        · have h3 : a.nm < 0 := (List.pairwise_cons.mp hlt).1 0 e2
          omega
    have hndL : (names (g :: qs)).Nodup := by rw [hall]; exact hnd0
    have eag : a = g := map_inj hndL (hp.mem_iff.mp List.mem_cons_self) List.mem_cons_self (by rw [ha, h0.1])
    subst eag
    have hpr : r.Perm qs := (List.perm_cons a).mp hp
    refine ⟨fun n => (0 :: ms).idxOf n, a, r, rfl, ?_, ?_, hlt, h0, hk, ?_, ?_⟩
    · rw [hl]
      omega
    · intro q hq2
      rcases List.mem_cons.mp hq2 with rfl | hq2
      · exact hg
      · exact hq q (hpr.mem_iff.mp hq2)
    · intro q hq2
      obtain ⟨j, hj⟩ := List.mem_iff_getElem?.mp (hpr.mem_iff.mp hq2)
      obtain ⟨m, h1, h2, h3⟩ := hu j q hj
      refine ⟨m, h1, hnm.mem_iff.mpr (List.mem_of_mem_take h2), ?_, h3⟩
      have hjl : j < ms.length := by
        rw [← hm, names, List.length_map]
        exact (List.getElem?_eq_some_iff.mp hj).1
      have e1 : (0 :: ms)[j + 1]? = some q.nm := by
        rw [List.getElem?_cons_succ, ← hm, names, List.getElem?_map, hj]
        rfl
      obtain ⟨hb, e1⟩ := List.getElem?_eq_some_iff.mp e1
      obtain ⟨i, hi, e2⟩ := List.mem_iff_getElem.mp h2
      rw [List.length_take] at hi
      rw [List.getElem_take] at e2
      have f1 := List.Nodup.idxOf_getElem hnd0 (j + 1) hb
      have f2 := List.Nodup.idxOf_getElem hnd0 i (by omega)
      rw [e1] at f1
      rw [e2] at f2
      show (0 :: ms).idxOf m < (0 :: ms).idxOf q.nm
      rw [f1, f2]
      omega
    · intro n
      have h1 : (0 :: ms).idxOf n ≤ (0 :: ms).length := List.idxOf_le_length
      rw [List.length_cons] at h1
      show (0 :: ms).idxOf n ≤ 40
      omega
theorem tm_upd {H : Hp} {l : Addr} {xs : List V} {o : HO} (h : H l = some (.lst xs)) : Tm H (upd H l o) := fun c ys hc => by
  rw [upd_ne (ne_of hc h (by intro w; cases w))]
  exact hc
section
variable {K : PySem.W.Frag} {σ : L2.St} {H : Hp} {te : TE} {D : Ends} {Q : VK} {p : Addr} {E : XK}
theorem c_forI {g : TG} {tb : TS} {tl : TE} (h : tl σ H fun x H1 => ∃ a, x = .ref a ∧ (∃ xs, SqL K H1 a xs) ∧ ∃ W : Nat → Nat → L2.St → Hp → Prop, (∃ m, W 0 m σ H1) ∧ ∀ i m σ H, W i m σ H →
      ((Itl K a).stop i H ∧ D.nx σ H) ∨ ((Itl K a).go i H ∧ ∃ N : L2.St → Hp → Prop, (∀ σ' H', N σ' H' → ∃ m', m' < m ∧ W (i + 1) m' σ' H') ∧ ∀ x H', (Itl K a).yld i H x H' → g x σ H' fun σ2 H2 => tb { D with nx := N, ct := N, bk := D.nx } σ2 H2)) : tFor (iList K tl) g tb D σ H := h
theorem sp_pick {xs : List V} {l : Addr} {r : List V} (hr : r = [.ref p, .ref l]) (hp : Pen p H) (hl : ThAt p H l xs) (hz : 1 ≤ xs.length ∧ xs.length ≤ 1000) (k : ∀ v H', v ∈ xs → Xp p H H' → Pen p H' → Q v H') : SpP prePick poPick r H Q E :=
  ⟨p, [.ref l], hr, hp, .inl ⟨l, xs, rfl, hl, hz⟩, fun v H' x pn po => by
    rcases po with ⟨t', ys, e, h, hv⟩ | ⟨z, c, e, _⟩
    · cases e
      have h2 := hl.2
      have : ys = xs := by
        rcases h with h | h <;> rcases h2 with h2 | h2 <;> rw [h] at h2 <;> cases h2 <;> rfl
      subst this
      exact k v H' hv x pn
    · cases e⟩
/-- the size of the ground: a or b or what is drawn -/
theorem g_size {a b : Int} (ha : 1 ≤ a ∧ a ≤ 60) (hb : 1 ≤ b ∧ b ≤ 60) (hv : σ[0]? = some (some (.ref p))) (hp : Pen p H) (k : ∀ y H', 1 ≤ y → y ≤ 60 → Xp p H H' → Pen p H' → Q (.int y) H') :
    tCall (SpP prePick poPick) [] E (tCons (tVar 0) (tCons (tLst (tCons (tC (.int a)) (tCons (tC (.int b)) (tCons (tOp (rI0 fun i j => V.int (i + j)) (tC (.int 1)) (tCall (SpP preDraw poDraw) [] E (tCons (tVar 0) (tCons (tC (.int 60)) tNil)))) tNil)))) tNil)) σ H Q := by
  refine c_call (c_cons (er (ev_var hv) fun H2 e2 => c_cons (c_lst (c_cons (er ev_c fun H3 e3 => c_cons (er ev_c fun H4 e4 => c_cons (c_op (er ev_c fun H5 e5 => g_draw (ea_cons (ev_var hv) (ea_cons ev_c ea_nil)) (hp.ex (((e2.trans e3).trans e4).trans e5)) ⟨by decide, by decide⟩ fun d H6 d0 d1 x6 p6 => ⟨_, _, rfl, rfl, c_nil ⟨by show 3 ≤ sizeLine; decide, fun l hl => c_nil ?_⟩⟩))))))))
  have x6' := (Xp.of (((e2.trans e3).trans e4).trans e5)).trans x6
  refine sp_pick (xs := [a, b, 1 + d].map V.int) rfl (p6.upd (p6.some hl)) ⟨p6.some hl, .inl upd_same⟩ ⟨by show 1 ≤ 3; decide, by show 3 ≤ 1000; decide⟩ fun v H8 hv x8 p8 => ?_
  obtain ⟨y, rfl, hy⟩ := mem_int hv
  simp only [List.mem_cons, List.not_mem_nil, or_false] at hy
  exact k y H8 (by omega) (by omega) ((x6'.new (x6'.fresh p6 hl)).trans x8) p8
end
section
variable {P : Program} {w : World} {K : PySem.W.Frag} {mg : Str → Option Value} {base : Heap}
def prePlan (_ : Addr) (r : List V) (_ : Hp) : Prop := ∃ m : Int, r = [.int m] ∧ 1 ≤ m ∧ m ≤ 6
def poPlan (_ : List V) (_ : Hp) (v : V) (H' : Hp) : Prop := ∃ (a : Addr) (L : List LP), v = .ref a ∧ Pl H' a L
theorem sc_law_plan : FnScope ["_law_pen_here", "_law_most", "_law_many", "_law_wide", "_law_high", "_law_panes", "_law_step", "_law_names_here", "_law_turn", "_law_over", "_law_name", "_law_up"] ["_law_pen_here", "_law_most"] (defScope s_law_plan) := ⟨rfl, rfl, rfl, by decide +kernel, rfl, by decide +kernel, by decide +kernel⟩
theorem d_law_plan (T : Top K mg) : DefAt P w K mg base 7 "_law_plan" ["_law_pen_here", "_law_most"] (SpP prePlan poPlan) := by
  refine def_of T.f_law_plan sc_law_plan (by rintro _ _ _ _ ⟨_, _, rfl, _, ⟨_, rfl, _⟩, _⟩; rfl) (fun _ _ _ _ _ _ us hl => match us, hl with | [_, _], _ => rfl) ?_
  intro f cdv A outer s H vs Q E hr h
  obtain ⟨p, _, rfl, hp, ⟨most, rfl, hm1, hm6⟩, k⟩ := h
  refine ⟨_, (pss_cons (ps_set (i := 2) sc_law_plan.nd rfl (Or.inl rfl) (pe_callD (d_law_draw T) hr rfl (pa_cons (pv 0) (pa_cons (pv 1) pa_nil)))) (pss_cons (ps_set (i := 3) sc_law_plan.nd rfl (Or.inl rfl) (pe_callD (d_law_pick T) hr rfl (pa_cons (pv 0) (pa_cons (pe_lst (pa_cons pe_int (pa_cons pe_int (pa_cons (pe_op op_add pe_int (pe_callD (d_law_draw T) hr rfl (pa_cons (pv 0) (pa_cons pe_int pa_nil)))) pa_nil)))) pa_nil)))) (pss_cons (ps_set (i := 4) sc_law_plan.nd rfl (Or.inl rfl) (pe_callD (d_law_pick T) hr rfl (pa_cons (pv 0) (pa_cons (pe_lst (pa_cons pe_int (pa_cons pe_int (pa_cons (pe_op op_add pe_int (pe_callD (d_law_draw T) hr rfl (pa_cons (pv 0) (pa_cons pe_int pa_nil)))) pa_nil)))) pa_nil)))) (pss_cons (ps_set (i := 5) sc_law_plan.nd rfl (Or.inl rfl) (pe_lst (pa_cons (pe_tup (pa_cons pe_int (pa_cons pe_non (pa_cons (pe_tup (pa_cons pe_int (pa_cons pe_int (pa_cons (pv 3) (pa_cons (pv 4) pa_nil))))) (pa_cons pe_int (pa_cons (pe_tup pa_nil) (pa_cons (pe_callD (d_law_keys T) hr rfl (pa_cons (pv 0) (pa_cons (pe_callD (d_law_draw T) hr rfl (pa_cons (pv 0) (pa_cons pe_int pa_nil))) (pa_cons pe_bl pa_nil)))) pa_nil))))))) pa_nil))) (pss_cons (ps_par (i := 6) (j := 7) (by rfl) sc_law_plan.nd rfl rfl (by decide) rfl rfl (pa_cons (pe_callD (d_law_pick T) hr rfl (pa_cons (pv 0) (pa_cons (pe_lst (pa_cons pe_int (pa_cons pe_int (pa_cons pe_int (pa_cons pe_int pa_nil))))) pa_nil))) (pa_cons (pe_lst pa_nil) pa_nil)) (by rfl)) (pss_cons (ps_for PassesOwn.never rfl (pi_range1 rfl T.g_range (pa_cons (pv 2) pa_nil)) (pg_name (i := 8) sc_law_plan.nd rfl (Or.inl rfl)) (pss_one (ps_expr (pe_bm PySem.F.plainAttrs_list PySem.F.slot_list_append PySem.F.type_list_append mt_append (pv 7) (pa_cons (pe_op op_add (pe_op op_add pe_int (pe_op op_mul (pv 8) (pv 6))) (pe_callD (d_law_draw T) hr rfl (pa_cons (pv 0) (pa_cons (pv 6) pa_nil)))) pa_nil))))) (pss_cons (ps_set (i := 9) sc_law_plan.nd rfl (Or.inl rfl) (pe_lst (pa_cons pe_int pa_nil))) (pss_cons (ps_for PassesOwn.never rfl (pi_list (pe_callD (d_law_mixed T) hr rfl (pa_cons (pv 0) (pa_cons (pv 7) pa_nil)))) (pg_name (i := 10) sc_law_plan.nd rfl (Or.inl rfl)) (pss_cons (ps_set (i := 11) sc_law_plan.nd rfl (Or.inl rfl) (pe_callD (d_law_pick T) hr rfl (pa_cons (pv 0) (pa_cons (pe_lst (pa_cons pe_int (pa_cons (pe_ix ix_list (pv 9) (pe_un un_neg pe_int) (fun _ _ => rfl)) (pa_cons (pe_ix ix_list (pv 9) (pe_callD (d_law_draw T) hr rfl (pa_cons (pv 0) (pa_cons (pe_callB cr_lenS (by rfl) T.g_len PySem.boot_len (pa_cons (pv 9) pa_nil)) pa_nil))) (fun _ _ => rfl)) pa_nil)))) pa_nil)))) (pss_cons (ps_expr (pe_bm PySem.F.plainAttrs_list PySem.F.slot_list_append PySem.F.type_list_append mt_append (pv 5) (pa_cons (pe_callD (d_law_pane T) hr rfl (pa_cons (pv 0) (pa_cons (pv 10) (pa_cons (pv 11) pa_nil)))) pa_nil))) (pss_one (ps_expr (pe_bm PySem.F.plainAttrs_list PySem.F.slot_list_append PySem.F.type_list_append mt_append (pv 9) (pa_cons (pv 10) pa_nil))))))) (pss_one (ps_ret (pe_callTy cr_tupS (by rfl) T.g_tuple PyProof.Rows.boot_tuple (pa_cons (pe_callB (cr_sortedK fkI) (by rfl) T.g_sorted PyProof.Rows.boot_sorted (pa_cons (pv 5) pa_nil)) pa_nil)))))))))))), ?_⟩
  refine c_seq (c_asg (g_draw (ea_cons (ev_var rfl) (ea_cons (ev_var rfl) ea_nil)) hp ⟨hm1, by omega⟩ fun many H1 n0 n1 x1 p1 => ?_))
  dsimp only
  refine c_seq (c_asg (g_size ⟨by decide, by decide⟩ ⟨by decide, by decide⟩ rfl p1 fun wide H2 w0 w1 x2 p2 => ?_))
  dsimp only
  refine c_seq (c_asg (g_size ⟨by decide, by decide⟩ ⟨by decide, by decide⟩ rfl p2 fun high H3 g0 g1 x3 p3 => ?_))
  dsimp only
  have x03 := (x1.trans x2).trans x3
  refine c_seq (c_asg ?_)
  refine c_lst (c_cons (c_tup (c_cons (er ev_c fun H4 e4 => c_cons (er ev_c fun H5 e5 => c_cons (eu_tup (vs := [.int 0, .int 0, .int wide, .int high]) (ea_cons ev_c (ea_cons ev_c (ea_cons (ev_var rfl) (ea_cons (ev_var rfl) ea_nil)))) (by show 4 ≤ 100000; decide) H5 (Ex.refl H5) _ fun ba H6 hba0 e6 hba => c_cons (er ev_c fun H7 e7 => c_cons (eu_tup (vs := []) ea_nil (by show 0 ≤ 100000; decide) H7 (Ex.refl H7) _ fun ma H8 hma0 e8 hma => c_cons (c_call (c_cons (er (ev_var rfl) fun H9 e9 => c_cons (g_draw (ea_cons (ev_var rfl) (ea_cons ev_c ea_nil)) (p3.ex ((((e4.trans e5).trans e6).trans (e7.trans e8)).trans e9)) ⟨by decide, by decide⟩ fun m H10 m0 m1 x10 p10 => c_cons (er ev_c fun H11 e11 => c_nil ?_)))))))))))))
  have eA : Ex H3 H9 := (((e4.trans e5).trans e6).trans (e7.trans e8)).trans e9
  have p11 := p10.ex e11
  have tm11 : Tm H8 H11 := ((Tm.of e9).trans (x10.tm (p3.ex eA))).trans (.of e11)
  refine ⟨p, [.int m, .bl true], rfl, p11, ⟨m, true, rfl, m0, by omega⟩, fun v H12 x12 p12 po3 => ?_⟩
  obtain ⟨ka, ks, rfl, hka, hks, hgk, hsh⟩ := po3
  refine c_nil ⟨by show 6 ≤ sizeLine; decide, fun ad had => c_nil ⟨by show 1 ≤ sizeLine; decide, fun Pn hPn => ?_⟩⟩
  have x12' : Xp p H H12 := ((x03.trans (Xp.of eA)).trans x10).trans ((Xp.of e11).trans x12)
  have en : Ex H12 (upd H12 ad (.tup [.int 0, .non, .ref ba, .int 0, .ref ma, .ref ka])) := Ex.new had
  obtain ⟨g, hgE, hg, hgg, hg0, hgs⟩ : ∃ g : LP, g.ad = ad ∧ LpAt (upd H12 ad (.tup [.int 0, .non, .ref ba, .int 0, .ref ma, .ref ka])) g ∧ GPane g ∧ (g.nm = 0 ∧ g.up = none ∧ g.l = 0 ∧ g.t = 0 ∧ g.turn = 0 ∧ g.marks = []) ∧ ∀ z ∈ g.keys, z.deed ≠ .shut := by
    refine ⟨⟨ad, 0, none, ba, 0, 0, wide, high, 0, ma, [], ka, ks⟩, rfl, ⟨upd_same, en _ _ ((x12.tm p11) _ _ (tm11 _ _ ((Tm.of (e7.trans e8)) _ _ hba))), en _ _ ((x12.tm p11) _ _ (tm11 _ _ hma)), en _ _ hka, fun z hz => (hks z hz).ex en⟩, ?_, ⟨rfl, rfl, rfl, rfl, rfl, rfl⟩, hsh m rfl⟩
    refine ⟨⟨?_, ?_⟩, (fun m e => nomatch e), ⟨?_, ?_⟩, ⟨?_, ?_⟩, ⟨?_, ?_⟩, ⟨?_, ?_⟩, ⟨?_, ?_⟩, ⟨fun x hx => by simp at hx, List.Pairwise.nil, Nat.zero_le _⟩, hgk⟩
    all_goals (dsimp only; omega)
  subst hgE
  have x13 : Xp p H (upd H12 g.ad (.tup [.int 0, .non, .ref ba, .int 0, .ref ma, .ref ka])) := x12'.new (x12'.fresh p12 had)
  have p13 : Pen p (upd H12 g.ad (.tup [.int 0, .non, .ref ba, .int 0, .ref ma, .ref ka])) := p12.upd (p12.some had)
  dsimp only [gName]
  generalize upd H12 g.ad (.tup [.int 0, .non, .ref ba, .int 0, .ref ma, .ref ka]) = H13 at hg x13 p13 hPn ⊢
  have hPp : Pn ≠ p := p13.some hPn
  have hPH : H Pn = none := x13.fresh p13 hPn
  have x14 : Xp p H (upd H13 Pn (.lst [.ref g.ad])) := x13.new hPH
  have p14 : Pen p (upd H13 Pn (.lst [.ref g.ad])) := p13.upd hPp
  have hg14 : LpAt (upd H13 Pn (.lst [.ref g.ad])) g := hg.ex (Ex.new hPn)
  have hP14 : (upd H13 Pn (.lst [.ref g.ad])) Pn = some (.lst [.ref g.ad]) := upd_same
  generalize upd H13 Pn (.lst [.ref g.ad]) = H14 at x14 p14 hg14 hP14 ⊢
  refine c_seq (c_par (c_cons (g_pickL (xs := [1, 1, 3, 20000].map V.int) (ev_var rfl) (el_lst (ea_cons ev_c (ea_cons ev_c (ea_cons ev_c (ea_cons ev_c ea_nil)))) (by show 4 ≤ 100000; decide)) p14 ⟨by show 1 ≤ 4; decide, by show 4 ≤ 1000; decide⟩ fun v H15 hv x15 p15 => c_cons (el_lst ea_nil (by show 0 ≤ 100000; decide) H15 (Ex.refl H15) _ fun N H16 hN0 e16 hN => c_nil ⟨_, _, rfl, ?_⟩))))
  obtain ⟨step, rfl, hst⟩ := mem_int hv
  have hst2 : 1 ≤ step ∧ step ≤ 20000 := by
    simp only [List.mem_cons, List.not_mem_nil, or_false] at hst
    omega
  have hNp : N ≠ p := p15.some hN0
  have hNH : H N = none := (x14.trans x15).fresh p15 hN0
  have hPN : Pn ≠ N := ne_of_none (x15 _ _ hPp hP14) hN0
  dsimp only
  refine q_forR1 (n := many) (ea_cons (ev_var rfl) ea_nil) (by omega)
    (fun i σ' H' => ∃ (ns : List Int) (v8 v9 v10 v11 : Option V), σ' = [some (.ref p), some (.int most), some (.int many), some (.int wide), some (.int high), some (.ref Pn), some (.int step), some (.ref N), v8, v9, v10, v11] ∧ Xp p H H' ∧ Pen p H' ∧ H' Pn = some (.lst [.ref g.ad]) ∧ LpAt H' g ∧ H' N = some (.lst (ns.map V.int)) ∧ ns.length = i ∧ ns.Pairwise (· < ·) ∧ ∀ n ∈ ns, 1 ≤ n ∧ n ≤ (i : Int) * step)
    (fun H1 e1 => ⟨[], _, _, _, _, rfl, ((x14.trans x15).trans (Xp.of e16)).trans (Xp.of e1), (p15.ex e16).ex e1, e1 _ _ (e16 _ _ (x15 _ _ hPp hP14)), (hg14.tm (x15.tm p14)).ex (e16.trans e1), e1 _ _ hN, rfl, List.Pairwise.nil, fun n hn => by simp at hn⟩) ?_ ?_
  · rintro i σ' H' hi ⟨ns, v8, v9, v10, v11, rfl, x', p', hP', hg', hN', hl, hpw, hb⟩
    have hi5 : (i : Int) < 5 := by omega
    refine c_drop (c_bm (er (ev_var rfl) fun H17 e17 => ⟨.inl ⟨rfl, _, sq_of (e17 _ _ hN')⟩, c_cons (c_op (er (ev_op ev_c (ev_op (ev_var rfl) (ev_var rfl) (rv_I (.inl ⟨by omega, by omega⟩))) rv_I0) fun H18 e18 => g_draw (ea_cons (ev_var rfl) (ea_cons (ev_var rfl) ea_nil)) ((p'.ex e17).ex e18) ⟨hst2.1, by omega⟩ fun d H19 d0 d1 x19 p19 => ⟨_, _, rfl, rfl, c_nil ?_⟩))⟩))
    have xx := (Xp.of (e17.trans e18)).trans x19
    have hN19 := xx _ _ hNp hN'
    have hP19 := xx _ _ hPp hP'
    have tm19 : Tm H' H19 := (Tm.of (e17.trans e18)).trans (x19.tm ((p'.ex e17).ex e18))
    refine ⟨N, ns.map V.int, _, rfl, rfl, hN19, by rw [List.length_map, hl]; exact Nat.lt_of_lt_of_le (show i < 5 by omega) (by decide), ?_⟩
    have ec : ((i + 1 : Nat) : Int) * step = (i : Int) * step + step := by
      rw [Int.natCast_add, Int.add_mul]
      show (i : Int) * step + 1 * step = _
      rw [Int.one_mul]
    have hnn : 0 ≤ (i : Int) * step := Int.mul_nonneg (by omega) (by omega)
    refine ⟨ns ++ [1 + (i : Int) * step + d], _, _, _, _, rfl, (x'.trans xx).new hNH, p19.upd hNp, by rw [upd_ne hPN]; exact hP19, hg'.tm (tm19.trans (tm_upd hN19)), by rw [upd_same, List.map_append]; rfl, by rw [List.length_append, hl]; rfl, ?_, fun n hn => ?_⟩
    · rw [List.pairwise_append]
      refine ⟨hpw, List.pairwise_singleton _ _, fun a ha b hb' => ?_⟩
      have h1 := hb a ha
      rw [List.mem_singleton.mp hb']
      show a < _
      omega
    · rw [ec]
      rcases List.mem_append.mp hn with h | h
      · have h1 := hb n h
        omega
      · rw [List.mem_singleton.mp h]
        omega
  · rintro σ' H' ⟨ns, v8, v9, v10, v11, rfl, x', p', hP', hg', hN', hl, hpw, hb⟩
    have hb2 : ∀ n ∈ ns, 1 ≤ n ∧ n ≤ 1000000 := fun n hn => by
      have h1 := hb n hn
      have h2 : ((many.toNat : Nat) : Int) * step ≤ 5 * 20000 := Int.mul_le_mul (by omega) hst2.2 (by omega) (by decide)
      omega
    have hl5 : ns.length ≤ 5 := by omega
    clear hb hl
    refine q_asgL (xs := [.int 0]) (el_lst (ea_cons ev_c ea_nil) (by show 1 ≤ 100000; decide)) fun O H20 hO0 e20 hO => ?_
    have hOp : O ≠ p := p'.some hO0
    have hOH : H O = none := x'.fresh p' hO0
    have hPO : Pn ≠ O := ne_of_none hP' hO0
    have p20 := p'.ex e20
    refine c_seq (c_forI (g_call (vs := [.ref N]) (ea_cons (ev_var rfl) (ea_cons (ev_var rfl) ea_nil)) p20 (fun Ha ea => ⟨N, ns, rfl, ⟨hNp, .inl (ea _ _ (e20 _ _ hN'))⟩, by omega⟩) fun v H21a H21 e21 x21 p21 po => ?_))
    obtain ⟨t, ns', ms, M, e, hN2, rfl, hM0, hM, hpm⟩ := po
    cases e
    have hN21 := e21 _ _ (e20 _ _ hN')
    have ens : ns' = ns := by
      rw [hN21] at hN2
      have : ns.map V.int = ns'.map V.int := by
        rcases hN2 with h | h
        · exact HO.lst.inj (Option.some.inj h)
        · cases h
      exact ((List.map_inj_right fun a b h => V.int.inj h).mp this).symm
    subst ens
    have p21a := p20.ex e21
    have hMp : M ≠ p := p21a.some hM0
    have hPM : Pn ≠ M := ne_of_none (e21 _ _ (e20 _ _ hP')) hM0
    have hOM : O ≠ M := ne_of_none (e21 _ _ hO) hM0
    have hlm : ms.length = ns'.length := hpm.length_eq
    have hms : ∀ n ∈ ms, 1 ≤ n ∧ n ≤ 1000000 := fun n hn => hb2 n (hpm.mem_iff.mp hn)
    have hnd : ms.Nodup := hpm.nodup_iff.mpr (lt_nodup hpw)
    have x20 := x'.trans (Xp.of e20)
    refine ⟨M, rfl, ⟨_, sq_of hM⟩, for_list (fun i σ' H' => ∃ (qs : List LP) (v8 v10 v11 : Option V), σ' = [some (.ref p), some (.int most), some (.int many), some (.int wide), some (.int high), some (.ref Pn), some (.int step), some (.ref N), v8, some (.ref O), v10, v11] ∧ Xp p H H' ∧ Pen p H' ∧ H' M = some (.lst (ms.map V.int)) ∧ H' O = some (.lst ((0 :: ms.take i).map V.int)) ∧ H' Pn = some (.lst ((g :: qs).map fun q => V.ref q.ad)) ∧ LpAt H' g ∧ (∀ q ∈ qs, LpAt H' q ∧ GPane q) ∧ names qs = ms.take i ∧ ∀ j q, qs[j]? = some q → ∃ m, q.up = some m ∧ m ∈ (0 :: ms).take (j + 1) ∧ (("sheet" : Str) ∈ q.marks → m = 0))
      ⟨[], _, _, _, rfl, x20.trans x21, p21, hM, x21 _ _ hOp hO, x21 _ _ hPp (e20 _ _ hP'), (hg'.ex e20).tm (x21.tm p20), fun q hq => by simp at hq, rfl, fun j q hj => by simp at hj⟩ (fun i σ' H' _ h => by
        obtain ⟨_, _, _, _, _, _, _, h, _⟩ := h
        exact sq_of h) ?_ ?_⟩
    · rintro i xv σ' H' hi ⟨qs, v8, v10, v11, rfl, x', p', hM', hO', hP', hg', hqs, hnm, hup⟩
      rw [List.getElem?_map] at hi
      cases hz : ms[i]? with
      | none =>
        rw [hz] at hi
        cases hi
      | some n =>
        rw [hz] at hi
        obtain rfl : V.int n = xv := Option.some.inj hi
        have hi5 : i < ms.length := (List.getElem?_eq_some_iff.mp hz).1
        have hn := hms n (List.mem_of_getElem? hz)
        have htk : ms.take (i + 1) = ms.take i ++ [n] := by
          rw [List.take_add_one, hz]
          rfl
        have hlq : qs.length = i := by
          have h1 := congrArg List.length hnm
          rw [names, List.length_map, List.length_take] at h1
          omega
        have hov : (0 :: ms).take (i + 1) = 0 :: ms.take i := rfl
        have hov1 : ∀ y ∈ (0 :: ms.take i : List Int), 0 ≤ y ∧ y ≤ 1000000 := fun y hy => by
          rcases List.mem_cons.mp hy with e | hy
          · omega
          · have := hms y (List.mem_of_mem_take hy)
            omega
        have hovl : (0 :: ms.take i : List Int).length = i + 1 := by
          rw [List.length_cons, List.length_take]
          omega
        generalize hovE : (0 :: ms.take i : List Int) = ov at hO' hov hov1 hovl
        have hne : ov ≠ [] := fun z => by
          rw [z] at hovl
          cases hovl
        obtain ⟨la, hla, hat⟩ : ∃ la ∈ ov, atI (ov.map V.int) (-1) = some (.int la) := ⟨ov.getLast hne, List.getLast_mem hne, by
          have e := List.dropLast_concat_getLast hne
          generalize ov.getLast hne = z at e ⊢
          rw [← e, List.map_append]
          exact atI_last _ _⟩
        dsimp only [gName]
        refine c_seq (c_asg ?_)
        refine c_call (c_cons (er (ev_var rfl) fun Ha ea' => c_cons (c_lst (c_cons (er ev_c fun Hb eb => c_cons (er (ev_op (ev_var rfl) (ev_neg ev_c) (rv_ixL (sq_of (eb _ _ (ea' _ _ hO'))) hat)) fun Hc ec => c_cons (c_op (er (ev_var rfl) fun Hd ed => g_draw (b := (ov.length : Int)) (ea_cons (ev_var rfl) (ea_cons (ev_is (ev_len (ev_var rfl) (sq_of (ed _ _ (ec _ _ (eb _ _ (ea' _ _ hO')))))) (by rw [List.length_map])) ea_nil)) (p'.ex (((ea'.trans eb).trans ec).trans ed)) ⟨by omega, by omega⟩ fun d He d0 d1 xe pe => ?_))))))))
        have eA := ((ea'.trans eb).trans ec).trans ed
        have xA : Xp p H' He := (Xp.of eA).trans xe
        have tmA : Tm H' He := (Tm.of eA).trans (xe.tm (p'.ex eA))
        obtain ⟨od, hod, hom⟩ := atI_in (xs := ov.map V.int) d0 (by rw [List.length_map]; exact d1)
        obtain ⟨od, rfl, homi⟩ := mem_int hom
        refine rv_ixL (sq_of (xA _ _ hOp hO')) hod He (Ex.refl He) _ fun Hf ef => c_nil ⟨by show 3 ≤ sizeLine; decide, fun l hl => c_nil ?_⟩
        have pf := pe.ex ef
        have hlp : l ≠ p := pf.some hl
        refine sp_pick (xs := [0, la, od].map V.int) rfl (pf.upd hlp) ⟨hlp, .inl upd_same⟩ ⟨by show 1 ≤ 3; decide, by show 3 ≤ 1000; decide⟩ fun v Hg hv xg pg => ?_
        obtain ⟨up, rfl, hupm⟩ := mem_int hv
        have hupo : up ∈ ov := by
          simp only [List.mem_cons, List.not_mem_nil, or_false] at hupm
          rcases hupm with rfl | rfl | rfl
          · rw [← hovE]
            exact List.mem_cons_self
          · exact hla
          · exact homi
        have hupb := hov1 up hupo
        have xB : Xp p H' Hg := ((xA.trans (Xp.of ef)).new ((xA.trans (Xp.of ef)).fresh pf hl)).trans xg
        have tmB : Tm H' Hg := ((tmA.trans (.of ef)).trans (.of (Ex.new hl))).trans (xg.tm (pf.upd hlp))
        dsimp only [gName]
        refine c_seq (c_drop (c_bm (er (ev_var rfl) fun Hh eh => ⟨.inl ⟨rfl, _, sq_of (eh _ _ (xB _ _ hPp hP'))⟩, c_cons (g_call (vs := [.int n, .int up]) (ea_cons (ev_var rfl) (ea_cons (ev_var rfl) (ea_cons (ev_var rfl) ea_nil))) (pg.ex eh) (fun _ _ => ⟨n, up, rfl, by omega, hn.2, hupb.1, hupb.2⟩) fun v H0' Hi _ xi pi po => c_nil ?_)⟩)))
        obtain ⟨q, u, rfl, e, hq, hgq, hqu, hqsh⟩ := po
        injection e with e1 e2
        injection e2 with e2 _
        have hqn : n = q.nm := V.int.inj e1
        have huu : up = u := V.int.inj e2
        have xC : Xp p H' Hi := (xB.trans (Xp.of eh)).trans xi
        have tmC : Tm H' Hi := (tmB.trans (.of eh)).trans (xi.tm (pg.ex eh))
        have hPi := xC _ _ hPp hP'
        have hOi := xC _ _ hOp hO'
        have hMi := xC _ _ hMp hM'
        refine ⟨Pn, (g :: qs).map fun q => V.ref q.ad, _, rfl, rfl, hPi, by rw [List.length_map, List.length_cons, hlq]; exact Nat.lt_of_lt_of_le (show i + 1 < 6 by omega) (by decide), ?_⟩
        dsimp only
        have hOj : (upd Hi Pn (.lst ((g :: qs).map (fun q => V.ref q.ad) ++ [.ref q.ad]))) O = some (.lst (ov.map V.int)) := by
          rw [upd_ne hPO.symm]
          exact hOi
        have hMj : (upd Hi Pn (.lst ((g :: qs).map (fun q => V.ref q.ad) ++ [.ref q.ad]))) M = some (.lst (ms.map V.int)) := by
          rw [upd_ne hPM.symm]
          exact hMi
        have tmD := tmC.trans (tm_upd (o := .lst ((g :: qs).map (fun q => V.ref q.ad) ++ [.ref q.ad])) hPi)
        have tmDq : Tm Hi (upd Hi Pn (.lst ((g :: qs).map (fun q => V.ref q.ad) ++ [.ref q.ad]))) := tm_upd hPi
        have xD := (x'.trans xC).new (o := .lst ((g :: qs).map (fun q => V.ref q.ad) ++ [.ref q.ad])) hPH
        have pD := pi.upd (o := .lst ((g :: qs).map (fun q => V.ref q.ad) ++ [.ref q.ad])) hPp
        have hPj : (upd Hi Pn (.lst ((g :: qs).map (fun q => V.ref q.ad) ++ [.ref q.ad]))) Pn = some (.lst ((g :: (qs ++ [q])).map fun q => V.ref q.ad)) := by
          rw [upd_same]
          show _ = some (HO.lst (((g :: qs) ++ [q]).map fun q => V.ref q.ad))
          rw [List.map_append]
          rfl
        generalize upd Hi Pn (.lst ((g :: qs).map (fun q => V.ref q.ad) ++ [.ref q.ad])) = Hj at hOj hMj tmD tmDq xD pD hPj ⊢
        refine s_app hOj (ev_var rfl) (ev_var rfl) (by rw [List.length_map, hovl]; omega) fun Hk ek => ?_
        have hOk := ek _ _ hOj
        have tmE : Tm Hj (upd Hk O (.lst (ov.map V.int ++ [.int n]))) := (Tm.of ek).trans (tm_upd hOk)
        refine ⟨qs ++ [q], _, _, _, rfl, (xD.trans (Xp.of ek)).new hOH, (pD.ex ek).upd hOp, by rw [upd_ne hOM.symm]; exact ek _ _ hMj, ?_, by rw [upd_ne hPO]; exact ek _ _ hPj, hg'.tm (tmD.trans tmE), fun z hz => ?_, ?_, fun j z hj => ?_⟩
        · rw [upd_same, htk]
          show _ = some (HO.lst (((0 :: ms.take i) ++ [n]).map V.int))
          rw [hovE, List.map_append]
          rfl
        · rcases List.mem_append.mp hz with hz | hz
          · exact ⟨(hqs z hz).1.tm (tmD.trans tmE), (hqs z hz).2⟩
          · rw [List.mem_singleton.mp hz]
            exact ⟨hq.tm (tmDq.trans tmE), hgq⟩
        · rw [htk, ← hnm, hqn]
          unfold names
          rw [List.map_append]
          rfl
        · by_cases hjl : j < qs.length
          · rw [List.getElem?_append_left hjl] at hj
            exact hup j z hj
          · rw [List.getElem?_append_right (by omega)] at hj
            have hj0 : j - qs.length = 0 := by
              have := (List.getElem?_eq_some_iff.mp hj).1
              rw [List.length_singleton] at this
              omega
            rw [hj0] at hj
            obtain rfl : q = z := Option.some.inj hj
            have : j = i := by omega
            subst this
            exact ⟨u, hqu, by rw [hov, ← huu]; exact hupo, hqsh⟩
    · rintro σ' H' ⟨qs, v8, v10, v11, rfl, x', p', -, -, hP', hg', hqs, hnm, hup⟩
      rw [List.length_map, List.take_length] at hnm
      have hlq : qs.length ≤ 5 := by
        have h1 := congrArg List.length hnm
        rw [names, List.length_map] at h1
        omega
      have hndL : (names (g :: qs)).Nodup := by
        show (g.nm :: names qs).Nodup
        rw [hnm, hg0.1]
        exact List.nodup_cons.mpr ⟨fun h => by have := hms 0 h; omega, hnd⟩
      have hallAt : ∀ q ∈ g :: qs, LpAt H' q := fun q hq => by
        rcases List.mem_cons.mp hq with rfl | hq
        · exact hg'
        · exact (hqs q hq).1
      have hkb := lpBack_of hallAt hndL
      refine c_ret (c_cb (c_cons (c_cb (c_cons (er (ev_var rfl) fun H1 e1 => c_nil ⟨Pn, (g :: qs).map fun q => V.ref q.ad, fun v => (lpBack (g :: qs) v).nm, rfl, sq_of (e1 _ _ hP'), fun x hx => ?_, fun x hx y hy e => ?_, fun ys pS perm srt hS => c_nil ⟨pS, ys, rfl, .inl ⟨sq_of upd_same, fun pT hT => ?_⟩⟩⟩)))))
      · obtain ⟨q, hq, rfl⟩ := List.mem_map.mp hx
        refine ⟨q.ad, [upV q.up, .ref q.ba, .int q.turn, .ref q.ma, .ref q.ka], rfl, ?_⟩
        show H1 q.ad = some (.tup [V.int (lpBack (g :: qs) (.ref q.ad)).nm, upV q.up, .ref q.ba, .int q.turn, .ref q.ma, .ref q.ka])
        rw [hkb q hq]
        exact ((hallAt q hq).ex e1).a
      · obtain ⟨q, hq, rfl⟩ := List.mem_map.mp hx
        obtain ⟨q', hq', rfl⟩ := List.mem_map.mp hy
        have e1 : (lpBack (g :: qs) (.ref q.ad)).nm = (lpBack (g :: qs) (.ref q'.ad)).nm := e
        rw [hkb q hq, hkb q' hq'] at e1
        rw [map_inj hndL hq hq' e1]
      · obtain ⟨sp, sm⟩ := sort_back hkb perm
        generalize hlS : ys.map (lpBack (g :: qs)) = lS at sp sm
        have eT : Ex H' (upd (upd H1 pS (.lst ys)) pT (.tup ys)) := (e1.trans (Ex.new hS)).trans (Ex.new hT)
        have srt2 : lS.Pairwise fun a b => ltI b.nm a.nm = false := by
          rw [← hlS]
          exact List.pairwise_map.mpr srt
        refine k _ _ (x'.trans (Xp.of eT)) (p'.ex eT) ⟨pT, lS, rfl, ⟨by rw [upd_same, ← sm], fun q hq => (hallAt q (sp.mem_iff.mp hq)).ex eT⟩, plan_good hgg hg0 hgs (fun q hq => (hqs q hq).2) hnm (fun n hn => (hms n hn).1) hnd (by omega) hup sp srt2⟩
end
end Kp
set_option Elab.async false
set_option linter.all false
set_option maxRecDepth 100000
set_option maxHeartbeats 4000000
/-! zip of a tuple and a list (PySem.Draws tells both; the call and the turn are told here) -/
namespace Kp
open PySem PySem.Spec PyProof.Rows L2 Evl
open PySem.Sem (wp)
/-- the heap once zip(a, b) is made: five new places -/
abbrev zn1 (h : Heap) (a : Addr) : Heap := h.push { cls := .type "tuple_iterator", data := .fields #[.ref a, .int 0 0] }
abbrev zn2 (h : Heap) (a b : Addr) : Heap := (zn1 h a).push { cls := .type "list_iterator", data := .fields #[.ref b, .int 0 0] }
abbrev zn3 (h : Heap) (a b : Addr) : Heap := (zn2 h a b).push { cls := .type "tuple", data := .seq #[.ref h.objs.size, .ref (zn1 h a).objs.size] }
abbrev zn4 (h : Heap) (a b : Addr) : Heap := (zn3 h a b).push { cls := .type "tuple", data := .seq #[.none, .none] }
abbrev zn5 (h : Heap) (a b : Addr) : Heap := (zn4 h a b).push { cls := .type "zip", data := .fields #[.none, .bool false, .bool false, .ref (zn2 h a b).objs.size, .ref (zn3 h a b).objs.size] }
theorem zn_meets (a b : Addr) (xs ys : Array Value) :
    Meets (Builtin.«zip.__new__» ⟨[.type "zip", .ref a, .ref b], []⟩) (fun _ R s => s.heap.IsTuple a xs ∧ s.heap.IsList b ys ∧ R (.ok (.ret (.ref (zn4 s.heap a b).objs.size))) { s with heap := zn5 s.heap a b }) :=
  .of_wp fun prog w A R s h => by
    obtain ⟨hp, g, d, tk, os⟩ := s
    obtain ⟨ha, hb, h⟩ := h
    have hsub := sub_zip
    have h1 : Heap.IsTuple (Shared.heap ⟨hp, g, d, tk, os⟩) a xs := ha
    have h2 : Heap.IsList (Shared.heap ⟨zn1 hp a, g, d, tk, os⟩) b ys := Heap.IsList.push hb _
    wp_walk using wpAny_pyIter_tuple h1, wpAny_pyIter_list h2
    exact ⟨_, rfl, h⟩
section
variable {prog : Program} {w : World} {A : Around} {E : Value → Shared → Prop} {s : Shared}
theorem zn_call {a b : Addr} {xs ys : Array Value} {Q : Value → Shared → Prop} (ha : s.heap.IsTuple a xs) (hb : s.heap.IsList b ys)
    (h : ∀ h', IsZip h' (s.heap.objs.size + 4) (s.heap.objs.size + 2) (s.heap.objs.size + 3) .none → IsPair h' (s.heap.objs.size + 2) (.ref s.heap.objs.size) (.ref (s.heap.objs.size + 1)) →
      IsPair h' (s.heap.objs.size + 3) .none .none → h'.IsTupleIter s.heap.objs.size a 0 → h'.IsListIter (s.heap.objs.size + 1) b 0 →
      (∀ c o, s.heap.get? c = some o → h'.get? c = some o) → Q (.ref (s.heap.objs.size + 4)) { s with heap := h' }) : wpAny (model prog w) A (call (.type "zip") [.ref a, .ref b]) Q E s := by
  refine callType_new F.called_zip (by decide) (F.typeCall_zip_2 _ _) (F.newCall_zip_2 _ _) (fun obj => F.args_object_init_3 obj _ _) F.entry_zip_new (zn_meets a b xs ys) ⟨ha, hb, ?_⟩
  have z1 : (zn1 s.heap a).objs.size = s.heap.objs.size + 1 := Heap.size_push ..
  have z2 : (zn2 s.heap a b).objs.size = s.heap.objs.size + 2 := by rw [Heap.size_push, z1]
  have z3 : (zn3 s.heap a b).objs.size = s.heap.objs.size + 3 := by rw [Heap.size_push, z2]
  have z4 : (zn4 s.heap a b).objs.size = s.heap.objs.size + 4 := by rw [Heap.size_push, z3]
  have up1 : ∀ c o, (zn4 s.heap a b).get? c = some o → (zn5 s.heap a b).get? c = some o := fun c o x => Heap.get?_push_of_some _ x
  have up2 : ∀ c o, (zn3 s.heap a b).get? c = some o → (zn5 s.heap a b).get? c = some o := fun c o x => up1 c o (Heap.get?_push_of_some _ x)
  have up3 : ∀ c o, (zn2 s.heap a b).get? c = some o → (zn5 s.heap a b).get? c = some o := fun c o x => up2 c o (Heap.get?_push_of_some _ x)
  have up4 : ∀ c o, (zn1 s.heap a).get? c = some o → (zn5 s.heap a b).get? c = some o := fun c o x => up3 c o (Heap.get?_push_of_some _ x)
  have g5 : (zn5 s.heap a b).get? (zn4 s.heap a b).objs.size = some _ := Heap.get?_push_size _ rfl
  have g4 : (zn5 s.heap a b).get? (zn3 s.heap a b).objs.size = some _ := up1 _ _ (Heap.get?_push_size _ rfl)
  have g3 : (zn5 s.heap a b).get? (zn2 s.heap a b).objs.size = some _ := up2 _ _ (Heap.get?_push_size _ rfl)
  have g2 : (zn5 s.heap a b).get? (zn1 s.heap a).objs.size = some _ := up3 _ _ (Heap.get?_push_size _ rfl)
  have g1 : (zn5 s.heap a b).get? s.heap.objs.size = some _ := up4 _ _ (Heap.get?_push_size _ rfl)
  show _ ∧ _
  rw [z2, z3, z4] at g5
  rw [z1, z2] at g3
  rw [z3] at g4
  rw [z1] at g2
  rw [z4]
  exact ⟨⟨_, g5, rfl⟩, h _ g5 g3 g4 ⟨_, g1, rfl, rfl⟩ ⟨_, g2, rfl, rfl⟩ fun c o x => up4 c o (Heap.get?_push_of_some _ x)⟩
end
def ItzTL (K : PySem.W.Frag) (a b : Addr) : It :=
  ⟨fun i H => ∃ (xs ys : List V) (x y : V), SqT K H a xs ∧ SqL K H b ys ∧ xs[i]? = some x ∧ ys[i]? = some y,
    fun i H v H' => ∃ T x y, v = .ref T ∧ H T = none ∧ H' = upd H T (.tup [x, y]) ∧ (∀ xs, SqT K H a xs → xs[i]? = some x) ∧ ∀ ys, SqL K H b ys → ys[i]? = some y,
    fun i H => ∃ xs ys : List V, SqT K H a xs ∧ SqL K H b ys ∧ ((i ≤ xs.length ∧ i ≤ ys.length) ∧ (xs.length = i ∨ ys.length = i))⟩
theorem sep_of {z TI TO i1 i2 a b : Addr} (D : ZipApart z TI TO i1 i2 a b) : ZipSep2 z TI TO i1 i2 [i1, a] [i2, b] := by
  refine ⟨D.TIz, D.TOz, D.TITO, D.TIi1, by simp, ?_, ?_, D.TIi2, by simp, ?_, ?_, ?_, ?_⟩
  · simp [D.i1z.symm, D.l1z.symm]
  · simp [D.TOi1, D.l1TO.symm]
  · simp [D.i2z.symm, D.l2z.symm]
  · simp [D.TOi2, D.l2TO.symm]
  · simp [D.i12, D.l2i1.symm]
  · simp [D.i12.symm, D.l1i2.symm]
theorem turn_zipTL {P : Program} {w : World} {K : PySem.W.Frag} {elts : List Expr} {kk : Nat} {tpos : Pos} {a b z TI TO i1 i2 : Addr} (D : ZipApart z TI TO i1 i2 a b) :
    Turn P w K (.Tuple elts kk tpos) (ItzTL K a b) [z, TI, TO, i1, i2] z (fun i h => IsZip h z TI TO .none ∧ IsPair h TI (.ref i1) (.ref i2) ∧ (∃ x y, IsPair h TO x y) ∧ h.IsTupleIter i1 a i ∧ h.IsListIter i2 b i) where
  mem := by simp
  obj := fun i h st c hc => by
    obtain ⟨hz, hTI, ⟨x, y, hTO⟩, ⟨o1, e1, _, d1⟩, ⟨o2, e2, _, d2⟩⟩ := st
    have e' : c = z ∨ c = TI ∨ c = TO ∨ c = i1 ∨ c = i2 := by simpa using hc
    rcases e' with rfl | rfl | rfl | rfl | rfl
    · exact ⟨_, hz, fun v q => nomatch q⟩
    · exact ⟨_, hTI, fun v q => nomatch q⟩
    · exact ⟨_, hTO, fun v q => nomatch q⟩
    · exact ⟨o1, e1, fun v q => by rw [d1] at q; cases q⟩
    · exact ⟨o2, e2, fun v q => by rw [d2] at q; cases q⟩
  keep := fun i h h' st k => by
    obtain ⟨hz, hTI, ⟨x, y, hTO⟩, h1, h2⟩ := st
    exact ⟨k z (by simp) _ hz, k TI (by simp) _ hTI, ⟨x, y, k TO (by simp) _ hTO⟩, h1.at fun o q => k i1 (by simp) o q, h2.at fun o q => k i2 (by simp) o q⟩
  item := by
    intro X hP hw hK hc i pins s σ H E I hf st hg
    subst hP hw hK
    obtain ⟨hz, hTI, ⟨x0, y0, hTO⟩, h1, h2⟩ := st
    obtain ⟨xs, ys, x, y, hqx, hqy, hx, hy⟩ := hg
    obtain ⟨its, rv, p, _⟩ := I.tuple hqx
    obtain ⟨its2, rv2, p2, _⟩ := I.list hqy
    obtain ⟨u, hu, ru⟩ := rv.get hx
    obtain ⟨u2, hu2, ru2⟩ := rv2.get hy
    have hzl : z < s.heap.objs.size := Heap.lt_size hz
    have hl1 : i < its.toArray.size := by
      have := (List.getElem?_eq_some_iff.mp hu).1
      simpa using this
    have hl2 : i < its2.toArray.size := by
      have := (List.getElem?_eq_some_iff.mp hu2).1
      simpa using this
    have hh1 : X.A.in1.handled = none := I.ok.hd hc
    refine wpAny_pyNext_zipD2_item (sep_of D) (Draws.tuple hh1 i1 a D.l1i1 its.toArray) (Draws.list hh1 i2 b D.l2i2 its2.toArray) hz hTI hTO ⟨h1, p⟩ ⟨h2, p2.isList⟩ hl1 hl2 fun x1 x2 h' tk y1 y2 z' TO' h1' h2' hT hsz hk => ?_
    have q1 : u = x1 := by
      have : its.toArray[i]? = some u := by simpa using hu
      rw [this] at y1
      exact Option.some.inj y1
    have q2 : u2 = x2 := by
      have : its2.toArray[i]? = some u2 := by simpa using hu2
      rw [this] at y2
      exact Option.some.inj y2
    subst q1 q2
    refine ⟨_, rfl, wpAny_letOwnedTupleGo_zip (s := { s with heap := h', toks := tk }) z' fun h'' z'' sb => ?_⟩
    have hT2 : h''.get? s.heap.objs.size = some { cls := .type "tuple", data := .seq #[u, u2] } := (sb.2 _ (Nat.ne_of_gt hzl)).trans hT
    have new : ObjOk X.prog X.w (upd H s.heap.objs.size (.tup [x, y])) h'' s.heap.objs.size (.tup [x, y]) := ⟨by show 2 ≤ sizeLine; decide, [u, u2], .cons ru (.cons ru2 .nil), ⟨_, hT2, rfl, _, rfl⟩⟩
    have I1 : Inv X pins σ (upd H s.heap.objs.size (.tup [x, y])) { s with heap := h'', toks := tk } :=
      I.turnedNew (t' := tk) (ch := [z, TI, TO, i1, i2]) (fun c o hb q => (sb.2 c (fun q' => hb (by simp [q']))).trans (hk c o (fun q' => hb (by simp [q'])) (fun q' => hb (by simp [q'])) (fun q' => hb (by simp [q'])) (fun q' => hb (by simp [q'])) q)) hf (Nat.le_refl _) new
    refine ⟨.ref s.heap.objs.size, _, I1, rfl, ⟨_, x, y, rfl, I.hok.fresh (Nat.le_refl _), rfl, fun l hl => by rw [I.tuple_inj hl hqx]; exact hx, fun l hl => by rw [I.list_inj hl hqy]; exact hy⟩, ⟨z'', ?_, ⟨u, u2, ?_⟩, ?_, ?_⟩, fun c hcm => ?_⟩
    · exact (sb.2 _ D.TIz).trans (hk _ _ D.TIz D.TITO D.TIi1 D.TIi2 hTI)
    · exact (sb.2 _ D.TOz).trans TO'
    · exact h1'.1.at fun o q => (sb.2 _ D.i1z).trans q
    · exact h2'.1.at fun o q => (sb.2 _ D.i2z).trans q
    · have hlt : c < s.heap.objs.size := by
        have e' : c = z ∨ c = TI ∨ c = TO ∨ c = i1 ∨ c = i2 := by simpa using hcm
        obtain ⟨_, e1, _⟩ := h1
        obtain ⟨_, e2, _⟩ := h2
        rcases e' with q | q | q | q | q
        · rw [q]; exact hzl
        · rw [q]; exact Heap.lt_size hTI
        · rw [q]; exact Heap.lt_size hTO
        · rw [q]; exact Heap.lt_size e1
        · rw [q]; exact Heap.lt_size e2
      rw [upd_ne (Nat.ne_of_lt hlt)]
      exact (hf c hcm).1
  done := by
    intro X hP hw hK hc i pins s σ H E I hf st hg
    subst hP hw hK
    obtain ⟨hz, hTI, ⟨x0, y0, hTO⟩, h1, h2⟩ := st
    obtain ⟨xs, ys, hqx, hqy, ⟨hle1, hle2⟩, hend⟩ := hg
    obtain ⟨its, rv, p, _⟩ := I.tuple hqx
    obtain ⟨its2, rv2, p2, _⟩ := I.list hqy
    have l1 := rv.length
    have l2 := rv2.length
    have s1 : its.toArray.size = its.length := by simp
    have s2 : its2.toArray.size = its2.length := by simp
    have hh1 : X.A.in1.handled = none := I.ok.hd hc
    exact wpAny_pyNext_zipD2_end (sep_of D) (Draws.tuple hh1 i1 a D.l1i1 its.toArray) (Draws.list hh1 i2 b D.l2i2 its2.toArray) hz hTI hTO ⟨h1, p⟩ ⟨h2, p2.isList⟩ (by omega) (by omega) (by omega) fun h' tk hk => ⟨rfl, I.turnedL (t' := tk) (ch := [z, TI, TO, i1, i2]) (fun c o hb q =>
      hk c o (fun q' => hb (by simp [q'])) (fun q' => hb (by simp [q'])) (fun q' => hb (by simp [q'])) (fun q' => hb (by simp [q'])) q) hf⟩
  self := fun A i s Q E st h => wpAny_pyIter_zip st.1 h
def iZipTL (K : PySem.W.Frag) (ta : TA) : TI := fun σ H R => ta σ H fun vs H1 => ∃ a b xs ys, vs = [.ref a, .ref b] ∧ SqT K H1 a xs ∧ SqL K H1 b ys ∧ R (ItzTL K a b) H1
theorem pi_zipTL {X : Cx} {e e2 : Expr} {ta : TA} {p pos tpos : Pos} {elts : List Expr} {kk : Nat} (hg : Gl X "zip") (hm : X.mg "zip" = none) (ha : PA X [e, e2] ta)
    (hs : starEach [e, e2] X.env = (false, eval e X.env) :: starEach [e2] X.env := by rfl) (hpl : (backTo pos (starEach [e2] X.env)).any (·.1) = false := by rfl) :
    PI X (.Tuple elts kk tpos) (.Call (.Name "zip" p) [e, e2] [] pos) (iZipTL X.K ta) := by
  refine ⟨fun pins s σ H R I h => ?_⟩
  refine Call_ (ld_blt I hg hm PyProof.Rows.boot_zip (PyProof.Rows.callWith_type1 (thn (ha.run pos pins s σ H _ I h) fun us s1 ⟨vs, H1, I1, r1, q1⟩ => ?_) hs hpl))
  obtain ⟨a, b, xs, ys, ex, hqx, hqy, q⟩ := q1
  subst ex
  cases r1 with
  | cons r rr =>
    cases rr with
    | cons r' rr =>
      cases rr
      cases r
      cases r'
      obtain ⟨its, rv, p1, _⟩ := I1.tuple hqx
      obtain ⟨its2, rv2, p2, _⟩ := I1.list hqy
      obtain ⟨o1, ho1, _⟩ := id p1
      refine zn_call (show s1.heap.IsTuple a its.toArray from p1) p2.isList fun h' hz hTI hTO h1 h2 hk => wpAny_pyIter_zip hz ?_
      have I2 : Inv X pins σ H1 { s1 with heap := h' } := I1.kept (t' := s1.toks) hk
      refine ⟨s1.heap.objs.size + 4, [s1.heap.objs.size + 4, s1.heap.objs.size + 2, s1.heap.objs.size + 3, s1.heap.objs.size, s1.heap.objs.size + 1], _, _, H1, rfl, I2, turn_zipTL (PySem.W.ktu_apart s1.heap.objs.size a b (Heap.lt_size ho1) p2.lt), ⟨hz, hTI, ⟨_, _, hTO⟩, h1, h2⟩, fun c hcm => ?_, q⟩
      have hle : s1.heap.objs.size ≤ c := by
        have e' : c = s1.heap.objs.size + 4 ∨ c = s1.heap.objs.size + 2 ∨ c = s1.heap.objs.size + 3 ∨ c = s1.heap.objs.size ∨ c = s1.heap.objs.size + 1 := by simpa using hcm
        rcases e' with z | z | z | z | z <;> rw [z]
        · exact Nat.le_add_right _ _
        · exact Nat.le_add_right _ _
        · exact Nat.le_add_right _ _
        · exact Nat.le_refl _
        · exact Nat.le_add_right _ _
      exact I1.fpOk hle (I1.hok.fresh hle)
theorem walk_zipTL {K : PySem.W.Frag} {a b : Addr} {xs ys : List V} (hl : xs.length = ys.length) : Walk (ItzTL K a b) xs.length (fun H => SqT K H a xs ∧ SqL K H b ys) (YPair (fun i => xs[i]?) (fun i => ys[i]?)) := by
  refine ⟨fun i _ hi q => ?_, fun _ q => ⟨xs, ys, q.1, q.2, by omega⟩, fun i H v H' _ q y => ?_⟩
  · have h2 : i < ys.length := by omega
    exact ⟨xs, ys, xs[i], ys[i], q.1, q.2, by simp [hi], by simp [h2]⟩
  · obtain ⟨T, x, z, h1, h2, h3, h4, h5⟩ := y
    exact ⟨T, x, z, h1, h2, h3, h4 xs q.1, h5 ys q.2⟩
end Kp
set_option Elab.async false
set_option linter.all false
set_option maxRecDepth 100000
set_option maxHeartbeats 4000000
/-! the plain law: what the areas are together -/
namespace Kp
open PySem PySem.Spec PyProof.Rows L2 Evl
section
variable {rk : Int → Nat} {L : List LP}
theorem GoodR.size (h : GoodR rk L) : (1 ≤ (byN L 0).w ∧ (byN L 0).w ≤ 1000000) ∧ 1 ≤ (byN L 0).h ∧ (byN L 0).h ≤ 1000000 := by
  have hm := (byN_mem h.zero.1).1
  obtain ⟨g, r, rfl, hP⟩ := h
  have := hP.each _ hm
  exact ⟨this.w, this.h⟩
theorem areaN_nn (h : GoodR rk L) (n : Int) : 0 ≤ areaN L n := areaF_nonneg (brd_is L false (mostOf L false)) (brd_is L true (mostOf L true)) n
theorem areaN_sum (h : GoodR rk L) : ((names L).map (areaN L)).sum = (byN L 0).w * (byN L 0).h := areas_sum h (brd_is L false (mostOf L false)) (brd_is L true (mostOf L true)) (GoodR.size h).1.1 (GoodR.size h).2.1
theorem areaN_le (h : GoodR rk L) {n : Int} (hn : n ∈ names L) : areaN L n ≤ 1000000000000 := by
  have h1 := le_sum (l := (names L).map (areaN L)) (fun z hz => by
    obtain ⟨m, _, rfl⟩ := List.mem_map.mp hz
    exact areaN_nn h m) _ (List.mem_map.mpr ⟨n, hn, rfl⟩)
  rw [areaN_sum h] at h1
  obtain ⟨⟨w0, w1⟩, h0, h2⟩ := GoodR.size h
  have : (byN L 0).w * (byN L 0).h ≤ 1000000 * 1000000 := Int.mul_le_mul w1 h2 (by omega) (by decide)
  omega
theorem areaN_at (h : GoodR rk L) {x y : Int} (hx : 0 ≤ x ∧ x < (byN L 0).w) (hy : 0 ≤ y ∧ y < (byN L 0).h) : ∃ n, found L x y = some n ∧ n ∈ names L ∧ 1 ≤ areaN L n :=
  area_at h (brd_is L false (mostOf L false)) (brd_is L true (mostOf L true)) (GoodR.size h).1.1 (GoodR.size h).2.1 hx hy
theorem insSum_eq (n : Int) : (((names L).filter fun o => decide (n ∈ line L o)).map (areaN L)).sum = insSum L n := by
  unfold insSum names
  rw [List.filter_map, List.map_map]
  rfl
theorem insSum_hid (h : GoodR rk L) {n u : Int} (hu : u ∈ line L n) (hh : HID ∈ (byN L u).marks) : insSum L n = 0 := by
  rw [← insSum_eq]
  have : ∀ o ∈ (names L).filter fun o => decide (n ∈ line L o), areaN L o = 0 := fun o ho => by
    obtain ⟨h1, h2⟩ := List.mem_filter.mp ho
    exact area_hid h (line_sub h o h1 n (of_decide_eq_true h2) u hu) hh
  generalize ((names L).filter fun o => decide (n ∈ line L o)) = l at this
  induction l with
  | nil => rfl
  | cons a l ih =>
    rw [List.map_cons, List.sum_cons, this a List.mem_cons_self, ih fun o ho => this o (List.mem_cons_of_mem _ ho)]
    rfl
end
/-- the ground of another size -/
theorem GPlan.grow {rk : Int → Nat} {g : LP} {r : List LP} (h : GPlan rk g r) {ad ba : Addr} {W Hh : Int} (hw : 1 ≤ W ∧ W ≤ 1000000) (hh : 1 ≤ Hh ∧ Hh ≤ 1000000) : GPlan rk { g with ad := ad, ba := ba, w := W, h := Hh } r where
  len := h.len
  each := fun q hq => by
    rcases List.mem_cons.mp hq with rfl | hq
    · have q := h.each g List.mem_cons_self
      exact ⟨q.nm, q.up, q.l, q.t, hw, hh, q.turn, q.marks, q.keys⟩
    · exact h.each q (List.mem_cons_of_mem _ hq)
  rise := h.rise
  g0 := h.g0
  gk := h.gk
  up := h.up
  rk := h.rk
theorem cut_ints (ns : List Int) (lo hi : Option Int) : ∃ cs : List Int, cutV (ns.map V.int) lo hi = cs.map V.int ∧ cs.length ≤ ns.length := by
  refine ⟨(ns.drop (HT.sIx (ns.map V.int).length 0 lo)).take (HT.sIx (ns.map V.int).length (ns.map V.int).length hi - HT.sIx (ns.map V.int).length 0 lo), ?_, ?_⟩
  · unfold cutV
    rw [List.map_take, List.map_drop]
  · rw [List.length_take, List.length_drop]
    omega
section
variable {K : PySem.W.Frag} {σ : L2.St} {H : Hp} {te ta tb td : TE} {D : Ends} {Q : VK} {v : V}
theorem el_cat {xs ys : List V} (ha : EvL ta σ H xs) (hb : EvL tb σ H ys) (hz : xs.length + ys.length ≤ 100000) : EvL (tOp rCat ta tb) σ H (xs ++ ys) := fun H1 e Q q =>
  ha H1 e _ fun l H2 _ e2 h2 => hb H2 (e.trans e2) _ fun b H3 _ e3 h3 => ⟨l, b, xs, ys, rfl, rfl, e3 _ _ h2, h3, Nat.le_trans hz (by decide), fun p hp => q p _ (fresh_back (e2.trans e3) hp) ((e2.trans e3).trans (Ex.new hp)) upd_same⟩
theorem c_catT {x y : Addr} {xs ys : List V} (hx : H x = some (.tup xs)) (hy : H y = some (.tup ys)) (hne : xs ≠ []) (hz : xs.length + ys.length ≤ 100000) (k : ∀ p H1, Ex H H1 → H1 p = some (.tup (xs ++ ys)) → Q (.ref p) H1) : rCatT K (.ref x) (.ref y) H Q :=
  ⟨x, y, xs, ys, rfl, rfl, st_of hx, st_of hy, hne, Nat.le_trans hz (by decide), fun e => k x H (Ex.refl H) (by rw [e, List.append_nil]; exact hx), fun _ p hp => k p _ (Ex.new hp) upd_same⟩
theorem ev_sumL {p : Addr} {ns : List Int} (ha : Ev ta σ H (.ref p)) (h : H p = some (.lst (ns.map V.int))) : Ev (tCB (rSum K) (tCons ta tNil)) σ H (.int ns.sum) := fun H1 e Q q =>
  ha H1 e _ fun H2 e2 => ⟨p, ns, rfl, ex_l (e.trans e2) (sq_of h), q H2 e2⟩
theorem rc_reprB {b : Bool} : RC (fun xs H Q => ∃ b : Bool, xs = [.bl b] ∧ Q (.str (if b then "True" else "False")) H) [.bl b] H (.str (if b then "True" else "False")) := fun H1 _ _ q => ⟨b, rfl, q H1 (Ex.refl H1)⟩
/-- [(k, v) for q, x in zip(plan, told)] -/
theorem ep_zip {L : List LP} {f : LP → V} {a b : Addr} {i j : Nat} {vs : List Nat} {ta : TA} (ha : EvA ta σ H [.ref a, .ref b]) (hA : H a = some (.tup (L.map fun q => V.ref q.ad))) (hB : H b = some (.lst (L.map f))) (hL : L.length ≤ 40000)
    (hq : ∀ q ∈ L, LpAt H q) (hw : ∀ x y, wipe (((wipe σ vs).set i (some x)).set j (some y)) vs = wipe σ vs) (hi : ∀ x y, (((wipe σ vs).set i (some x)).set j (some y))[i]? = some (some x)) (hj : ∀ x y, (((wipe σ vs).set i (some x)).set j (some y))[j]? = some (some y)) :
    EvP (tLc (iZipTL K ta) (gTup K 2 (gCons (gName i) (gCons (gName j) gNil))) tYes (tTup (tCons (tOp (rIxT K) (tVar i) (tC (.int 0))) (tCons (tVar j) tNil))) vs) σ H (L.map fun q => (V.int q.nm, f q)) := fun H0 e Q q => ha H0 e _ fun H1 e1 =>
  ⟨a, b, _, _, rfl, st_of (e1 _ _ (e _ _ hA)), sq_of (e1 _ _ (e _ _ hB)), fun Dl hD =>
  lc_it (walk_zipTL (xs := L.map fun q => V.ref q.ad) (ys := L.map f) (by rw [List.length_map, List.length_map])) (Kv H1 (fun q : LP => (V.int q.nm, f q)) L Dl) ⟨hD, Ex.new hD, [], upd_same, .nil⟩
    (fun i H' _ p => ⟨st_of (p.2.1 _ _ (e1 _ _ (e _ _ hA))), sq_of (p.2.1 _ _ (e1 _ _ (e _ _ hB)))⟩) (fun n x H2 H3 hn p y => by
      obtain ⟨T, x1, y1, rfl, hT, rfl, hx, hy⟩ := y
      dsimp only at hx hy
      rw [List.getElem?_map] at hx hy
      cases hz : L[n]? with
      | none =>
        rw [hz] at hx
        cases hx
      | some z =>
        rw [hz] at hx hy
        obtain rfl : V.ref z.ad = x1 := Option.some.inj hx
        obtain rfl : f z = y1 := Option.some.inj hy
        have hm := List.mem_of_getElem? hz
        refine ⟨T, _, rfl, st_of upd_same, rfl, _, _, rfl, _, _, rfl, rfl, hw _ _, ?_⟩
        have eT : Ex H2 (upd H2 T (.tup [.ref z.ad, f z])) := Ex.new hT
        obtain ⟨p1, p2, ps, p3, p4⟩ := p
        exact kv_turn ⟨p1, p2.trans eT, ps, eT _ _ p3, p4.tm (.of eT)⟩ hz hL (eu_tup (ea_cons (ev_at (ev_var (hi _ _)) ((hq z hm).ex (e.trans e1)).a (atI_nat (j := 0) rfl)) (ea_cons (ev_var (hj _ _)) ea_nil)) (by show 2 ≤ 100000; decide)))
    (fun H' ⟨p1, p2, ps, p3, p4⟩ => q Dl ps H' (fresh_back e1 p1) (e1.trans p2) p3 (by
      rw [List.length_map, List.take_length] at p4
      exact p4))⟩
end
end Kp
set_option Elab.async false
set_option linter.all false
set_option maxRecDepth 100000
set_option maxHeartbeats 4000000
/-! the law -/
namespace Kp
open PySem PySem.Spec PyProof.Rows L2 Evl
section
variable {K : PySem.W.Frag} {σ : L2.St} {H : Hp} {td tb : TE} {Q : VK}
theorem c_dget (h : td σ H fun x H1 => tb σ H1 fun y H2 => ∃ a v, x = .ref a ∧ DGet H2 a y (some v) ∧ Q v H2) : tDGet td tb σ H Q := h
theorem dget_of {a : Addr} {n : Int} {kvs : List (Key × V)} {v : V} (h : H a = some (.dK kvs)) (hv : valV kvs (Sum.inl n) = some v) : DGet H a (.int n) (some v) := by
  rw [← hv]
  exact DGet.k (k := Sum.inl n) h
end
section
variable {P : Program} {w : World} {K : PySem.W.Frag} {mg : Str → Option Value} {base : Heap}
def spLaw (K : PySem.W.Frag) : Sp := fun vs H Q _ => ∃ (a : Addr) (ns : List Int), vs = [.ref a] ∧ SqL K H a (ns.map V.int) ∧ ns.length ≤ 1000 ∧ ∀ H', Q (.bl true) H'
theorem sc_law : FnScope ["_law_script", "_law_cell_here", "_law_pen_here", "_law_far", "_law_plan_here", "_law_wide", "_law_high", "_law_told", "_law_many", "_law_name", "_law_inner", "_law_hidden", "_law_turn", "_law_pane_here", "_law_one", "_law_up"] ["_law_script"] (defScope s_law) := ⟨rfl, rfl, rfl, by decide +kernel, rfl, by decide +kernel, by decide +kernel⟩
theorem ok_of {x : Str} {st : Stmt} {N ps : List Str} {k : Nat} {sp : Sp} {f : Addr} {fd : FuncData} (F : FunD K x x (defArgs st) (defBody st) (defScope st) [] [] f fd) (S : FnScope N ps (defScope st)) (len : ∀ vs H Q E, sp vs H Q E → vs.length = ps.length)
    (body : ∀ (f : Addr) (cdv : Value) (A : Around) (outer : List Env) (s : Shared) (H : Hp) (vs : List V) (Q : VK) (E : XK), Room k (A.deeper (envOfC x (defScope st) s.heap.objs.size f cdv)) → sp vs H Q E →
      ∃ t, PSs (cxOf CX0 P w K mg base N x (defScope st) f cdv A outer s H E).nox (defBody st) t ∧ t { nx := fun _ H' => Q .non H', rt := Q } (start N vs) H) : FnOk P w K mg base CX0 (k + 1) f fd ps sp :=
  F.ok S len fun cdv A outer s H vs Q E hr hs => by
    obtain ⟨t, ht, hq⟩ := body f cdv A outer s H vs Q E hr hs
    exact ⟨t, ht.nox, hq⟩
theorem ok_law (T : Top K mg) {fL : Addr} {fdL : FuncData} (F : FunD K "law" "law" (defArgs s_law) (defBody s_law) (defScope s_law) [] [] fL fdL) : FnOk P w K mg base CX0 10 fL fdL ["_law_script"] (spLaw K) := by
  refine ok_of F sc_law (by rintro _ _ _ _ ⟨_, _, rfl, _⟩; rfl) ?_
  intro f cdv A outer s H vs Q E hr h
  obtain ⟨a, ns, rfl, ha, hl, k⟩ := h
  refine ⟨_, (pss_cons (ps_for PassesOwn.never rfl (pi_list (pe_op op_cat (pe_lst (pa_cons (pe_callD (d_law_cell T) hr rfl (pa_cons (pv 0) (pa_cons pe_int pa_nil))) pa_nil)) (pe_slice sl_list (pv 0) (po_some pe_int) (po_some pe_int)))) (pg_name (i := 1) sc_law.nd rfl (Or.inl rfl)) (pss_cons (ps_set (i := 2) sc_law.nd rfl (Or.inl rfl) (pe_callD (d_law_pen T) hr rfl (pa_cons (pv 1) pa_nil))) (pss_cons (ps_set (i := 3) sc_law.nd rfl (Or.inl rfl) (pe_callD (d_law_pick T) hr rfl (pa_cons (pv 2) (pa_cons (pe_lst (pa_cons pe_int (pa_cons pe_int (pa_cons (pe_op op_pow pe_int pe_int) (pa_cons (pe_op op_add pe_int (pe_callD (d_law_draw T) hr rfl (pa_cons (pv 2) (pa_cons (pe_op op_pow pe_int pe_int) pa_nil)))) pa_nil))))) pa_nil)))) (pss_cons (ps_set (i := 4) sc_law.nd rfl (Or.inr rfl) (pe_callD (d_law_plan T) hr rfl (pa_cons (pv 2) (pa_cons pe_int pa_nil)))) (pss_cons (ps_par (i := 5) (j := 6) (by rfl) sc_law.nd rfl rfl (by decide) rfl rfl (pa_cons (pe_callB (cr_max2 rfl) (by rfl) T.g_max PyProof.Rows.boot_max (pa_cons (pv 3) (pa_cons (pe_ix ix_tup (pe_ix ix_tup (pe_ix ix_tup (pv 4) pe_int (fun _ _ => rfl)) pe_int (fun _ _ => rfl)) pe_int (fun _ _ => rfl)) pa_nil))) (pa_cons (pe_callB (cr_max2 rfl) (by rfl) T.g_max PyProof.Rows.boot_max (pa_cons (pv 3) (pa_cons (pe_ix ix_tup (pe_ix ix_tup (pe_ix ix_tup (pv 4) pe_int (fun _ _ => rfl)) pe_int (fun _ _ => rfl)) pe_int (fun _ _ => rfl)) pa_nil))) pa_nil)) (by rfl)) (pss_cons (ps_set (i := 4) sc_law.nd rfl (Or.inr rfl) (pe_op op_catT (pe_tup (pa_cons (pe_op op_catT (pe_op op_catT (pe_slice sl_tup (pe_ix ix_tup (pv 4) pe_int (fun _ _ => rfl)) po_none (po_some pe_int)) (pe_tup (pa_cons (pe_tup (pa_cons pe_int (pa_cons pe_int (pa_cons (pv 5) (pa_cons (pv 6) pa_nil))))) pa_nil))) (pe_slice sl_tup (pe_ix ix_tup (pv 4) pe_int (fun _ _ => rfl)) (po_some pe_int) po_none)) pa_nil)) (pe_slice sl_tup (pv 4) (po_some pe_int) po_none))) (pss_cons (ps_set (i := 7) sc_law.nd rfl (Or.inl rfl) (pe_callD (d_areas T) hr rfl (pa_cons (pv 4) pa_nil))) (pss_cons (ps_if (PW.pt (pw_or (pt_not (pt_val (pe_callB call_isi (by rfl) T.g_isinstance PyProof.Rows.boot_isinstance (pa_cons (pv 7) (pa_cons (pe_bltn (v := .ty "list") (by rfl) T.g_list PyProof.Rows.boot_list rfl) pa_nil))))) (pw_or1 (pt_not (pt_val (pe_callB (cr_all rfl) (by rfl) T.g_all PyProof.Rows.boot_all (pa_cons (pe_lc (own := [("_law_one", 14)]) (g := (gName 14)) (tt := tYes) rfl sc_law.nd (pi_list (pv 7)) (blkOk_by (own := [("_law_one", 14)]) (N := ["_law_script", "_law_cell_here", "_law_pen_here", "_law_far", "_law_plan_here", "_law_wide", "_law_high", "_law_told", "_law_many", "_law_name", "_law_inner", "_law_hidden", "_law_turn", "_law_pane_here", "_law_one", "_law_up"]) (sc := defScope s_law) (by decide +kernel)) (fun _ _ _ _ _ => (pg_name (i := 14) sc_law.nd rfl (Or.inl rfl))) (fun _ _ _ _ _ => pts_nil) (fun _ _ _ _ _ => (pe_callD (d_law_is_number T) hr rfl (pa_cons (pv 14) (pa_cons pe_int (pa_cons (pe_op op_pow pe_int pe_int) pa_nil)))))) pa_nil))))))) (pss_one (ps_ret pe_bl)) pss_nil) (pss_cons (ps_if (PW.pt (pw_or (pt_cmpR op_ne (pe_callB cr_lenS (by rfl) T.g_len PySem.boot_len (pa_cons (pv 7) pa_nil)) (pe_callB cr_lenS (by rfl) T.g_len PySem.boot_len (pa_cons (pv 4) pa_nil)) (nomark _)) (pw_or1 (pt_cmpR op_ne (pe_callB (cr_sum rfl) (by rfl) T.g_sum PyProof.Rows.boot_sum (pa_cons (pv 7) pa_nil)) (pe_op op_mul (pv 5) (pv 6)) (nomark _))))) (pss_one (ps_ret pe_bl)) pss_nil) (pss_cons (ps_set (i := 8) sc_law.nd rfl (Or.inr rfl) (pe_callTy (call_dictP rfl) (by rfl) T.g_dict PyProof.Rows.boot_dict (pa_cons (pe_lc (own := [("_law_pane_here", 13), ("_law_one", 14)]) (g := (gTup K 2 (gCons (gName 13) (gCons (gName 14) gNil)))) (tt := tYes) rfl sc_law.nd (pi_zipTL rfl T.g_zip (pa_cons (pv 4) (pa_cons (pv 7) pa_nil))) (blkOk_by (own := [("_law_pane_here", 13), ("_law_one", 14)]) (N := ["_law_script", "_law_cell_here", "_law_pen_here", "_law_far", "_law_plan_here", "_law_wide", "_law_high", "_law_told", "_law_many", "_law_name", "_law_inner", "_law_hidden", "_law_turn", "_law_pane_here", "_law_one", "_law_up"]) (sc := defScope s_law) (by decide +kernel)) (fun _ _ _ _ _ => (pg_tup rfl (pgs_cons (pg_name (i := 13) sc_law.nd rfl (Or.inl rfl)) (pgs_cons (pg_name (i := 14) sc_law.nd rfl (Or.inl rfl)) pgs_nil)))) (fun _ _ _ _ _ => pts_nil) (fun _ _ _ _ _ => (pe_tup (pa_cons (pe_ix (ix_tupK (K := K) rfl) (pv 13) pe_int (fun _ _ => rfl)) (pa_cons (pv 14) pa_nil))))) pa_nil))) (pss_cons (ps_for PassesOwn.never rfl (pi_list (pe_lst (pa_cons (pe_ix ix_tup (pe_callD (d_law_pick T) hr rfl (pa_cons (pv 2) (pa_cons (pv 4) pa_nil))) pe_int (fun _ _ => rfl)) (pa_cons (pe_ix ix_tup (pe_ix ix_tup (pv 4) (pe_un un_neg pe_int) (fun _ _ => rfl)) pe_int (fun _ _ => rfl)) pa_nil)))) (pg_name (i := 9) sc_law.nd rfl (Or.inl rfl)) (pss_cons (ps_set (i := 10) sc_law.nd rfl (Or.inl rfl) (pe_callB (cr_sum rfl) (by rfl) T.g_sum PyProof.Rows.boot_sum (pa_cons (pe_lc (own := [("_law_one", 14)]) (g := (gName 14)) (tt := tYes) rfl sc_law.nd (pi_list (pe_callD (d_law_inside T) hr rfl (pa_cons (pv 4) (pa_cons (pv 9) pa_nil)))) (blkOk_by (own := [("_law_one", 14)]) (N := ["_law_script", "_law_cell_here", "_law_pen_here", "_law_far", "_law_plan_here", "_law_wide", "_law_high", "_law_told", "_law_many", "_law_name", "_law_inner", "_law_hidden", "_law_turn", "_law_pane_here", "_law_one", "_law_up"]) (sc := defScope s_law) (by decide +kernel)) (fun _ _ _ _ _ => (pg_name (i := 14) sc_law.nd rfl (Or.inl rfl))) (fun _ _ _ _ _ => pts_nil) (fun _ _ _ _ _ => (pe_dget (hu_of hr) (pv 8) (pv 14) (fun _ _ => rfl)))) pa_nil))) (pss_cons (ps_set (i := 11) sc_law.nd rfl (Or.inl rfl) (pe_cmpR (op_neNil hr.units0) (pe_lc (own := [("_law_up", 15)]) (g := (gName 15)) (tt := _) rfl sc_law.nd (pi_list (pe_callD (d_law_ups T) hr rfl (pa_cons (pv 4) (pa_cons (pv 9) pa_nil)))) (blkOk_by (own := [("_law_up", 15)]) (N := ["_law_script", "_law_cell_here", "_law_pen_here", "_law_far", "_law_plan_here", "_law_wide", "_law_high", "_law_told", "_law_many", "_law_name", "_law_inner", "_law_hidden", "_law_turn", "_law_pane_here", "_law_one", "_law_up"]) (sc := defScope s_law) (by decide +kernel)) (fun _ _ _ _ _ => (pg_name (i := 15) sc_law.nd rfl (Or.inl rfl))) (fun _ _ _ _ _ => (pts_one (pt_cmpR (op_in_seqK (K := K) rfl) pe_str (pe_ix (ix_tupK (K := K) rfl) (pe_callD (d_law_by T) hr rfl (pa_cons (pv 4) (pa_cons (pv 15) pa_nil))) pe_int (fun _ _ => rfl)) (by rfl)))) (fun _ _ _ _ _ => (pv 15))) (pe_lst pa_nil) (nomark _))) (pss_one (ps_if (PW.pt (pw_or (pt_cmpR op_ne (pe_callD (d_area_of T) hr rfl (pa_cons (pv 4) (pa_cons (pv 9) pa_nil))) (pe_dget (hu_of hr) (pv 8) (pv 9) (fun _ _ => rfl)) (nomark _)) (pw_or (pt_cmpR op_ne (pe_callB call_repr_bool (by rfl) T.g_repr PyProof.Rows.boot_repr (pa_cons (pe_callD (d_bare T) hr rfl (pa_cons (pv 4) (pa_cons (pv 9) pa_nil))) pa_nil)) (pe_callB call_repr_bool (by rfl) T.g_repr PyProof.Rows.boot_repr (pa_cons (pe_cmpR op_gt (pv 10) pe_int (nomark _)) pa_nil)) (nomark _)) (pw_or1 (PW.pt (pw_and (pt_val (pv 11)) (pw_and1 (pt_cmpR op_gt (pv 10) pe_int (nomark _))))))))) (pss_one (ps_ret pe_bl)) pss_nil))))) (pss_one (ps_for PassesOwn.never rfl (pi_range1 rfl T.g_range (pa_cons pe_int pa_nil)) (pg_name (i := 12) sc_law.nd rfl (Or.inl rfl)) (pss_one (ps_if (pt_cmpR op_lt (pe_dget (hu_of hr) (pv 8) (pe_callD (d_at_point T) hr rfl (pa_cons (pv 4) (pa_cons (pe_callD (d_law_draw T) hr rfl (pa_cons (pv 2) (pa_cons (pv 5) pa_nil))) (pa_cons (pe_callD (d_law_draw T) hr rfl (pa_cons (pv 2) (pa_cons (pv 6) pa_nil))) pa_nil)))) (fun _ _ => rfl)) pe_int (nomark _)) (pss_one (ps_ret pe_bl)) pss_nil))))))))))))))) (pss_one (ps_ret pe_bl))), ?_⟩
  obtain ⟨cs, hcs, hcl⟩ := cut_ints ns (some 1) (some 2)
  refine q_forNL (xs := [.int (ns.getD 0 0)] ++ cutV (ns.map V.int) (some 1) (some 2)) (el_cat (el_lst (ea_cons (ev_callF (ea_cons (ev_var rfl) (ea_cons ev_c ea_nil)) fun H1 e1 => ⟨a, ns, rfl, ex_l e1 ha, rfl⟩) ea_nil) (by show 1 ≤ 100000; decide)) (el_sl (ev_var rfl) (eo_some ev_c) (eo_some ev_c) ha) (by
      rw [hcs, List.length_map, List.length_singleton]
      omega))
    (fun lp i σ' H' => ∃ v1 v2 v3 v4 v5 v6 v7 v8 v9 v10 v11 v12 : Option V, σ' = [some (.ref a), v1, v2, v3, v4, v5, v6, v7, v8, v9, v10, v11, v12, none, none, none] ∧ H' lp = some (.lst ([.int (ns.getD 0 0)] ++ cutV (ns.map V.int) (some 1) (some 2))))
    (fun lp H1 _ _ h1 => ⟨_, _, _, _, _, _, _, _, _, _, _, _, rfl, h1⟩) (fun lp i σ' H' _ h => by
      obtain ⟨_, _, _, _, _, _, _, _, _, _, _, _, _, h⟩ := h
      exact sq_of h) ?_ ?_
  · rintro lp i x σ' H' hi ⟨v1, v2, v3, v4, v5, v6, v7, v8, v9, v10, v11, v12, rfl, hlp⟩
    obtain ⟨c, rfl⟩ : ∃ c : Int, x = .int c := by
      have hm := List.mem_of_getElem? hi
      rw [hcs] at hm
      rcases List.mem_append.mp hm with hm | hm
      · exact ⟨_, List.mem_singleton.mp hm⟩
      · obtain ⟨c, _, rfl⟩ := List.mem_map.mp hm
        exact ⟨c, rfl⟩
    generalize hxs : [V.int (ns.getD 0 0)] ++ cutV (ns.map V.int) (some 1) (some 2) = xs at hlp ⊢
    dsimp only [gName]
    refine q_asgL (xs := [.int c, .int _]) (el_callN (ea_cons (ev_var rfl) ea_nil) fun H1 e1 => ⟨c, _, rfl, rfl, rfl⟩) fun p H1 hp0 e1 hp => ?_
    have hlpp : lp ≠ p := ne_of_none hlp hp0
    have p1 : Pen p H1 := ⟨_, _, hp⟩
    have hlp1 := e1 _ _ hlp
    clear hp
    refine c_seq (c_asg ?_)
    refine c_call (c_cons (er (ev_var rfl) fun H2 e2 => c_cons (c_lst (c_cons (er ev_c fun H3 e3 => c_cons (er ev_c fun H4 e4 => c_cons (er ev_p6 fun H5 e5 => c_cons (c_op (er ev_c fun H6 e6 => g_draw (ea_cons (ev_var rfl) (ea_cons ev_p6 ea_nil)) (p1.ex ((((e2.trans e3).trans e4).trans e5).trans e6)) ⟨by decide, by decide⟩ fun d H7 d0 d1 x7 p7 => ⟨_, _, rfl, rfl, c_nil ⟨by show 4 ≤ sizeLine; decide, fun l hl => c_nil ?_⟩⟩)))))))))
    have x7' : Xp p H1 H7 := (Xp.of ((((e2.trans e3).trans e4).trans e5).trans e6)).trans x7
    refine sp_pick (xs := [0, 0, 1000000, 1 + d].map V.int) rfl (p7.upd (p7.some hl)) ⟨p7.some hl, .inl upd_same⟩ ⟨by show 1 ≤ 4; decide, by show 4 ≤ 1000; decide⟩ fun v H8 hv x8 p8 => ?_
    obtain ⟨far, rfl, hf⟩ := mem_int hv
    have hfar : 0 ≤ far ∧ far ≤ 1000000 := by
      simp only [List.mem_cons, List.not_mem_nil, or_false] at hf
      omega
    have x18 : Xp p H1 H8 := (x7'.new (x7'.fresh p7 hl)).trans x8
    have hlp8 := x18 _ _ hlpp hlp1
    clear x18 x7' x8 hv hf p7 x7
    dsimp only [gName]
    refine c_seq (c_asg (g_call (vs := [.int 6]) (ea_cons (ev_var rfl) (ea_cons ev_c ea_nil)) p8 (fun _ _ => ⟨6, rfl, by decide, by decide⟩) fun v H0 H9 e0 x9 p9 po => ?_))
    obtain ⟨a0, L0, rfl, hPl0⟩ := po
    have hlp9 := x9 _ _ hlpp hlp8
    obtain ⟨rk, g, r, rfl, hP⟩ := hPl0.2
    have hPa := hPl0.1.a
    have hg := hPl0.1.ps g List.mem_cons_self
    have hgp := hP.each g List.mem_cons_self
    have hrl : r.length ≤ 39 := by
      have := hP.len
      rw [List.length_cons] at this
      omega
    dsimp only [gName]
    refine c_seq (c_par (ea (ea_cons (ev_max2 (ev_var rfl) (ev_at (ev_at (ev_at (ev_var rfl) hPa (atI_nat (j := 0) rfl)) hg.a (atI_nat (j := 2) rfl)) hg.b (atI_nat (j := 2) rfl))) (ea_cons (ev_max2 (ev_var rfl) (ev_at (ev_at (ev_at (ev_var rfl) hPa (atI_nat (j := 0) rfl)) hg.a (atI_nat (j := 2) rfl)) hg.b (atI_nat (j := 3) rfl))) ea_nil)) fun H10 e10 => ⟨_, _, rfl, ?_⟩))
    have hW : 1 ≤ (if g.w > far then g.w else far) ∧ (if g.w > far then g.w else far) ≤ 1000000 := by
      have := hgp.w
      split <;> omega
    have hHh : 1 ≤ (if g.h > far then g.h else far) ∧ (if g.h > far then g.h else far) ≤ 1000000 := by
      have := hgp.h
      split <;> omega
    generalize (if g.w > far then g.w else far) = W at hW ⊢
    generalize (if g.h > far then g.h else far) = Hh at hHh ⊢
    have hPa10 := e10 _ _ hPa
    have hg10 := hg.ex e10
    dsimp only
    refine c_seq (c_asg (c_op (c_tup (c_cons (c_op (c_op (eu_slT (xs := [.int g.nm, upV g.up, .ref g.ba, .int g.turn, .ref g.ma, .ref g.ka]) (ev_at (ev_var rfl) hPa10 (atI_nat (j := 0) rfl)) eo_none (eo_some ev_c) hg10.a (by show ¬ (HT.sIx 6 0 none = 0 ∧ HT.sIx 6 6 (some 2) = 6); decide) H10 (Ex.refl H10) _ fun s1 H11 _ e11 hs1 => c_tup (c_cons (eu_tup (vs := [.int 0, .int 0, .int W, .int Hh]) (ea_cons ev_c (ea_cons ev_c (ea_cons (ev_var rfl) (ea_cons (ev_var rfl) ea_nil)))) (by show 4 ≤ 100000; decide) H11 (Ex.refl H11) _ fun ba H12 _ e12 hba => c_nil ⟨by show 1 ≤ sizeLine; decide, fun t1 ht1 => ?_⟩)))))))))
    have hs1' : (upd H12 t1 (.tup [.ref ba])) s1 = some (.tup [.int g.nm, upV g.up]) := (Ex.new ht1) _ _ (e12 _ _ hs1)
    have eB : Ex H10 (upd H12 t1 (.tup [.ref ba])) := (e11.trans e12).trans (Ex.new ht1)
    refine c_catT hs1' upd_same (by simp) (by show 3 ≤ 100000; decide) fun y1 H13 e13 hy1 => ?_
    have hba13 := e13 _ _ ((Ex.new ht1) _ _ hba)
    have eC := eB.trans e13
    refine eu_slT (xs := [.int g.nm, upV g.up, .ref g.ba, .int g.turn, .ref g.ma, .ref g.ka]) (ev_at (ev_var rfl) (eC _ _ hPa10) (atI_nat (j := 0) rfl)) (eo_some ev_c) eo_none (hg10.ex eC).a (by show ¬ (HT.sIx 6 0 (some 3) = 0 ∧ HT.sIx 6 6 none = 6); decide) H13 (Ex.refl H13) _ fun s2 H14 _ e14 hs2 => ?_
    have hs2' : H14 s2 = some (.tup [.int g.turn, .ref g.ma, .ref g.ka]) := hs2
    refine c_catT (e14 _ _ hy1) hs2' (by simp) (by show 6 ≤ 100000; decide) fun ad H15 e15 had => c_nil ⟨by show 1 ≤ sizeLine; decide, fun pA hpA => ?_⟩
    have eD : Ex H13 (upd H15 pA (.tup [.ref ad])) := (e14.trans e15).trans (Ex.new hpA)
    have had' := (Ex.new (o := .tup [.ref ad]) hpA) _ _ had
    refine eu_tail (x0 := .ref g.ad) (xs := r.map fun q => V.ref q.ad) (ev_var rfl) (eD _ _ (eC _ _ hPa10)) _ (Ex.refl _) _ fun tl H17 _ e17 htl => ?_
    refine c_catT (e17 _ _ upd_same) htl (by simp) (by rw [List.length_map, List.length_singleton]; omega) fun aF H18 e18 haF => ?_
    have eE : Ex H9 H18 := ((e10.trans eC).trans eD).trans (e17.trans e18)
    have had18 := e18 _ _ (e17 _ _ had')
    have hba18 := e18 _ _ (e17 _ _ (eD _ _ hba13))
    obtain ⟨L, hPl, hG, hbW, hbH⟩ : ∃ L : List LP, Pl H18 aF L ∧ GoodR rk L ∧ (byN L 0).w = W ∧ (byN L 0).h = Hh := by
      have hP' := hP.grow (ad := ad) (ba := ba) hW hHh
      have hG : GoodR rk ({ g with ad := ad, ba := ba, w := W, h := Hh } :: r) := ⟨_, r, rfl, hP'⟩
      have hb0 : ∀ g' : LP, g'.nm = 0 → GoodR rk (g' :: r) → byN (g' :: r) 0 = g' := fun g' e h => by
        have q := byN_of h (q := g') List.mem_cons_self
        rw [e] at q
        exact q
      have hb := hb0 { g with ad := ad, ba := ba, w := W, h := Hh } hP.g0.1 hG
      have hg18 := hg.ex eE
      refine ⟨{ g with ad := ad, ba := ba, w := W, h := Hh } :: r, ⟨⟨haF, fun q hq => ?_⟩, _, hG⟩, hG, by rw [hb], by rw [hb]⟩
      rcases List.mem_cons.mp hq with rfl | hq
      · refine ⟨had18, ?_, hg18.m, hg18.k, hg18.ks⟩
        show H18 ba = some (.tup [.int g.l, .int g.t, .int W, .int Hh])
        rw [hP.g0.2.2.1, hP.g0.2.2.2.1]
        exact hba18
      · exact (hPl0.1.ps q (List.mem_cons_of_mem _ hq)).ex eE
    have p18 := p9.ex eE
    have hlp18 := eE _ _ hlp9
    clear hPl0 hP hPa hg hgp hrl hPa10 hg10 hs1 hs1' hba hy1 hba13 hs2 hs2' had had' htl haF had18 hba18 eE eD eC eB e10 e11 e12 e13 e14 e15 e17 e18 ht1 hpA p9 hlp9 hlp8 hlp1 x9 e0 p8 hl
    dsimp only [gName]
    have hLl : L.length ≤ 40 := by
      obtain ⟨g', r', rfl, hP'⟩ := hG
      exact hP'.len
    refine q_asgL (el_callN (ea_cons (ev_var rfl) ea_nil) fun H' e => ⟨aF, L, rfl, hPl.ex e, rfl⟩) fun to H19 hto0 e19 hto => ?_
    have hPl19 := hPl.ex e19
    refine q_when (b := false) (et_is (et_or (et_not (et_B (ev_cb (ea_cons (ev_var rfl) (ea_cons ev_c ea_nil)) (rc_isi (b := true) (ty_lst hto) (by decide +kernel))))) fun _ => et_not (et_B (ev_all_true (L := L) (el_lcLa (L := L) (enc := fun q : LP => V.int (areaN L q.nm)) (fun _ => true) (fun _ => V.bl true) (ev_var rfl) hto (by omega) (fun _ => rfl) (fun _ _ _ _ => el_yes (b := true)) fun q H' e hq _ => ev_callF (ea_cons (ev_var rfl) (ea_cons ev_c (ea_cons (ev_is (ev_op ev_c ev_c (rv_I ⟨by decide, by decide, by decide⟩)) (congrArg V.int (by decide : (10 : Int) ^ (12 : Int).toNat = 1000000000000))) ea_nil))) fun _ _ => ⟨_, _, _, rfl, areaN_nn hG _, areaN_le hG (nm_mem hq), rfl⟩)))) rfl)
      (fun q => by cases q) fun _ H20 e20 => ?_
    have hto20 := e20 _ _ hto
    have hPl20 := hPl19.ex e20
    have hsum : (L.map fun q => areaN L q.nm).sum = W * Hh := by
      have q := areaN_sum hG
      unfold names at q
      rw [List.map_map, hbW, hbH] at q
      exact q
    refine q_when (b := false) (et_is (et_or (et_test (ev_op (ev_len (ev_var rfl) (sq_of hto20)) (ev_lenT (ev_var rfl) hPl20.1.a) (rv_ne rfl))) fun _ => et_test (ev_op (ev_sumL (ns := L.map fun q => areaN L q.nm) (ev_var rfl) (by rw [hto20, List.map_map]; rfl)) (ev_op (ev_var rfl) (ev_var rfl) (rv_I (.inl ⟨by omega, by omega⟩))) (rv_ne rfl))) (by rw [List.length_map, List.length_map, hsum]; simp))
      (fun q => by cases q) fun _ H21 e21 => ?_
    have hto21 := e21 _ _ hto20
    have hPl21 := hPl20.ex e21
    refine q_asgD (ed_is (ed_dictP (kvs := tab L fun q => .int (areaN L q.nm)) (ep_is (ep_zip (L := L) (f := fun q => .int (areaN L q.nm)) (ea_cons (ev_var rfl) (ea_cons (ev_var rfl) ea_nil)) hPl21.1.a hto21 (by omega) hPl21.1.ps (fun _ _ => rfl) (fun _ _ => rfl) (fun _ _ => rfl)) (by unfold tab; rw [List.map_map]; rfl))) (mergeK_nd (tab_nd hG.nodup _))) fun dd H22 hdd0 e22 hdd => ?_
    have hPl22 := hPl21.ex e22
    have e1822 := ((e19.trans e20).trans e21).trans e22
    have p22 := p18.ex e1822
    have hlp22 := e1822 _ _ hlp18
    have hddp : dd ≠ p := ((p18.ex ((e19.trans e20).trans e21))).some hdd0
    have htab : ∀ n ∈ names L, valV (tab L fun q => V.int (areaN L q.nm)) (Sum.inl n) = some (.int (areaN L n)) := fun n hn => by
      rw [tab_val hG.nodup _ hn, (byN_mem hn).2]
    clear hto21 hto20 hto hPl21 hPl20 hPl19 hPl p18 hlp18 e19 e20 e21 e22 e1822 hto0 hdd0
    have haFp : aF ≠ p := by
      obtain ⟨n, fl, hp⟩ := p22
      exact ne_of hPl22.1.a hp (by intro z; cases z)
    have hL1 : 1 ≤ L.length := by
      obtain ⟨g', r', rfl, _⟩ := hG
      exact Nat.succ_le_succ (Nat.zero_le _)
    obtain ⟨q2, hq2, hat2⟩ : ∃ q2 ∈ L, atI (L.map fun q => V.ref q.ad) (-1) = some (.ref q2.ad) := by
      have hne : L ≠ [] := fun z => by
        rw [z] at hL1
        cases hL1
      have e := List.dropLast_concat_getLast hne
      refine ⟨L.getLast hne, List.getLast_mem hne, ?_⟩
      generalize L.getLast hne = z at e ⊢
      rw [← e, List.map_append]
      exact atI_last _ _
    refine c_seq (c_forI (c_lst (c_cons (c_op (g_pick (xs := L.map fun q => V.ref q.ad) (ea_cons (ev_var rfl) (ea_cons (ev_var rfl) ea_nil)) p22 ⟨haFp, .inr hPl22.1.a⟩ ⟨by rw [List.length_map]; exact hL1, by rw [List.length_map]; omega⟩ fun v H23 hv x23 p23 => er ev_c fun H24 e24 => ?_)))))
    obtain ⟨q1, hq1, rfl⟩ := List.mem_map.mp hv
    have hPl24 := (hPl22.tm (x23.tm p22)).ex e24
    refine rv_ixT (st_of (hPl24.1.ps q1 hq1).a) (atI_nat (j := 0) rfl) H24 (Ex.refl H24) _ fun H25 e25 => ?_
    have hPl25 := hPl24.ex e25
    refine ea (vs := [.int q2.nm]) (ea_cons (ev_at (ev_atE (ev_var rfl) (ev_neg ev_c) hPl25.1.a hat2) (hPl25.1.ps q2 hq2).a (atI_nat (j := 0) rfl)) ea_nil) fun H26 e26 => ⟨by show 2 ≤ sizeLine; decide, fun ln hln => ?_⟩
    have e27 : Ex H24 (upd H26 ln (.lst [.int q1.nm, .int q2.nm])) := (e25.trans e26).trans (Ex.new hln)
    have hln27 : (upd H26 ln (.lst [.int q1.nm, .int q2.nm])) ln = some (.lst [.int q1.nm, .int q2.nm]) := upd_same
    have hPl27 := hPl24.ex e27
    have p27 := (p23.ex e24).ex e27
    have hlp27 := e27 _ _ (e24 _ _ (x23 _ _ hlpp hlp22))
    have hdd27 := e27 _ _ (e24 _ _ (x23 _ _ hddp hdd))
    generalize upd H26 ln (.lst [.int q1.nm, .int q2.nm]) = H27 at hln27 hPl27 p27 hlp27 hdd27 ⊢
    clear e27 e26 e25 e24 hPl25 hPl24 p23 x23 p22 hlp22 hdd hPl22 hat2 hln hv
    have hn1 := nm_mem hq1
    have hn2 := nm_mem hq2
    refine ⟨ln, rfl, ⟨_, sq_of hln27⟩, for_list (fun i σ' H' => ∃ v9 v10 v11 v12 : Option V, σ' = [some (.ref a), some (.int c), some (.ref p), some (.int far), some (.ref aF), some (.int W), some (.int Hh), some (.ref to), some (.ref dd), v9, v10, v11, v12, none, none, none] ∧ Ex H27 H')
      ⟨_, _, _, _, rfl, Ex.refl H27⟩ (fun i σ' H' _ h => by
        obtain ⟨_, _, _, _, _, h⟩ := h
        exact sq_of (h _ _ hln27)) ?_ ?_⟩
    · rintro i x σ' H' hx ⟨v9, v10, v11, v12, rfl, eH⟩
      obtain ⟨n, hn, rfl⟩ : ∃ n, n ∈ names L ∧ x = .int n := by
        have hm := List.mem_of_getElem? hx
        simp only [List.mem_cons, List.not_mem_nil, or_false] at hm
        rcases hm with rfl | rfl
        · exact ⟨_, hn1, rfl⟩
        · exact ⟨_, hn2, rfl⟩
      have hPlA := hPl27.ex eH
      have hddA := eH _ _ hdd27
      dsimp only [gName]
      have hln2 : (names L).length ≤ 40 := by
        unfold names
        rw [List.length_map]
        exact hLl
      refine q_asg (v := .int (insSum L n)) (ev_is (ev_sumNL (ns := ((names L).filter fun o => decide (n ∈ line L o)).map (areaN L)) (el_is (el_lcNLa (L := (names L).filter fun o => decide (n ∈ line L o)) (enc := V.int) (fun _ => true) (fun o : Int => V.int (areaN L o)) (el_callN (ea_cons (ev_var rfl) (ea_cons (ev_var rfl) ea_nil)) fun _ e => ⟨aF, L, n, rfl, hPlA.ex e, hn, rfl⟩) (Nat.le_trans (List.length_filter_le _ _) (by omega)) (fun _ => rfl) (fun _ _ _ _ => el_yes (b := true))
        fun o _ e ho _ => ev_dget (ev_var rfl) (ev_var rfl) (e _ _ hddA) (htab o (List.mem_filter.mp ho).1)) (by rw [kept_all, List.map_map]; rfl))) (congrArg V.int (insSum_eq n))) fun H28 e28 => ?_
      have hPlB := hPlA.ex e28
      refine q_asg (v := .bl (!(kept (fun u : Int => decide (HID ∈ (byN L u).marks)) V.int (line L n)).isEmpty)) (ev_opLL (el_lcNLa (L := line L n) (enc := V.int) (fun u : Int => decide (HID ∈ (byN L u).marks)) V.int (el_callN (ea_cons (ev_var rfl) (ea_cons (ev_var rfl) ea_nil)) fun _ e => ⟨aF, L, n, rfl, hPlB.ex e, hn, rfl⟩) (Nat.le_trans (line_len L n) (by decide)) (fun _ => rfl)
        (fun u H' e hu => et_is (et_test (ev_op ev_c (ev_at (ev_callF (ea_cons (ev_var rfl) (ea_cons (ev_var rfl) ea_nil)) fun _ e' => ⟨aF, L, u, rfl, hPlB.ex (e.trans e'), line_names hG n hn u hu, rfl⟩) ((hPlB.ex e).byN (line_names hG n hn u hu)).a (atI_nat (j := 4) rfl)) (rv_isT (st_of ((hPlB.ex e).byN (line_names hG n hn u hu)).m) rfl (flat_str _)))) inV_str) fun u _ _ _ _ => ev_var rfl) (el_lst ea_nil (by show 0 ≤ 100000; decide)) fun a b H' h1 h2 _ => rv_neNil h1 h2) fun H29 e29 => ?_
      have hPlC := hPlB.ex e29
      have hddC := e29 _ _ (e28 _ _ hddA)
      refine s_when (b := false) (et_is (et_or (et_test (ev_op (ev_callF (ea_cons (ev_var rfl) (ea_cons (ev_var rfl) ea_nil)) fun _ e => ⟨aF, L, n, rfl, hPlC.ex e, hn, rfl⟩) (ev_dget (ev_var rfl) (ev_var rfl) hddC (htab n hn)) (rv_ne rfl))) fun _ => et_or (et_test (ev_op (ev_cb (ea_cons (ev_callF (ea_cons (ev_var rfl) (ea_cons (ev_var rfl) ea_nil)) fun _ e => ⟨aF, L, n, rfl, hPlC.ex e, hn, rfl⟩) ea_nil) rc_reprB) (ev_cb (ea_cons (ev_op (ev_var rfl) ev_c rv_I0) ea_nil) rc_reprB) (rv_ne rfl))) fun _ =>
        et_and (et_B (ev_var rfl)) fun _ => et_test (ev_op (ev_var rfl) ev_c rv_I0)) ?_) (fun q => by cases q) fun _ H30 e30 => ⟨_, _, _, _, rfl, ((eH.trans e28).trans e29).trans e30⟩
      have hk : (!(kept (fun u : Int => decide (HID ∈ (byN L u).marks)) V.int (line L n)).isEmpty && decide (0 < insSum L n)) = false := by
        cases hz : (kept (fun u : Int => decide (HID ∈ (byN L u).marks)) V.int (line L n)).isEmpty with
        | true => rfl
        | false =>
          obtain ⟨u, hu⟩ : ∃ u, u ∈ (line L n).filter fun u => decide (HID ∈ (byN L u).marks) := by
            unfold kept at hz
            cases hf : (line L n).filter fun u => decide (HID ∈ (byN L u).marks) with
            | nil =>
              rw [hf] at hz
              cases hz
            | cons u us => exact ⟨u, List.mem_cons_self⟩
          obtain ⟨hu1, hu2⟩ := List.mem_filter.mp hu
          rw [insSum_hid hG hu1 (of_decide_eq_true hu2)]
          rfl
      rw [hk, decide_eq_true rfl, decide_eq_true rfl]
      rfl
    · rintro σ' H' ⟨v9, v10, v11, v12, rfl, eH⟩
      have hPlA := hPl27.ex eH
      have hddA := eH _ _ hdd27
      have pA := p27.ex eH
      have hlpA := eH _ _ hlp27
      refine s_forR1 (n := 5) (ea_cons ev_c ea_nil) ⟨by decide, by decide⟩ (fun i σ' H2 => ∃ v9 v10 v11 v12 : Option V, σ' = [some (.ref a), some (.int c), some (.ref p), some (.int far), some (.ref aF), some (.int W), some (.int Hh), some (.ref to), some (.ref dd), v9, v10, v11, v12, none, none, none] ∧ Xp p H' H2 ∧ Pen p H2)
        (fun H1 e1 => ⟨_, _, _, _, rfl, Xp.of e1, pA.ex e1⟩) ?_ ?_
      · rintro i σ' H2 hi ⟨v9, v10, v11, v12, rfl, x2, p2⟩
        refine c_if (c_test (c_op (c_dget (er (ev_var rfl) fun Ha ea' => c_call (c_cons (er (ev_var rfl) fun Hb eb => c_cons (g_draw (b := W) (ea_cons (ev_var rfl) (ea_cons (ev_var rfl) ea_nil)) ((p2.ex ea').ex eb) hW fun x Hc x0 x1 xc pc => c_cons (g_draw (b := Hh) (ea_cons (ev_var rfl) (ea_cons (ev_var rfl) ea_nil)) pc hHh fun y Hd y0 y1 xd pd => c_nil ?_))))))))
        have xx : Xp p H' Hd := ((x2.trans (Xp.of (ea'.trans eb))).trans xc).trans xd
        obtain ⟨m, hfo, hm, har⟩ := areaN_at hG (x := x) (y := y) (by rw [hbW]; exact ⟨x0, x1⟩) (by rw [hbH]; exact ⟨y0, y1⟩)
        refine ⟨.int m, ⟨aF, L, x, y, rfl, hPlA.tm (xx.tm pA), by omega, by omega, by rw [hfo]; rfl⟩, fun He ee => ⟨dd, .int (areaN L m), rfl, dget_of (ee _ _ (xx _ _ hddp hddA)) (htab m hm), er ev_c fun Hf ef => ⟨_, _, rfl, rfl, _, rfl, ifF (decide_eq_false (by omega)) ⟨_, _, _, _, rfl, xx.trans (Xp.of (ee.trans ef)), pd.ex (ee.trans ef)⟩⟩⟩⟩
      · rintro σ' H2 ⟨v9, v10, v11, v12, rfl, x2, p2⟩
        exact ⟨_, _, _, _, _, _, _, _, _, _, _, _, rfl, x2 _ _ hlpp hlpA⟩
  · rintro lp σ' H' ⟨v1, v2, v3, v4, v5, v6, v7, v8, v9, v10, v11, v12, rfl, _⟩
    exact s_ret ev_c fun H1 e1 => k H1
end
end Kp
set_option Elab.async false
set_option linter.all false
set_option maxRecDepth 100000
set_option maxHeartbeats 0
/-! the top's facts; the row -/
namespace Kp
open PySem PySem.Spec PyProof.Rows L2
section
variable {K : PySem.W.Frag} {h : Heap} {mg : Str → Option Value}
theorem here_of (X : K.In h) (G : h.Ns mainGlobals mg) (c : He.SaysD fa fn K) {x : Str} {k : Nat} (i j : Nat) (hd : fn[i]? = some (mkD x k)) (hf : fa[j]? = some (.glo x)) : Here K mg x (top k) := by
  obtain ⟨fd, F⟩ := c.def_ i (d := mkD x k) hd
  exact ⟨He.ga K x, fd, F, He.glo_ok X G (c.fact j (f := .glo x) hf)⟩
theorem ex_and {a b : Bool} (h : (a && b) = true) : a = true ∧ b = true := by
  cases a <;> cases b <;> simp_all
theorem top_of (X : K.In h) (G : h.Ns mainGlobals mg) (c : Says K) : Top K mg where
  g_isinstance := He.free_ok X G (c.d.fact 0 (f := .free "isinstance") rfl)
  g_int := He.free_ok X G (c.d.fact 1 (f := .free "int") rfl)
  g_bool := He.free_ok X G (c.d.fact 2 (f := .free "bool") rfl)
  g_tuple := He.free_ok X G (c.d.fact 3 (f := .free "tuple") rfl)
  g_len := He.free_ok X G (c.d.fact 4 (f := .free "len") rfl)
  g_all := He.free_ok X G (c.d.fact 5 (f := .free "all") rfl)
  g_str := He.free_ok X G (c.d.fact 6 (f := .free "str") rfl)
  g_range := He.free_ok X G (c.d.fact 7 (f := .free "range") rfl)
  g_list := He.free_ok X G (c.d.fact 8 (f := .free "list") rfl)
  g_dict := He.free_ok X G (c.d.fact 9 (f := .free "dict") rfl)
  g_max := He.free_ok X G (c.d.fact 10 (f := .free "max") rfl)
  g_sorted := He.free_ok X G (c.d.fact 11 (f := .free "sorted") rfl)
  g_sum := He.free_ok X G (c.d.fact 12 (f := .free "sum") rfl)
  g_zip := He.free_ok X G (c.d.fact 13 (f := .free "zip") rfl)
  g_repr := He.free_ok X G (c.d.fact 14 (f := .free "repr") rfl)
  c_MOST_PANES := He.int_ok X G (c.d.fact 15 (f := .int "MOST_PANES" 40) rfl)
  c_MOST_KEYS := He.int_ok X G (c.d.fact 16 (f := .int "MOST_KEYS" 20) rfl)
  c_FAR := He.int_ok X G (c.d.fact 17 (f := .int "FAR" 1000000) rfl)
  c_FAR_POINT := He.int_ok X G (c.d.fact 18 (f := .int "FAR_POINT" 1000000000) rfl)
  c_KEY_SIGNS := He.str_ok X G (c.d.fact 19 (f := .str "KEY_SIGNS" "abcdefghijklmnopqrstuvwxyz0123456789") rfl)
  c_MARKS := ⟨_, He.glo_ok X G (c.d.fact 20 (f := .glo "MARKS") rfl), fun H => He.tupB_ok (ex_and c.ex).1 H⟩
  c_WAYS := ⟨_, He.glo_ok X G (c.d.fact 21 (f := .glo "WAYS") rfl), fun H => He.tupB_ok (ex_and c.ex).2 H⟩
  f_is_number := here_of X G c.d 0 22 rfl rfl
  f_is_name := here_of X G c.d 1 23 rfl rfl
  f_is_box := here_of X G c.d 2 24 rfl rfl
  f_is_key := here_of X G c.d 3 25 rfl rfl
  f_is_way := here_of X G c.d 4 26 rfl rfl
  f_is_mark := here_of X G c.d 5 27 rfl rfl
  f_is_deed := here_of X G c.d 6 28 rfl rfl
  f_rises := here_of X G c.d 7 29 rfl rfl
  f_are_marks := here_of X G c.d 8 30 rfl rfl
  f_is_known := here_of X G c.d 9 31 rfl rfl
  f_are_keys := here_of X G c.d 10 32 rfl rfl
  f_is_pane := here_of X G c.d 11 33 rfl rfl
  f_is_ground := here_of X G c.d 12 34 rfl rfl
  f_is_rooted := here_of X G c.d 13 35 rfl rfl
  f_fits_in := here_of X G c.d 14 36 rfl rfl
  f_is_plan := here_of X G c.d 15 37 rfl rfl
  f_see_plan := here_of X G c.d 16 38 rfl rfl
  f_has_name := here_of X G c.d 17 39 rfl rfl
  f_see_name := here_of X G c.d 18 40 rfl rfl
  f_the_pane := here_of X G c.d 19 41 rfl rfl
  f_going_up := here_of X G c.d 20 42 rfl rfl
  f_inside := here_of X G c.d 21 43 rfl rfl
  f_placed := here_of X G c.d 22 44 rfl rfl
  f_has_point := here_of X G c.d 23 45 rfl rfl
  f_uppermost := here_of X G c.d 24 46 rfl rfl
  f_found_at := here_of X G c.d 25 47 rfl rfl
  f_see_point := here_of X G c.d 26 48 rfl rfl
  f_at_point := here_of X G c.d 27 49 rfl rfl
  f_borders := here_of X G c.d 28 50 rfl rfl
  f_counted := here_of X G c.d 29 51 rfl rfl
  f_area_of := here_of X G c.d 30 52 rfl rfl
  f_areas := here_of X G c.d 31 53 rfl rfl
  f_bare := here_of X G c.d 32 54 rfl rfl
  f_law_cell := here_of X G c.d 33 55 rfl rfl
  f_law_pen := here_of X G c.d 34 56 rfl rfl
  f_law_draw := here_of X G c.d 35 57 rfl rfl
  f_law_pick := here_of X G c.d 36 58 rfl rfl
  f_law_mixed := here_of X G c.d 37 59 rfl rfl
  f_law_box := here_of X G c.d 38 60 rfl rfl
  f_law_key := here_of X G c.d 39 61 rfl rfl
  f_law_way := here_of X G c.d 40 62 rfl rfl
  f_law_deed := here_of X G c.d 41 63 rfl rfl
  f_law_keys := here_of X G c.d 42 64 rfl rfl
  f_law_marks := here_of X G c.d 43 65 rfl rfl
  f_law_pane := here_of X G c.d 44 66 rfl rfl
  f_law_plan := here_of X G c.d 45 67 rfl rfl
  f_law_names := here_of X G c.d 46 68 rfl rfl
  f_law_by := here_of X G c.d 47 69 rfl rfl
  f_law_ups := here_of X G c.d 48 70 rfl rfl
  f_law_inside := here_of X G c.d 49 71 rfl rfl
  f_law_is_number := here_of X G c.d 50 72 rfl rfl
  f_law := here_of X G c.d 51 73 rfl rfl
theorem facts {P : Program} {w : World} {f : Addr} (X : K.In h) (G : h.Ns mainGlobals mg) (hfa : mg ("law" : Str) = some (.ref f)) (c : Says K) :
    ∃ fd : FuncData, (∀ (s : Shared) (v : Value), BindsTo s fd ⟨[v], []⟩ [("_law_script", v)]) ∧ ∀ base : Heap, K.In base → base.Ns mainGlobals mg → FnOk P w K mg base CX0 10 f fd ["_law_script"] (spLaw K) := by
  obtain ⟨f0, fd, F, hm⟩ : Here K mg "law" s_law := (top_of X G c).f_law
  have e : f = f0 := by
    rw [hm] at hfa
    exact (Value.ref.inj (Option.some.inj hfa)).symm
  subst e
  have b := FunD.bindsA (ps := ["_law_script"]) F fun _ _ _ _ _ _ us hl => match us, hl with | [_], _ => rfl
  exact ⟨fd, fun s v => b s [v] rfl, fun base _ _ => ok_law (top_of X G c) F⟩
end
end Kp
open PySem PySem.W PySem.Calls PyProof.Rows
theorem PySem.Challenge.cw_keypanes_k15_whole_each_point_has_a_pane_holds : PySem.Challenge.rw_keypanes_k15_whole_each_point_has_a_pane.Holds := by
  w_on; o_law
  refine HandSHeadRun.head_any (r := OpenLaw.row PySem.Challenge.rw_keypanes_k15_whole_each_point_has_a_pane) (q := view (OpenLaw.row PySem.Challenge.rw_keypanes_k15_whole_each_point_has_a_pane).prog [66]) (H := Kp.hk) (ob := Kp.ob) (M := 4000) (loose := Kp.loose) (d := HandSHeadRun.topDef (OpenLaw.row PySem.Challenge.rw_keypanes_k15_whole_each_point_has_a_pane).prog 66) (kwd := []) Kp.ob_eq
    (by kernel_rfl) (fun s => by kernel_rfl) Kp.run (by kernel_rfl) (by kernel_rfl) (by kernel_rfl) (by rfl) (by first | assumption | decide +kernel) (by decide +kernel) ⟨rfl, rfl, rfl, rfl, rfl, by decide +kernel⟩ ?hw ?hc
  case hw => w_witness2
  case hc =>
    refine L2.walk_ofE (l := PySem.Challenge.rw_keypanes_k15_whole_each_point_has_a_pane) (n := 63) (k := 10) (x := "_law_script") (CX := L2.CX0) rfl (by decide) (by kernel_rfl) ⟨rfl, by decide, by decide⟩ ?F (fun _ _ _ _ z => z)
    intro w mg fa h Y G hmg0
    obtain ⟨K, KX, c⟩ := Y
    have hmg : mg ("law" : PySem.Str) = some (.ref fa) := by
      have e : (HandSHeadRun.topDef (OpenLaw.row PySem.Challenge.rw_keypanes_k15_whole_each_point_has_a_pane).prog 66).name = ("law" : PySem.Str) := by kernel_rfl
      rw [← e]
      exact hmg0
    obtain ⟨fd, hb, hF⟩ := Kp.facts (P := (PySem.Challenge.rw_keypanes_k15_whole_each_point_has_a_pane).prog) (w := w) KX G hmg c
    exact ⟨K, fd, Kp.spLaw K, KX, hb, fun H a ns hl _ hS => ⟨a, ns, rfl, hS, Nat.le_trans hl (by decide), fun _ => rfl⟩, hF⟩
