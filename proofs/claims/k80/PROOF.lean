import PyProof.Rows.All
import Wide.All
import OpenK.AllK
import Wide.FinOn
import KE.KStateDown
import Lean
import HandS.ForMost
import HandS.IsInst
import HandS.Wide
import HandS.Walk
import HandS.DictComp
import HandS.TupAny
import HandS.More
import HandS.Defaults
import HandS.Flow
import HandS.Head0
import HandS.Head1
import HandS.Head2
import HandS.HeadEnd
import HandS.HeadHook1
import HandS.HeadHook2
import PySem.Challenge.RW_provedfacts_k80_tests_hold_where_equal
import PyProof.FactsAll.bool_1
set_option Elab.async false
set_option linter.all false
set_option maxRecDepth 100000
set_option maxHeartbeats 4000000
/-! a thin layer of our own over HandS: where a def stands (At), what it promises (Df) -/
namespace Lw
open PySem PySem.Spec PyProof.Rows L2
section
variable {P : Program} {w : World} {K : PySem.W.Frag} {mg : Str → Option Value} {base : Heap}
/-- the def x of the text st stands in the written part -/
def At (K : PySem.W.Frag) (mg : Str → Option Value) (x : Str) (st : Stmt) : Prop :=
  ∃ f fd, FunD K x x (defArgs st) (defBody st) (defScope st) [] [] f fd ∧ mg x = some (.ref f)
/-- the def that x names keeps the promise sp at level k -/
def Df (P : Program) (w : World) (K : PySem.W.Frag) (mg : Str → Option Value) (base : Heap) (k : Nat) (x : Str) (ps : List Str) (sp : Sp) : Prop :=
  ∃ f fd, FnOk P w K mg base CX0 k f fd ps sp ∧ mg x = some (.ref f) ∧ PySem.W.keepIn K (.ref f) = true ∧ Binds K fd ps [] ∧ ∃ oc od osl, K.lookup f = some ⟨oc, od, .func fd, osl⟩
theorem Df.mono {j k : Nat} {x : Str} {ps : List Str} {sp : Sp} (D : Df P w K mg base j x ps sp) (h : j ≤ k) : Df P w K mg base k x ps sp := by
  obtain ⟨f, fd, F, a, b, c⟩ := D
  exact ⟨f, fd, F.mono h, a, b, c⟩
theorem Df.imp {k : Nat} {x : Str} {ps : List Str} {sp sp' : Sp} (D : Df P w K mg base k x ps sp) (h : ∀ vs H Q E, sp' vs H Q E → sp vs H Q E) : Df P w K mg base k x ps sp' := by
  obtain ⟨f, fd, F, a, b, c⟩ := D
  exact ⟨f, fd, F.imp h, a, b, c⟩
/-- the rule of a def -/
theorem Df.mk {x : Str} {st : Stmt} {N ps : List Str} {k : Nat} {sp : Sp} (A : At K mg x st) (S : FnScope N ps (defScope st))
    (hb : ∀ (kV doc pm : Value) (an : Option Addr) (cdv ct : Value) (us : List Value), us.length = ps.length → bindArgs (PySem.W.fnOf x x (defArgs st) (defBody st) (defScope st) .none kV doc pm an cdv ct) ⟨us, []⟩ = pure (ps.zip us))
    (len : ∀ vs H Q E, sp vs H Q E → vs.length = ps.length)
    (body : ∀ (f : Addr) (cdv : Value) (A : Around) (outer : List Env) (s : Shared) (H : Hp) (vs : List V) (Q : VK) (E : XK), Room k (A.deeper (envOfC x (defScope st) s.heap.objs.size f cdv)) → sp vs H Q E →
      ∃ t, PSs (cxOf CX0 P w K mg base N x (defScope st) f cdv A outer s H E).nox (defBody st) t ∧ t { nx := fun _ H' => Q .non H', rt := Q } (start N vs) H) : Df P w K mg base (k + 1) x ps sp := by
  obtain ⟨f, fd, F, hm⟩ := A
  obtain ⟨oc, od, dV, kV, doc, pm, an, cdv, ct, osl, e1, e2, _⟩ := id F.ex
  refine ⟨f, fd, F.ok S len fun cdv A outer s H vs Q E hr h => ?_, hm, F.kp, F.bindsN hb, oc, od, osl, e2⟩
  obtain ⟨t, p, q⟩ := body f cdv A outer s H vs Q E hr h
  exact ⟨t, PSs.nox p, q⟩
end
/-- the promise of the very def that stands there -/
theorem Df.at_ {P : Program} {w : World} {K : PySem.W.Frag} {mg : Str → Option Value} {base : Heap} {k : Nat} {x : Str} {ps : List Str} {sp : Sp} {st : Stmt} {f : Addr} {fd : FuncData} (D : Df P w K mg base k x ps sp)
    (F : FunD K x x (defArgs st) (defBody st) (defScope st) [] [] f fd) (hm : mg x = some (.ref f)) : FnOk P w K mg base CX0 k f fd ps sp := by
  obtain ⟨f2, fd2, F2, hm2, _, _, oc, od, osl, e2⟩ := D
  rw [hm] at hm2
  cases hm2
  obtain ⟨oc', od', dV, kV, doc, pm, an, cdv, ct, osl', e1, e3, _⟩ := id F.ex
  rw [e2] at e3
  cases e3
  exact F2
/-! ### a call of such a def -/
section
variable {X : Cx} {k : Nat} {x : Str} {ps : List Str} {sp : Sp} {p pos : Pos} {e : Expr} {es : List Expr} {t : TA}
theorem pe_d (D : Df X.prog X.w X.K X.mg X.base k x ps sp) (hr : Room k X.A) (ha : PA X (e :: es) t) (hg : Gl X x := by rfl) (hdb : (x == ("__debug__" : Str)) = false := by decide)
    (he : starEach (e :: es) X.env = (false, eval e X.env) :: starEach es X.env := by rfl) (hpl : (backTo pos (starEach es X.env)).any (·.1) = false := by rfl) :
    PE X (.Call (.Name x p) (e :: es) [] pos) (tCall sp [] E0 t) := by
  obtain ⟨f, fd, F, hm, hk, hb, _⟩ := D
  exact pe_call F hr hg hm hk hb .nil pass0 ha hdb he hpl
end
end Lw


set_option Elab.async false
set_option linter.all false
set_option maxRecDepth 100000
set_option maxHeartbeats 0
/-! the head: the top run, what stands behind it -/
namespace K80
open PySem PySem.Spec PyProof.Rows L2
def top (i : Nat) : Stmt := PySem.Challenge.pw_provedfacts_k80_tests_hold_where_equal.main.body.getD i (.Pass ⟨0, 0, 0, 0⟩)
abbrev dd (i : Nat) (x : Str) : He.DefD := ⟨(x, none), x, x, defArgs (top i), defBody (top i), defScope (top i), [], []⟩
def fn : List He.DefD := [dd 1 "number_test", dd 2 "flag_test", dd 3 "either", dd 5 "evaluate", dd 6 "combine", dd 8 "_law_cell", dd 9 "_law_source", dd 10 "_law_pick", dd 11 "_law_one", dd 12 "_law_same", dd 13 "_law_value", dd 14 "_law_names", dd 15 "_law_inner_sort", dd 16 "_law_drawn", dd 17 "_law_parts", dd 18 "_law_deep", dd 19 "_law_around", dd 20 "_law_other", dd 21 "_law_changed", dd 22 "_law_exchanged", dd 23 "_law_two", dd 24 "_law_state", dd 25 "_law_found", dd 26 "_law_told", dd 27 "_law_right", dd 28 "law"]
def fa : List He.Fa := [.glo "number_test", .glo "flag_test", .glo "either", .glo "evaluate", .glo "combine", .glo "_law_cell", .glo "_law_source", .glo "_law_pick", .glo "_law_one", .glo "_law_same", .glo "_law_value", .glo "_law_names", .glo "_law_inner_sort", .glo "_law_drawn", .glo "_law_parts", .glo "_law_deep", .glo "_law_around", .glo "_law_other", .glo "_law_changed", .glo "_law_exchanged", .glo "_law_two", .glo "_law_state", .glo "_law_found", .glo "_law_told", .glo "_law_right", .glo "law", .free "abs", .free "bool", .free "dict", .free "int", .free "isinstance", .free "len", .free "list", .free "max", .free "range", .free "str", .free "sum", .free "tuple"]
abbrev R : PySem.W.OpenRow := PySem.W.OpenLaw.row PySem.Challenge.rw_provedfacts_k80_tests_hold_where_equal
abbrev hk : PySem.W.Hook := He.hookD 4 fa fn
def ob (s : PySem.W.SharedT) : He.AlD := He.obsDG 4 fa fn (HandSHeadRun.getT s)
theorem ob_eq (s : PySem.W.SharedT) : ob s = hk.obs s.abs := He.obsDG_eq (HandSHeadRun.getT_eq s)
def loose : List PySem.Str := ["number_test", "flag_test", "either", "evaluate", "combine", "_law_cell", "_law_source", "_law_pick", "_law_one", "_law_same", "_law_value", "_law_names", "_law_inner_sort", "_law_drawn", "_law_parts", "_law_deep", "_law_around", "_law_other", "_law_changed", "_law_exchanged", "_law_two", "_law_state", "_law_found", "_law_told", "_law_right"]
theorem run (w : World) : HandSHeadRun.RunEq R (PySem.W.view R.prog [28]) hk ob 1500 loose w := by
  intro os
  kernel_rfl
structure Facts (K : PySem.W.Frag) (mg : Str → Option Value) : Prop where
  d_number_test : Lw.At K mg "number_test" (top 1)
  d_flag_test : Lw.At K mg "flag_test" (top 2)
  d_either : Lw.At K mg "either" (top 3)
  d_evaluate : Lw.At K mg "evaluate" (top 5)
  d_combine : Lw.At K mg "combine" (top 6)
  d__law_cell : Lw.At K mg "_law_cell" (top 8)
  d__law_source : Lw.At K mg "_law_source" (top 9)
  d__law_pick : Lw.At K mg "_law_pick" (top 10)
  d__law_one : Lw.At K mg "_law_one" (top 11)
  d__law_same : Lw.At K mg "_law_same" (top 12)
  d__law_value : Lw.At K mg "_law_value" (top 13)
  d__law_names : Lw.At K mg "_law_names" (top 14)
  d__law_inner_sort : Lw.At K mg "_law_inner_sort" (top 15)
  d__law_drawn : Lw.At K mg "_law_drawn" (top 16)
  d__law_parts : Lw.At K mg "_law_parts" (top 17)
  d__law_deep : Lw.At K mg "_law_deep" (top 18)
  d__law_around : Lw.At K mg "_law_around" (top 19)
  d__law_other : Lw.At K mg "_law_other" (top 20)
  d__law_changed : Lw.At K mg "_law_changed" (top 21)
  d__law_exchanged : Lw.At K mg "_law_exchanged" (top 22)
  d__law_two : Lw.At K mg "_law_two" (top 23)
  d__law_state : Lw.At K mg "_law_state" (top 24)
  d__law_found : Lw.At K mg "_law_found" (top 25)
  d__law_told : Lw.At K mg "_law_told" (top 26)
  d__law_right : Lw.At K mg "_law_right" (top 27)
  d_law : Lw.At K mg "law" (top 28)
  z_abs : mg "abs" = none
  z_bool : mg "bool" = none
  z_dict : mg "dict" = none
  z_int : mg "int" = none
  z_isinstance : mg "isinstance" = none
  z_len : mg "len" = none
  z_list : mg "list" = none
  z_max : mg "max" = none
  z_range : mg "range" = none
  z_str : mg "str" = none
  z_sum : mg "sum" = none
  z_tuple : mg "tuple" = none
theorem facts {K : PySem.W.Frag} {h : Heap} {mg : Str → Option Value} (X : K.In h) (G : h.Ns mainGlobals mg) (c : He.SaysD fa fn K) : Facts K mg where
  d_number_test := by
    obtain ⟨fd, F⟩ := c.def_ 0 (d := dd 1 "number_test") rfl
    exact ⟨_, fd, F, He.glo_ok X G (c.fact 0 (f := .glo "number_test") rfl)⟩
  d_flag_test := by
    obtain ⟨fd, F⟩ := c.def_ 1 (d := dd 2 "flag_test") rfl
    exact ⟨_, fd, F, He.glo_ok X G (c.fact 1 (f := .glo "flag_test") rfl)⟩
  d_either := by
    obtain ⟨fd, F⟩ := c.def_ 2 (d := dd 3 "either") rfl
    exact ⟨_, fd, F, He.glo_ok X G (c.fact 2 (f := .glo "either") rfl)⟩
  d_evaluate := by
    obtain ⟨fd, F⟩ := c.def_ 3 (d := dd 5 "evaluate") rfl
    exact ⟨_, fd, F, He.glo_ok X G (c.fact 3 (f := .glo "evaluate") rfl)⟩
  d_combine := by
    obtain ⟨fd, F⟩ := c.def_ 4 (d := dd 6 "combine") rfl
    exact ⟨_, fd, F, He.glo_ok X G (c.fact 4 (f := .glo "combine") rfl)⟩
  d__law_cell := by
    obtain ⟨fd, F⟩ := c.def_ 5 (d := dd 8 "_law_cell") rfl
    exact ⟨_, fd, F, He.glo_ok X G (c.fact 5 (f := .glo "_law_cell") rfl)⟩
  d__law_source := by
    obtain ⟨fd, F⟩ := c.def_ 6 (d := dd 9 "_law_source") rfl
    exact ⟨_, fd, F, He.glo_ok X G (c.fact 6 (f := .glo "_law_source") rfl)⟩
  d__law_pick := by
    obtain ⟨fd, F⟩ := c.def_ 7 (d := dd 10 "_law_pick") rfl
    exact ⟨_, fd, F, He.glo_ok X G (c.fact 7 (f := .glo "_law_pick") rfl)⟩
  d__law_one := by
    obtain ⟨fd, F⟩ := c.def_ 8 (d := dd 11 "_law_one") rfl
    exact ⟨_, fd, F, He.glo_ok X G (c.fact 8 (f := .glo "_law_one") rfl)⟩
  d__law_same := by
    obtain ⟨fd, F⟩ := c.def_ 9 (d := dd 12 "_law_same") rfl
    exact ⟨_, fd, F, He.glo_ok X G (c.fact 9 (f := .glo "_law_same") rfl)⟩
  d__law_value := by
    obtain ⟨fd, F⟩ := c.def_ 10 (d := dd 13 "_law_value") rfl
    exact ⟨_, fd, F, He.glo_ok X G (c.fact 10 (f := .glo "_law_value") rfl)⟩
  d__law_names := by
    obtain ⟨fd, F⟩ := c.def_ 11 (d := dd 14 "_law_names") rfl
    exact ⟨_, fd, F, He.glo_ok X G (c.fact 11 (f := .glo "_law_names") rfl)⟩
  d__law_inner_sort := by
    obtain ⟨fd, F⟩ := c.def_ 12 (d := dd 15 "_law_inner_sort") rfl
    exact ⟨_, fd, F, He.glo_ok X G (c.fact 12 (f := .glo "_law_inner_sort") rfl)⟩
  d__law_drawn := by
    obtain ⟨fd, F⟩ := c.def_ 13 (d := dd 16 "_law_drawn") rfl
    exact ⟨_, fd, F, He.glo_ok X G (c.fact 13 (f := .glo "_law_drawn") rfl)⟩
  d__law_parts := by
    obtain ⟨fd, F⟩ := c.def_ 14 (d := dd 17 "_law_parts") rfl
    exact ⟨_, fd, F, He.glo_ok X G (c.fact 14 (f := .glo "_law_parts") rfl)⟩
  d__law_deep := by
    obtain ⟨fd, F⟩ := c.def_ 15 (d := dd 18 "_law_deep") rfl
    exact ⟨_, fd, F, He.glo_ok X G (c.fact 15 (f := .glo "_law_deep") rfl)⟩
  d__law_around := by
    obtain ⟨fd, F⟩ := c.def_ 16 (d := dd 19 "_law_around") rfl
    exact ⟨_, fd, F, He.glo_ok X G (c.fact 16 (f := .glo "_law_around") rfl)⟩
  d__law_other := by
    obtain ⟨fd, F⟩ := c.def_ 17 (d := dd 20 "_law_other") rfl
    exact ⟨_, fd, F, He.glo_ok X G (c.fact 17 (f := .glo "_law_other") rfl)⟩
  d__law_changed := by
    obtain ⟨fd, F⟩ := c.def_ 18 (d := dd 21 "_law_changed") rfl
    exact ⟨_, fd, F, He.glo_ok X G (c.fact 18 (f := .glo "_law_changed") rfl)⟩
  d__law_exchanged := by
    obtain ⟨fd, F⟩ := c.def_ 19 (d := dd 22 "_law_exchanged") rfl
    exact ⟨_, fd, F, He.glo_ok X G (c.fact 19 (f := .glo "_law_exchanged") rfl)⟩
  d__law_two := by
    obtain ⟨fd, F⟩ := c.def_ 20 (d := dd 23 "_law_two") rfl
    exact ⟨_, fd, F, He.glo_ok X G (c.fact 20 (f := .glo "_law_two") rfl)⟩
  d__law_state := by
    obtain ⟨fd, F⟩ := c.def_ 21 (d := dd 24 "_law_state") rfl
    exact ⟨_, fd, F, He.glo_ok X G (c.fact 21 (f := .glo "_law_state") rfl)⟩
  d__law_found := by
    obtain ⟨fd, F⟩ := c.def_ 22 (d := dd 25 "_law_found") rfl
    exact ⟨_, fd, F, He.glo_ok X G (c.fact 22 (f := .glo "_law_found") rfl)⟩
  d__law_told := by
    obtain ⟨fd, F⟩ := c.def_ 23 (d := dd 26 "_law_told") rfl
    exact ⟨_, fd, F, He.glo_ok X G (c.fact 23 (f := .glo "_law_told") rfl)⟩
  d__law_right := by
    obtain ⟨fd, F⟩ := c.def_ 24 (d := dd 27 "_law_right") rfl
    exact ⟨_, fd, F, He.glo_ok X G (c.fact 24 (f := .glo "_law_right") rfl)⟩
  d_law := by
    obtain ⟨fd, F⟩ := c.def_ 25 (d := dd 28 "law") rfl
    exact ⟨_, fd, F, He.glo_ok X G (c.fact 25 (f := .glo "law") rfl)⟩
  z_abs := He.free_ok X G (c.fact 26 (f := .free "abs") rfl)
  z_bool := He.free_ok X G (c.fact 27 (f := .free "bool") rfl)
  z_dict := He.free_ok X G (c.fact 28 (f := .free "dict") rfl)
  z_int := He.free_ok X G (c.fact 29 (f := .free "int") rfl)
  z_isinstance := He.free_ok X G (c.fact 30 (f := .free "isinstance") rfl)
  z_len := He.free_ok X G (c.fact 31 (f := .free "len") rfl)
  z_list := He.free_ok X G (c.fact 32 (f := .free "list") rfl)
  z_max := He.free_ok X G (c.fact 33 (f := .free "max") rfl)
  z_range := He.free_ok X G (c.fact 34 (f := .free "range") rfl)
  z_str := He.free_ok X G (c.fact 35 (f := .free "str") rfl)
  z_sum := He.free_ok X G (c.fact 36 (f := .free "sum") rfl)
  z_tuple := He.free_ok X G (c.fact 37 (f := .free "tuple") rfl)
end K80


set_option Elab.async false
set_option linter.all false
set_option maxRecDepth 100000
set_option maxHeartbeats 4000000
/-! heaps: what is kept -/
namespace Lw
open PySem PySem.Spec PyProof.Rows L2
/-- all that stood stands as it was, but the objects at S -/
def Kp (S : List Addr) (H H' : Hp) : Prop := ∀ b o, H b = some o → b ∉ S → H' b = some o
theorem Kp.refl {S : List Addr} (H : Hp) : Kp S H H := fun _ _ e _ => e
theorem Kp.mono {S S' : List Addr} {H H' : Hp} (k : Kp S H H') (h : ∀ b ∈ S, b ∈ S') : Kp S' H H' := fun b o e n => k b o e fun z => n (h b z)
theorem Kp.trans {S : List Addr} {H H1 H2 : Hp} (a : Kp S H H1) (b : Kp S H1 H2) : Kp S H H2 := fun c o e n => b c o (a c o e n) n
/-- what was not there ahead does not count -/
theorem Kp.drop {S : List Addr} {H H' : Hp} {p : Addr} (k : Kp (p :: S) H H') (h : H p = none) : Kp S H H' := fun b o e n => k b o e fun z => by
  rcases List.mem_cons.mp z with z | z
  · rw [z, h] at e
    cases e
  · exact n z
theorem Kp.new {S : List Addr} {H : Hp} {p : Addr} {o : HO} (h : H p = none) : Kp S H (upd H p o) := fun b u e _ => by
  rw [upd_ne (ne_of_none e h)]
  exact e
theorem Kp.at_ {S : List Addr} {H : Hp} {p : Addr} {o : HO} (h : p ∈ S) : Kp S H (upd H p o) := fun b u e n => by
  rw [upd_ne fun z => n (by rw [z]; exact h)]
  exact e
theorem Kp.same {H H' : Hp} (k : Kp [] H H') : Same H H' := fun b o e => k b o e (by simp)
theorem Kp.of {S : List Addr} {H H' : Hp} (k : Same H H') : Kp S H H' := fun b o e _ => k b o e
theorem sql_keep {K : PySem.W.Frag} {H H' : Hp} {S : List Addr} {l : Addr} {xs : List V} (h : SqL K H l xs) (k : Kp S H H') (n : l ∉ S) : SqL K H' l xs := by
  rcases h with (h | ⟨o, h⟩) | h
  · exact .inl (.inl (k _ _ h n))
  · exact .inl (.inr ⟨o, k _ _ h n⟩)
  · exact .inr h
theorem hu0 {A : Around} {k : Nat} (hr : Room k A) : A.units < cLine := Nat.lt_of_le_of_lt (Nat.le_add_right _ 1) (hu_of hr)
end Lw
namespace K80
open PySem PySem.Spec PyProof.Rows L2 Lw
/-! the names of each def, by slot -/
theorem sc_number_test : FnScope ["e", "f", "whole"] ["e", "f"] (defScope (top 1)) := ⟨rfl, rfl, rfl, by decide +kernel, rfl, by decide +kernel, by decide +kernel⟩
theorem sc_flag_test : FnScope ["e", "f", "whole"] ["e", "f"] (defScope (top 2)) := ⟨rfl, rfl, rfl, by decide +kernel, rfl, by decide +kernel, by decide +kernel⟩
theorem sc_either : FnScope ["whole", "first", "second"] ["whole", "first", "second"] (defScope (top 3)) := ⟨rfl, rfl, rfl, by decide +kernel, rfl, by decide +kernel, by decide +kernel⟩
theorem sc_evaluate : FnScope ["expression", "values", "word"] ["expression", "values"] (defScope (top 5)) := ⟨rfl, rfl, rfl, by decide +kernel, rfl, by decide +kernel, by decide +kernel⟩
theorem sc_combine : FnScope ["word", "left", "right"] ["word", "left", "right"] (defScope (top 6)) := ⟨rfl, rfl, rfl, by decide +kernel, rfl, by decide +kernel, by decide +kernel⟩
theorem sc__law_cell : FnScope ["script", "at"] ["script", "at"] (defScope (top 8)) := ⟨rfl, rfl, rfl, by decide +kernel, rfl, by decide +kernel, by decide +kernel⟩
theorem sc__law_source : FnScope ["cell"] ["cell"] (defScope (top 9)) := ⟨rfl, rfl, rfl, by decide +kernel, rfl, by decide +kernel, by decide +kernel⟩
theorem sc__law_pick : FnScope ["source", "size", "k", "digit", "mixed"] ["source", "size"] (defScope (top 10)) := ⟨rfl, rfl, rfl, by decide +kernel, rfl, by decide +kernel, by decide +kernel⟩
theorem sc__law_one : FnScope ["source", "row"] ["source", "row"] (defScope (top 11)) := ⟨rfl, rfl, rfl, by decide +kernel, rfl, by decide +kernel, by decide +kernel⟩
theorem sc__law_same : FnScope ["actual", "due", "k"] ["actual", "due"] (defScope (top 12)) := ⟨rfl, rfl, rfl, by decide +kernel, rfl, by decide +kernel, by decide +kernel⟩
theorem sc__law_value : FnScope ["expression", "env", "sign", "left", "right"] ["expression", "env"] (defScope (top 13)) := ⟨rfl, rfl, rfl, by decide +kernel, rfl, by decide +kernel, by decide +kernel⟩
theorem sc__law_names : FnScope ["source", "lists", "row"] ["source"] (defScope (top 14)) := ⟨rfl, rfl, rfl, by decide +kernel, rfl, by decide +kernel, by decide +kernel⟩
theorem sc__law_inner_sort : FnScope ["word"] ["word"] (defScope (top 15)) := ⟨rfl, rfl, rfl, by decide +kernel, rfl, by decide +kernel, by decide +kernel⟩
theorem sc__law_drawn : FnScope ["source", "names", "sort", "room", "deep", "choice", "word", "first"] ["source", "names", "sort", "room", "deep"] (defScope (top 16)) := ⟨rfl, rfl, rfl, by decide +kernel, rfl, by decide +kernel, by decide +kernel⟩
theorem sc__law_parts : FnScope ["expression", "part"] ["expression"] (defScope (top 17)) := ⟨rfl, rfl, rfl, by decide +kernel, rfl, by decide +kernel, by decide +kernel⟩
theorem sc__law_deep : FnScope ["expression", "inner", "part"] ["expression"] (defScope (top 18)) := ⟨rfl, rfl, rfl, by decide +kernel, rfl, by decide +kernel, by decide +kernel⟩
theorem sc__law_around : FnScope ["source", "expression", "sort", "rows"] ["source", "expression", "sort"] (defScope (top 19)) := ⟨rfl, rfl, rfl, by decide +kernel, rfl, by decide +kernel, by decide +kernel⟩
theorem sc__law_other : FnScope ["source", "names", "expression", "sort", "way", "word", "row"] ["source", "names", "expression", "sort"] (defScope (top 20)) := ⟨rfl, rfl, rfl, by decide +kernel, rfl, by decide +kernel, by decide +kernel⟩
theorem sc__law_changed : FnScope ["source", "names", "expression", "sort", "at", "made", "part", "kept", "many"] ["source", "names", "expression", "sort", "at"] (defScope (top 21)) := ⟨rfl, rfl, rfl, by decide +kernel, rfl, by decide +kernel, by decide +kernel⟩
theorem sc__law_exchanged : FnScope ["names", "expression", "sort", "row", "made", "part", "kept"] ["names", "expression"] (defScope (top 22)) := ⟨rfl, rfl, rfl, by decide +kernel, rfl, by decide +kernel, by decide +kernel⟩
theorem sc__law_two : FnScope ["source", "names", "sort", "large", "deep", "first", "choice", "other", "turn", "made"] ["source", "names", "sort", "large"] (defScope (top 23)) := ⟨rfl, rfl, rfl, by decide +kernel, rfl, by decide +kernel, by decide +kernel⟩
theorem sc__law_state : FnScope ["source", "names", "env", "low", "alike", "name", "near", "sort"] ["source", "names"] (defScope (top 24)) := ⟨rfl, rfl, rfl, by decide +kernel, rfl, by decide +kernel, by decide +kernel⟩
theorem sc__law_found : FnScope ["source", "names", "e", "f", "equal", "env", "turn", "value"] ["source", "names", "e", "f", "equal"] (defScope (top 25)) := ⟨rfl, rfl, rfl, by decide +kernel, rfl, by decide +kernel, by decide +kernel⟩
theorem sc__law_told : FnScope ["sort", "e", "f"] ["sort", "e", "f"] (defScope (top 26)) := ⟨rfl, rfl, rfl, by decide +kernel, rfl, by decide +kernel, by decide +kernel⟩
theorem sc__law_right : FnScope ["sort", "e", "f", "envs", "env", "one", "own", "pair", "test", "due", "kept"] ["sort", "e", "f", "envs"] (defScope (top 27)) := ⟨rfl, rfl, rfl, by decide +kernel, rfl, by decide +kernel, by decide +kernel⟩
theorem sc_law : FnScope ["script", "asked", "at", "source", "names", "large", "k", "sort", "e", "f", "envs", "turn", "row"] ["script"] (defScope (top 28)) := ⟨rfl, rfl, rfl, by decide +kernel, rfl, by decide +kernel, by decide +kernel⟩
section
variable {P : Program} {w : World} {K : PySem.W.Frag} {mg : Str → Option Value} {base : Heap} (T : Facts K mg)
include T
/-! ### the source of draws -/
def srcL (c d k : Int) : List V := [.int c, .int d, .int k]
/-- a source stands at p -/
def Src (H : Hp) (p : Addr) : Prop := ∃ c d k, H p = some (.lst (srcL c d k))
def sp_cell (K : PySem.W.Frag) : Sp := fun vs H Q _ => ∃ (a : Addr) (ns : List Int) (i : Nat), vs = [.ref a, .int i] ∧ SqL K H a (ns.map V.int) ∧ ∀ r : Int, Q (.int r) H
theorem ok_cell : Df P w K mg base 1 "_law_cell" ["script", "at"] (sp_cell K) := by
  refine Lw.Df.mk (T.d__law_cell) sc__law_cell (fun _ _ _ _ _ _ us hl => match us, hl with | [_, _], _ => rfl) (fun vs H Q E h => ?_) (fun f cdv A outer s H vs Q E hr h => ?_)
  · obtain ⟨a, ns, i, rfl, _⟩ := h
    rfl
  have sc := sc__law_cell
  obtain ⟨a, ns, i, rfl, hS, q⟩ := h
  refine ⟨_, (pss_cons (ps_if (pt_cmpR op_lt (pv 1) (pe_callB call_len_seq (by rfl) T.z_len boot_len (pa_cons (pv 0) pa_nil)) (nomark _))
(pss_one (ps_ret (pe_ix ix_list (pv 0) (pv 1) (fun _ _ => rfl))))
pss_nil)
(pss_one (ps_ret pe_int))), ?_⟩
  refine ⟨_, rfl, _, rfl, a, _, rfl, .inl hS, _, _, rfl, rfl, _, rfl, ite2 (fun c => ?_) (fun c => ?_)⟩
  · have c' : (i : Int) < (((ns.map V.int).length : Nat) : Int) := of_decide_eq_true c
    have h1 : i < (ns.map V.int).length := by omega
    rw [List.length_map] at h1
    exact ⟨_, rfl, _, rfl, a, _, _, .int (ns[i]), rfl, rfl, hS, atI_nat (by rw [List.getElem?_map, List.getElem?_eq_getElem h1]; rfl), q _⟩
  · exact q _
def sp_source : Sp := fun vs H Q _ => ∃ c : Int, vs = [.int c] ∧ ∀ p, H p = none → Q (.ref p) (upd H p (.lst (srcL c c 0)))
theorem ok_source : Df P w K mg base 1 "_law_source" ["cell"] sp_source := by
  refine Lw.Df.mk (T.d__law_source) sc__law_source (fun _ _ _ _ _ _ us hl => match us, hl with | [_], _ => rfl) (fun vs H Q E h => ?_) (fun f cdv A outer s H vs Q E hr h => ?_)
  · obtain ⟨c, rfl, _⟩ := h
    rfl
  have sc := sc__law_source
  obtain ⟨c, rfl, q⟩ := h
  refine ⟨_, (pss_one (ps_ret (pe_lst (pa_cons (pv 0) (pa_cons (pv 0) (pa_cons pe_int pa_nil)))))), ?_⟩
  exact ⟨_, rfl, _, rfl, (by show 3 ≤ sizeLine; decide), q⟩
/-- a draw below size -/
def sp_pick : Sp := fun vs H Q _ => ∃ (p : Addr) (c d k n : Int), vs = [.ref p, .int n] ∧ H p = some (.lst (srcL c d k)) ∧ n < 2 ^ 60 ∧
  ∀ r d' : Int, 0 ≤ r → (r < n ∨ (n < 2 ∧ r = 0)) → Q (.int r) (upd H p (.lst (srcL c d' (k + 1))))
theorem at_ix {xs : List V} {i : Nat} {v : V} (h : xs[i]? = some v) : atI xs (i : Int) = some v := atI_nat h
theorem ok_pick : Df P w K mg base 1 "_law_pick" ["source", "size"] sp_pick := by
  refine Lw.Df.mk (T.d__law_pick) sc__law_pick (fun _ _ _ _ _ _ us hl => match us, hl with | [_, _], _ => rfl) (fun vs H Q E h => ?_) (fun f cdv A outer s H vs Q E hr h => ?_)
  · obtain ⟨p, c, d, k, n, rfl, _⟩ := h
    rfl
  have sc := sc__law_pick
  obtain ⟨p, c, d, k, n, rfl, hp, hn, q⟩ := h
  refine ⟨_, (pss_cons (ps_set (i := 2) sc.nd rfl (by first | exact Or.inl rfl | exact Or.inr rfl) (pe_ix ix_list (pv 0) pe_int (fun _ _ => rfl)))
(pss_cons (ps_asg (pe_op op_add (pv 2) pe_int) (pg_sub (pv 0) pe_int set_list))
(pss_cons (ps_if (pt_cmpR op_lt (pv 1) pe_int (nomark _))
(pss_one (ps_ret pe_int))
pss_nil)
(pss_cons (ps_if (PW.pt (pw_and (pt_cmpR op_ge (pe_ix ix_list (pv 0) pe_int (fun _ _ => rfl)) (pe_op op_pow pe_int pe_int) (nomark _)) (pw_and1 (pt_cmpR op_gt (pe_ix ix_list (pv 0) pe_int (fun _ _ => rfl)) pe_int (nomark _)))))
(pss_cons (ps_set (i := 3) sc.nd rfl (by first | exact Or.inl rfl | exact Or.inr rfl) (pe_op op_mod (pe_callTy call_int1 (by rfl) T.z_int boot_int (pa_cons (pe_ix ix_list (pv 0) pe_int (fun _ _ => rfl)) pa_nil)) (pv 1)))
(pss_cons (ps_asg (pe_op op_fdivW (pe_ix ix_list (pv 0) pe_int (fun _ _ => rfl)) (pv 1)) (pg_sub (pv 0) pe_int set_list))
(pss_one (ps_ret (pv 3)))))
pss_nil)
(pss_cons (ps_set (i := 4) sc.nd rfl (by first | exact Or.inl rfl | exact Or.inr rfl) (pe_op op_mod (pe_callTy call_int1 (by rfl) T.z_int boot_int (pa_cons (pe_op op_add (pe_op op_add (pe_ix ix_list (pv 0) pe_int (fun _ _ => rfl)) (pe_op op_mul pe_int (pv 2))) pe_int) pa_nil)) pe_int))
(pss_cons (ps_set (i := 4) sc.nd rfl (by first | exact Or.inl rfl | exact Or.inr rfl) (pe_op op_mod (pe_callTy call_int1 (by rfl) T.z_int boot_int (pa_cons (pe_op op_mul (pv 4) (pe_op op_add (pv 4) pe_int)) pa_nil)) pe_int))
(pss_cons (ps_set (i := 4) sc.nd rfl (by first | exact Or.inl rfl | exact Or.inr rfl) (pe_op op_mod (pe_callTy call_int1 (by rfl) T.z_int boot_int (pa_cons (pe_op op_add (pe_op op_mul (pv 4) (pe_op op_add (pv 4) pe_int)) (pe_op op_mul pe_int (pv 2))) pa_nil)) pe_int))
(pss_one (ps_ret (pe_op op_mod (pe_callTy call_int1 (by rfl) T.z_int boot_int (pa_cons (pe_op op_fdivW (pv 4) pe_int) pa_nil)) (pv 1))))))))))), ?_⟩
  -- k = source[2]; source[2] = k + 1
  refine ⟨_, rfl, p, _, _, .int k, rfl, rfl, SqL.of hp, atI_nat (j := 2) rfl, ?_⟩
  refine ⟨_, rfl, _, _, rfl, rfl, _, rfl, p, _, _, 2, rfl, rfl, hp, rfl, ?_⟩
  have h1 : (upd H p (.lst (srcL c d (k + 1)))) p = some (.lst (srcL c d (k + 1))) := upd_same
  -- if size < 2
  refine ⟨_, rfl, _, _, rfl, rfl, _, rfl, ite2 (fun e => ?_) (fun e => ?_)⟩
  · exact q 0 d (Int.le_refl 0) (.inr ⟨of_decide_eq_true e, rfl⟩)
  have e2 : 2 ≤ n := by have := of_decide_eq_false (Bool.eq_false_iff.mpr e); omega
  have hd9 : n.natAbs.log2 < 9000 := by
    have h2 : n.natAbs < 2 ^ 60 := by omega
    have h3 : n.natAbs.log2 < 60 := (Nat.log2_lt (by omega)).mpr h2
    omega
  -- if source[0] >= 10 ** 18 and source[1] > 0
  refine ⟨_, rfl, p, _, _, .int c, rfl, rfl, SqL.of h1, atI_nat (j := 0) rfl, _, _, rfl, rfl, ⟨by decide, by decide, by decide⟩, _, _, rfl, rfl, _, rfl, ?_⟩
  refine ite2 (fun e => ⟨_, rfl, p, _, _, .int d, rfl, rfl, SqL.of h1, atI_nat (j := 1) rfl, _, _, rfl, rfl, _, rfl, ite2 (fun e2 => ?dig) (fun e2 => ?mixA)⟩) (fun e => ?mixB)
  case dig =>
    refine ⟨_, rfl, p, _, _, .int d, rfl, rfl, SqL.of h1, atI_nat (j := 1) rfl, .inl ⟨_, rfl, _, rfl, _, _, rfl, rfl, (by show 0 < n; omega), ?_⟩⟩
    refine ⟨_, rfl, p, _, _, .int d, rfl, rfl, SqL.of h1, atI_nat (j := 1) rfl, _, rfl, _, _, rfl, rfl, ⟨by omega, hd9⟩, _, rfl, p, _, _, 1, rfl, rfl, h1, rfl, ?_⟩
    have z := q (d % n) (d / n) (Int.emod_nonneg _ (by omega)) (.inl (Int.emod_lt_of_pos _ (by omega)))
    refine ⟨_, rfl, ?_⟩
    rw [upd_upd]
    exact z
  all_goals
    refine ⟨_, rfl, p, _, _, .int c, rfl, rfl, SqL.of h1, atI_nat (j := 0) rfl, _, rfl, _, _, rfl, rfl, .inl ⟨by decide, by decide⟩, _, _, rfl, rfl, _, _, rfl, rfl, .inl ⟨_, rfl, _, _, rfl, rfl, (by show (0 : Int) < 2147483647; decide), ?_⟩⟩
    generalize hm1 : (c + 7919 * k + 13) % 2147483647 = m1
    have b1 : 0 ≤ m1 := by omega
    have b2 : m1 < 2147483647 := by omega
    refine ⟨_, rfl, _, rfl, _, _, rfl, rfl, _, _, rfl, rfl, .inl ⟨by omega, by omega⟩, .inl ⟨_, rfl, _, _, rfl, rfl, (by show (0 : Int) < 2147483629; decide), ?_⟩⟩
    generalize hm2 : (m1 * (m1 + 48271)) % 2147483629 = m2
    have b3 : 0 ≤ m2 := by omega
    have b4 : m2 < 2147483629 := by omega
    refine ⟨_, rfl, _, rfl, _, _, rfl, rfl, _, _, rfl, rfl, .inl ⟨by omega, by omega⟩, _, rfl, _, _, rfl, rfl, .inl ⟨by decide, by decide⟩, _, _, rfl, rfl, .inl ⟨_, rfl, _, _, rfl, rfl, (by show (0 : Int) < 2147483647; decide), ?_⟩⟩
    generalize hm3 : (m2 * (m2 + 69621) + 31 * k) % 2147483647 = m3
    refine ⟨_, rfl, _, _, rfl, rfl, ⟨by decide, by decide⟩, .inl ⟨_, rfl, _, rfl, _, _, rfl, rfl, (by show 0 < n; omega), ?_⟩⟩
    exact q _ d (Int.emod_nonneg _ (by omega)) (.inl (Int.emod_lt_of_pos _ (by omega)))
/-- an item of a list of so many items -/
def sp_one (K : PySem.W.Frag) : Sp := fun vs H Q _ => ∃ (p l : Addr) (xs : List V), vs = [.ref p, .ref l] ∧ Src H p ∧ SqL K H l xs ∧ xs ≠ [] ∧ xs.length < 1000000 ∧ l ≠ p ∧
  ∀ (v : V) (H' : Hp), v ∈ xs → Src H' p → Kp [p] H H' → Q v H'
theorem ok_one : Df P w K mg base 2 "_law_one" ["source", "row"] (sp_one K) := by
  refine Lw.Df.mk (T.d__law_one) sc__law_one (fun _ _ _ _ _ _ us hl => match us, hl with | [_, _], _ => rfl) (fun vs H Q E h => ?_) (fun f cdv A outer s H vs Q E hr h => ?_)
  · obtain ⟨p, l, xs, rfl, _⟩ := h
    rfl
  have sc := sc__law_one
  have D__law_pick := ok_pick (P := P) (w := w) (base := base) T
  obtain ⟨p, l, xs, rfl, ⟨c, d, k, hp⟩, hS, hne, hz, hlp, q⟩ := h
  refine ⟨_, (pss_one (ps_ret (pe_ix ix_list (pv 1) (Lw.pe_d D__law_pick (hr.mono (by omega)) (pa_cons (pv 0) (pa_cons (pe_callB call_len_seq (by rfl) T.z_len boot_len (pa_cons (pv 1) pa_nil)) pa_nil))) (fun _ _ => rfl)))), ?_⟩
  refine ⟨_, rfl, _, rfl, _, rfl, l, _, rfl, .inl hS, p, c, d, k, _, rfl, hp, (by omega), fun r d' h0 h1 => ?_⟩
  have hl : 0 < xs.length := List.length_pos_iff.mpr hne
  have hk : Kp [p] H (upd H p (.lst (srcL c d' (k + 1)))) := Kp.at_ (by simp)
  have hr1 : r.toNat < xs.length := by omega
  refine ⟨l, xs, r, xs[r.toNat], rfl, rfl, sql_keep hS hk (by simpa using hlp), ?_, ?_⟩
  · exact at_of (j := r.toNat) (by omega) (List.getElem?_eq_getElem hr1)
  · exact q _ _ (List.getElem_mem hr1) ⟨c, d', k + 1, upd_same⟩ hk
end
end K80


set_option Elab.async false
set_option linter.all false
set_option maxRecDepth 100000
set_option maxHeartbeats 4000000
/-! the plain law: expressions, what they are worth, the tests -/
namespace K80
open PySem L2
inductive So where
  | num | flag | ref
  deriving DecidableEq
inductive Wd where
  | add | sub | mul | lt | le | eq | ne | and | or | same
  deriving DecidableEq
def So.str : So → Str
  | .num => "num"
  | .flag => "flag"
  | .ref => "ref"
def Wd.str : Wd → Str
  | .add => "+"
  | .sub => "-"
  | .mul => "*"
  | .lt => "<"
  | .le => "<="
  | .eq => "=="
  | .ne => "!="
  | .and => "and"
  | .or => "or"
  | .same => "same"
/-- the sort of the parts, of the whole -/
def Wd.inner : Wd → So
  | .add | .sub | .mul | .lt | .le | .eq | .ne => .num
  | .and | .or => .flag
  | .same => .ref
def Wd.outer : Wd → So
  | .add | .sub | .mul => .num
  | _ => .flag
inductive Ex where
  | null
  | name (n : Str)
  | num (i : Int)
  | flag (b : Bool)
  | un (a : Ex)
  | bin (w : Wd) (a b : Ex)
  deriving DecidableEq
def Ex.depth : Ex → Nat
  | .un a => a.depth + 1
  | .bin _ a b => max a.depth b.depth + 1
  | _ => 0
/-- how many bits -/
def Ex.bnd : Ex → Nat
  | .un a => a.bnd
  | .bin _ a b => a.bnd + b.bnd + 1
  | _ => 31
/-- every product's bits are few -/
def Ex.Sm : Ex → Prop
  | .un a => a.Sm
  | .bin w a b => a.Sm ∧ b.Sm ∧ (w.outer = .num → a.bnd + b.bnd < 900000)
  | _ => True
inductive Wt (nm : So → List Str) : So → Ex → Prop
  | null : Wt nm .ref .null
  | name {s : So} {n : Str} : n ∈ nm s → Wt nm s (.name n)
  | num {i : Int} : i.natAbs < 2 ^ 31 → Wt nm .num (.num i)
  | flag {b : Bool} : Wt nm .flag (.flag b)
  | un {a : Ex} : Wt nm .flag a → Wt nm .flag (.un a)
  | bin {w : Wd} {a b : Ex} : Wt nm w.inner a → Wt nm w.inner b → Wt nm w.outer (.bin w a b)
theorem wt_bin {nm : So → List Str} {s : So} {w : Wd} {a b : Ex} (h : Wt nm s (.bin w a b)) : s = w.outer ∧ Wt nm w.inner a ∧ Wt nm w.inner b := by
  cases h with
  | bin p q => exact ⟨rfl, p, q⟩
theorem wt_un {nm : So → List Str} {s : So} {a : Ex} (h : Wt nm s (.un a)) : s = .flag ∧ Wt nm .flag a := by
  cases h with
  | un p => exact ⟨rfl, p⟩
def notV : V → V
  | .bl b => .bl (!b)
  | v => v
def opV : Wd → V → V → V
  | .add, .int i, .int j => .int (i + j)
  | .sub, .int i, .int j => .int (i - j)
  | .mul, .int i, .int j => .int (i * j)
  | .lt, .int i, .int j => .bl (decide (i < j))
  | .le, .int i, .int j => .bl (decide (i ≤ j))
  | .ne, x, y => .bl (!decide (x = y))
  | .and, .bl a, .bl b => .bl (a && b)
  | .or, .bl a, .bl b => .bl (a || b)
  | _, x, y => .bl (decide (x = y))
def Ex.val (ρ : Str → V) : Ex → V
  | .null => .non
  | .name n => ρ n
  | .num i => .int i
  | .flag b => .bl b
  | .un a => notV (a.val ρ)
  | .bin w a b => opV w (a.val ρ) (b.val ρ)
/-- a value of the sort, of so many bits -/
def Ok (s : So) (n : Nat) (v : V) : Prop := match s with
  | .num => ∃ i : Int, v = .int i ∧ i.natAbs < 2 ^ n
  | .flag => ∃ b, v = .bl b
  | .ref => v = .non ∨ ∃ i : Int, v = .int i
def EnvOk (nm : So → List Str) (ρ : Str → V) : Prop := ∀ s n, n ∈ nm s → Ok s 31 (ρ n)
theorem pow_le {a b : Nat} (h : a ≤ b) : 2 ^ a ≤ 2 ^ b := Nat.pow_le_pow_right (by decide) h
theorem op_ok {w : Wd} {x y : V} {m n : Nat} (hx : Ok w.inner m x) (hy : Ok w.inner n y) : Ok w.outer (m + n + 1) (opV w x y) := by
  have add : ∀ a b : Nat, a < 2 ^ m → b < 2 ^ n → a + b < 2 ^ (m + n + 1) := fun a b h1 h2 => by
    have h3 : 2 ^ m ≤ 2 ^ (m + n) := pow_le (by omega)
    have h4 : 2 ^ n ≤ 2 ^ (m + n) := pow_le (by omega)
    have h5 : 2 ^ (m + n + 1) = 2 ^ (m + n) * 2 := Nat.pow_succ ..
    omega
  have mul : ∀ a b : Nat, a < 2 ^ m → b < 2 ^ n → a * b < 2 ^ (m + n + 1) := fun a b h1 h2 => by
    have h3 : a * b ≤ 2 ^ m * 2 ^ n := Nat.mul_le_mul (Nat.le_of_lt h1) (Nat.le_of_lt h2)
    have h4 : 2 ^ m * 2 ^ n = 2 ^ (m + n) := (Nat.pow_add ..).symm
    have h5 : 2 ^ (m + n + 1) = 2 ^ (m + n) * 2 := Nat.pow_succ ..
    have h6 : 0 < 2 ^ (m + n) := Nat.pow_pos (by decide)
    omega
  cases w with
  | add =>
    obtain ⟨i, rfl, h1⟩ := hx
    obtain ⟨j, rfl, h2⟩ := hy
    have := add _ _ h1 h2
    exact ⟨i + j, rfl, by omega⟩
  | sub =>
    obtain ⟨i, rfl, h1⟩ := hx
    obtain ⟨j, rfl, h2⟩ := hy
    have := add _ _ h1 h2
    exact ⟨i - j, rfl, by omega⟩
  | mul =>
    obtain ⟨i, rfl, h1⟩ := hx
    obtain ⟨j, rfl, h2⟩ := hy
    refine ⟨i * j, rfl, ?_⟩
    rw [Int.natAbs_mul]
    exact mul _ _ h1 h2
  | lt =>
    obtain ⟨i, rfl, h1⟩ := hx
    obtain ⟨j, rfl, h2⟩ := hy
    exact ⟨_, rfl⟩
  | le =>
    obtain ⟨i, rfl, h1⟩ := hx
    obtain ⟨j, rfl, h2⟩ := hy
    exact ⟨_, rfl⟩
  | eq => exact ⟨_, rfl⟩
  | ne => exact ⟨_, rfl⟩
  | and =>
    obtain ⟨i, rfl⟩ := hx
    obtain ⟨j, rfl⟩ := hy
    exact ⟨_, rfl⟩
  | or =>
    obtain ⟨i, rfl⟩ := hx
    obtain ⟨j, rfl⟩ := hy
    exact ⟨_, rfl⟩
  | same => exact ⟨_, rfl⟩
theorem val_ok {nm : So → List Str} {ρ : Str → V} (he : EnvOk nm ρ) : ∀ {s : So} {e : Ex}, Wt nm s e → Ok s e.bnd (e.val ρ)
  | _, _, .null => .inl rfl
  | s, .name n, .name h => he s n h
  | _, _, .num h => ⟨_, rfl, h⟩
  | _, _, .flag => ⟨_, rfl⟩
  | _, .un a, .un h => by
    obtain ⟨b, hb⟩ := val_ok he h
    refine ⟨!b, ?_⟩
    show notV (a.val ρ) = _
    rw [hb]
    rfl
  | _, .bin w a b, .bin h1 h2 => op_ok (val_ok he h1) (val_ok he h2)
theorem val_bl {nm : So → List Str} {ρ : Str → V} (he : EnvOk nm ρ) {e : Ex} (h : Wt nm .flag e) : ∃ b, e.val ρ = .bl b := val_ok he h
theorem val_int {nm : So → List Str} {ρ : Str → V} (he : EnvOk nm ρ) {e : Ex} (h : Wt nm .num e) : ∃ i, e.val ρ = .int i := by
  obtain ⟨i, e1, _⟩ := val_ok he h
  exact ⟨i, e1⟩
/-! ### the tests -/
def either (whole a b : Ex) : Ex := .bin .or whole (.bin .and a b)
def Wd.isArith (w : Wd) : Bool := w == .add || w == .sub || w == .mul
def Wd.isCmp (w : Wd) : Bool := w == .lt || w == .le || w == .eq || w == .ne
def Wd.isLogic (w : Wd) : Bool := w == .and || w == .or
def numTest : Ex → Ex → Ex
  | .bin w a b, .bin u c d => if w = u ∧ w.isArith then either (.bin .eq (.bin w a b) (.bin u c d)) (numTest a c) (numTest b d) else .bin .eq (.bin w a b) (.bin u c d)
  | e, f => .bin .eq e f
def wholeF (e f : Ex) : Ex := .bin .or (.bin .and e f) (.bin .and (.un e) (.un f))
def flagTest : Ex → Ex → Ex
  | .un a, .un b => flagTest a b
  | .bin w a b, .bin u c d =>
    if w = u ∧ w.isCmp then either (wholeF (.bin w a b) (.bin u c d)) (numTest a c) (numTest b d)
    else if w = u ∧ w.isLogic then either (wholeF (.bin w a b) (.bin u c d)) (flagTest a c) (flagTest b d)
    else wholeF (.bin w a b) (.bin u c d)
  | e, f => wholeF e f
theorem num_test {nm : So → List Str} {ρ : Str → V} (he : EnvOk nm ρ) : ∀ (e f : Ex), Wt nm .num e → Wt nm .num f → (numTest e f).val ρ = .bl (decide (e.val ρ = f.val ρ)) := by
  intro e
  induction e with
  | bin w a b iha ihb =>
    intro f h1 h2
    cases f with
    | bin u c d =>
      unfold numTest
      split
      · rename_i hc
        obtain ⟨rfl, hw⟩ := hc
        have iw : w.inner = .num := by cases w <;> first | rfl | (exfalso; revert hw; decide)
        obtain ⟨_, h3, h4⟩ := wt_bin h1
        obtain ⟨_, h5, h6⟩ := wt_bin h2
        rw [iw] at h3 h4 h5 h6
        show opV .or (.bl (decide (opV w (a.val ρ) (b.val ρ) = opV w (c.val ρ) (d.val ρ)))) (opV .and ((numTest a c).val ρ) ((numTest b d).val ρ)) = .bl (decide (opV w (a.val ρ) (b.val ρ) = opV w (c.val ρ) (d.val ρ)))
        rw [iha c h3 h5, ihb d h4 h6]
        show V.bl (_ || (_ && _)) = _
        by_cases e1 : a.val ρ = c.val ρ
        · by_cases e2 : b.val ρ = d.val ρ
          · rw [e1, e2]
            simp
          · simp [e2]
        · simp [e1]
      · rfl
    | _ => rfl
  | _ => intro f _ _; rfl
theorem whole_val {nm : So → List Str} {ρ : Str → V} (he : EnvOk nm ρ) {e f : Ex} (h1 : Wt nm .flag e) (h2 : Wt nm .flag f) : (wholeF e f).val ρ = .bl (decide (e.val ρ = f.val ρ)) := by
  obtain ⟨x, hx⟩ := val_bl he h1
  obtain ⟨y, hy⟩ := val_bl he h2
  show opV .or (opV .and (e.val ρ) (f.val ρ)) (opV .and (notV (e.val ρ)) (notV (f.val ρ))) = _
  rw [hx, hy]
  cases x <;> cases y <;> rfl
theorem either_val {ρ : Str → V} {w a b : Ex} {x y z : Bool} (h : w.val ρ = .bl x) (h1 : a.val ρ = .bl y) (h2 : b.val ρ = .bl z) (hi : y = true → z = true → x = true) : (either w a b).val ρ = .bl x := by
  show opV .or (w.val ρ) (opV .and (a.val ρ) (b.val ρ)) = _
  rw [h, h1, h2]
  show V.bl (x || (y && z)) = V.bl x
  cases x <;> cases y <;> cases z <;> first | rfl | exact absurd (hi rfl rfl) (by decide)
theorem flag_test {nm : So → List Str} {ρ : Str → V} (he : EnvOk nm ρ) : ∀ (e f : Ex), Wt nm .flag e → Wt nm .flag f → (flagTest e f).val ρ = .bl (decide (e.val ρ = f.val ρ)) := by
  intro e
  induction e with
  | un a ih =>
    intro f h1 h2
    cases f with
    | un b =>
      have h3 := (wt_un h1).2
      have h4 := (wt_un h2).2
      show (flagTest a b).val ρ = .bl (decide (notV (a.val ρ) = notV (b.val ρ)))
      rw [ih b h3 h4]
      obtain ⟨x, hx⟩ := val_bl he h3
      obtain ⟨y, hy⟩ := val_bl he h4
      rw [hx, hy]
      cases x <;> cases y <;> rfl
    | _ => exact whole_val he h1 h2
  | bin w a b iha ihb =>
    intro f h1 h2
    cases f with
    | bin u c d =>
      have W := whole_val he h1 h2
      unfold flagTest
      split
      · rename_i hc
        obtain ⟨rfl, hw⟩ := hc
        have iw : w.inner = .num := by cases w <;> first | rfl | (exfalso; revert hw; decide)
        obtain ⟨_, h3, h4⟩ := wt_bin h1
        obtain ⟨_, h5, h6⟩ := wt_bin h2
        rw [iw] at h3 h4 h5 h6
        refine either_val W (num_test he a c h3 h5) (num_test he b d h4 h6) fun e1 e2 => ?_
        have e1' := of_decide_eq_true e1
        have e2' := of_decide_eq_true e2
        show decide (opV w (a.val ρ) (b.val ρ) = opV w (c.val ρ) (d.val ρ)) = true
        rw [e1', e2']
        simp
      · split
        · rename_i _ hc
          obtain ⟨rfl, hw⟩ := hc
          have iw : w.inner = .flag := by cases w <;> first | rfl | (exfalso; revert hw; decide)
          obtain ⟨_, h3, h4⟩ := wt_bin h1
          obtain ⟨_, h5, h6⟩ := wt_bin h2
          rw [iw] at h3 h4 h5 h6
          refine either_val W (iha c h3 h5) (ihb d h4 h6) fun e1 e2 => ?_
          have e1' := of_decide_eq_true e1
          have e2' := of_decide_eq_true e2
          show decide (opV w (a.val ρ) (b.val ρ) = opV w (c.val ρ) (d.val ρ)) = true
          rw [e1', e2']
          simp
        · exact W
    | _ => exact whole_val he h1 h2
  | _ => intro f h1 h2; exact whole_val he h1 h2
/-! ### the tests' own sort, depth, bits -/
theorem num_test_wt {nm : So → List Str} : ∀ (e f : Ex), Wt nm .num e → Wt nm .num f → Wt nm .flag (numTest e f) := by
  intro e
  induction e with
  | bin w a b iha ihb =>
    intro f h1 h2
    cases f with
    | bin u c d =>
      unfold numTest
      split
      · rename_i hc
        obtain ⟨rfl, hw⟩ := hc
        have iw : w.inner = .num := by cases w <;> first | rfl | (exfalso; revert hw; decide)
        obtain ⟨_, h3, h4⟩ := wt_bin h1
        obtain ⟨_, h5, h6⟩ := wt_bin h2
        rw [iw] at h3 h4 h5 h6
        exact .bin (w := .or) (.bin (w := .eq) h1 h2) (.bin (w := .and) (iha c h3 h5) (ihb d h4 h6))
      · exact .bin (w := .eq) h1 h2
    | _ => exact .bin (w := .eq) h1 h2
  | _ => intro f h1 h2; exact .bin (w := .eq) h1 h2
theorem whole_wt {nm : So → List Str} {e f : Ex} (h1 : Wt nm .flag e) (h2 : Wt nm .flag f) : Wt nm .flag (wholeF e f) :=
  .bin (w := .or) (.bin (w := .and) h1 h2) (.bin (w := .and) (.un h1) (.un h2))
theorem flag_test_wt {nm : So → List Str} : ∀ (e f : Ex), Wt nm .flag e → Wt nm .flag f → Wt nm .flag (flagTest e f) := by
  intro e
  induction e with
  | un a ih =>
    intro f h1 h2
    cases f with
    | un b => exact ih b (wt_un h1).2 (wt_un h2).2
    | _ => exact whole_wt h1 h2
  | bin w a b iha ihb =>
    intro f h1 h2
    cases f with
    | bin u c d =>
      unfold flagTest
      obtain ⟨_, h3, h4⟩ := wt_bin h1
      obtain ⟨_, h5, h6⟩ := wt_bin h2
      split
      · rename_i hc
        obtain ⟨rfl, hw⟩ := hc
        have iw : w.inner = .num := by cases w <;> first | rfl | (exfalso; revert hw; decide)
        rw [iw] at h3 h4 h5 h6
        exact .bin (w := .or) (whole_wt h1 h2) (.bin (w := .and) (num_test_wt a c h3 h5) (num_test_wt b d h4 h6))
      · split
        · rename_i _ hc
          obtain ⟨rfl, hw⟩ := hc
          have iw : w.inner = .flag := by cases w <;> first | rfl | (exfalso; revert hw; decide)
          rw [iw] at h3 h4 h5 h6
          exact .bin (w := .or) (whole_wt h1 h2) (.bin (w := .and) (iha c h3 h5) (ihb d h4 h6))
        · exact whole_wt h1 h2
    | _ => exact whole_wt h1 h2
  | _ => intro f h1 h2; exact whole_wt h1 h2
theorem num_test_depth : ∀ (e f : Ex), (numTest e f).depth ≤ 2 * e.depth + 2 * f.depth + 1 := by
  have base : ∀ e f : Ex, (Ex.bin .eq e f).depth ≤ 2 * e.depth + 2 * f.depth + 1 := fun e f => by
    show max e.depth f.depth + 1 ≤ _
    omega
  intro e
  induction e with
  | bin w a b iha ihb =>
    intro f
    cases f with
    | bin u c d =>
      unfold numTest
      split
      · have h1 := iha c
        have h2 := ihb d
        show max (max (max a.depth b.depth + 1) (max c.depth d.depth + 1) + 1) (max (numTest a c).depth (numTest b d).depth + 1) + 1 ≤ 2 * (max a.depth b.depth + 1) + 2 * (max c.depth d.depth + 1) + 1
        omega
      · exact base _ _
    | _ => exact base _ _
  | _ => intro f; exact base _ _
theorem flag_test_depth : ∀ (e f : Ex), (flagTest e f).depth ≤ 2 * e.depth + 2 * f.depth + 3 := by
  have base : ∀ e f : Ex, (wholeF e f).depth ≤ 2 * e.depth + 2 * f.depth + 3 := fun e f => by
    show max (max e.depth f.depth + 1) (max (e.depth + 1) (f.depth + 1) + 1) + 1 ≤ _
    omega
  have ed : ∀ w x y : Ex, (either w x y).depth = max w.depth (max x.depth y.depth + 1) + 1 := fun _ _ _ => rfl
  have wd : ∀ e f : Ex, (wholeF e f).depth = max (max e.depth f.depth + 1) (max (e.depth + 1) (f.depth + 1) + 1) + 1 := fun _ _ => rfl
  have bd : ∀ w e f, (Ex.bin w e f).depth = max e.depth f.depth + 1 := fun _ _ _ => rfl
  intro e
  induction e with
  | un a ih =>
    intro f
    cases f with
    | un b =>
      have h1 := ih b
      show (flagTest a b).depth ≤ 2 * (a.depth + 1) + 2 * (b.depth + 1) + 3
      omega
    | _ => exact base _ _
  | bin w a b iha ihb =>
    intro f
    cases f with
    | bin u c d =>
      unfold flagTest
      split
      · have h1 := num_test_depth a c
        have h2 := num_test_depth b d
        rw [ed, wd, bd, bd]
        omega
      · split
        · have h1 := iha c
          have h2 := ihb d
          rw [ed, wd, bd, bd]
          omega
        · exact base _ _
    | _ => exact base _ _
  | _ => intro f; exact base _ _
theorem either_sm {w a b : Ex} (h : w.Sm) (h1 : a.Sm) (h2 : b.Sm) : (either w a b).Sm := ⟨h, ⟨h1, h2, fun z => nomatch z⟩, fun z => nomatch z⟩
theorem num_test_sm : ∀ (e f : Ex), e.Sm → f.Sm → (numTest e f).Sm := by
  have base : ∀ e f : Ex, e.Sm → f.Sm → (Ex.bin .eq e f).Sm := fun e f h1 h2 => ⟨h1, h2, fun z => nomatch z⟩
  intro e
  induction e with
  | bin w a b iha ihb =>
    intro f h1 h2
    cases f with
    | bin u c d =>
      unfold numTest
      split
      · exact either_sm (base _ _ h1 h2) (iha c h1.1 h2.1) (ihb d h1.2.1 h2.2.1)
      · exact base _ _ h1 h2
    | _ => exact base _ _ h1 h2
  | _ => intro f h1 h2; exact base _ _ h1 h2
theorem flag_test_sm : ∀ (e f : Ex), e.Sm → f.Sm → (flagTest e f).Sm := by
  have base : ∀ e f : Ex, e.Sm → f.Sm → (wholeF e f).Sm := fun e f h1 h2 => ⟨⟨h1, h2, fun z => nomatch z⟩, ⟨h1, h2, fun z => nomatch z⟩, fun z => nomatch z⟩
  intro e
  induction e with
  | un a ih =>
    intro f h1 h2
    cases f with
    | un b => exact ih b h1 h2
    | _ => exact base _ _ h1 h2
  | bin w a b iha ihb =>
    intro f h1 h2
    cases f with
    | bin u c d =>
      unfold flagTest
      split
      · exact either_sm (base _ _ h1 h2) (num_test_sm a c h1.1 h2.1) (num_test_sm b d h1.2.1 h2.2.1)
      · split
        · exact either_sm (base _ _ h1 h2) (iha c h1.1 h2.1) (ihb d h1.2.1 h2.2.1)
        · exact base _ _ h1 h2
    | _ => exact base _ _ h1 h2
  | _ => intro f h1 h2; exact base _ _ h1 h2
theorem bnd_le : ∀ e : Ex, e.bnd + 1 ≤ 32 * 2 ^ e.depth
  | .null => by decide
  | .name _ => (by decide : 31 + 1 ≤ 32 * 2 ^ 0)
  | .num _ => (by decide : 31 + 1 ≤ 32 * 2 ^ 0)
  | .flag _ => (by decide : 31 + 1 ≤ 32 * 2 ^ 0)
  | .un a => by
    have h := bnd_le a
    show a.bnd + 1 ≤ 32 * 2 ^ (a.depth + 1)
    have e : 2 ^ (a.depth + 1) = 2 ^ a.depth * 2 := Nat.pow_succ ..
    omega
  | .bin w a b => by
    have h1 := bnd_le a
    have h2 := bnd_le b
    show a.bnd + b.bnd + 1 + 1 ≤ 32 * 2 ^ (max a.depth b.depth + 1)
    have e : 2 ^ (max a.depth b.depth + 1) = 2 ^ (max a.depth b.depth) * 2 := Nat.pow_succ ..
    have e1 : 2 ^ a.depth ≤ 2 ^ (max a.depth b.depth) := pow_le (by omega)
    have e2 : 2 ^ b.depth ≤ 2 ^ (max a.depth b.depth) := pow_le (by omega)
    omega
theorem sm_of : ∀ e : Ex, e.depth ≤ 12 → e.Sm
  | .null, _ => trivial
  | .name _, _ => trivial
  | .num _, _ => trivial
  | .flag _, _ => trivial
  | .un a, h => sm_of a (by have : (Ex.un a).depth = a.depth + 1 := rfl; omega)
  | .bin w a b, h => by
    have e : (Ex.bin w a b).depth = max a.depth b.depth + 1 := rfl
    refine ⟨sm_of a (by omega), sm_of b (by omega), fun _ => ?_⟩
    have h1 := bnd_le a
    have h2 := bnd_le b
    have e1 : 2 ^ a.depth ≤ 2 ^ 12 := pow_le (by omega)
    have e2 : 2 ^ b.depth ≤ 2 ^ 12 := pow_le (by omega)
    have e3 : (2 : Nat) ^ 12 = 4096 := by decide
    omega
end K80


set_option Elab.async false
set_option linter.all false
set_option maxRecDepth 100000
set_option maxHeartbeats 4000000
namespace Lw
open PySem PySem.Spec PyProof.Rows L2
/-- what stood stands but for the objects at S; no tuple is changed -/
def Kt (S : List Addr) (H H' : Hp) : Prop := Kp S H H' ∧ ∀ b xs, H b = some (.tup xs) → H' b = some (.tup xs)
theorem Kt.refl {S : List Addr} (H : Hp) : Kt S H H := ⟨Kp.refl H, fun _ _ e => e⟩
theorem Kt.mono {S S' : List Addr} {H H' : Hp} (k : Kt S H H') (h : ∀ b ∈ S, b ∈ S') : Kt S' H H' := ⟨k.1.mono h, k.2⟩
theorem Kt.nil {S : List Addr} {H H' : Hp} (k : Kt [] H H') : Kt S H H' := k.mono fun _ z => nomatch z
theorem Kt.trans {S : List Addr} {H H1 H2 : Hp} (a : Kt S H H1) (b : Kt S H1 H2) : Kt S H H2 := ⟨a.1.trans b.1, fun c xs e => b.2 c xs (a.2 c xs e)⟩
theorem Kt.drop {S : List Addr} {H H' : Hp} {p : Addr} (k : Kt (p :: S) H H') (h : H p = none) : Kt S H H' := ⟨k.1.drop h, k.2⟩
theorem Kt.new {S : List Addr} {H : Hp} {p : Addr} {o : HO} (h : H p = none) : Kt S H (upd H p o) := ⟨Kp.new h, fun b xs e => by
  rw [upd_ne (ne_of_none e h)]
  exact e⟩
theorem Kt.at_ {S : List Addr} {H : Hp} {p : Addr} {o u : HO} (hp : H p = some u) (hu : ∀ xs, u ≠ .tup xs) (h : p ∈ S) : Kt S H (upd H p o) := ⟨Kp.at_ h, fun b xs e => by
  rw [upd_ne (ne_of e hp fun z => hu xs z.symm)]
  exact e⟩
theorem Kt.get {S : List Addr} {H H' : Hp} {b : Addr} {o : HO} (k : Kt S H H') (h : H b = some o) (n : b ∉ S) : H' b = some o := k.1 b o h n
theorem Kt.get0 {H H' : Hp} {b : Addr} {o : HO} (k : Kt [] H H') (h : H b = some o) : H' b = some o := k.1 b o h (by simp)
theorem Kt.tup {S : List Addr} {H H' : Hp} {b : Addr} {xs : List V} (k : Kt S H H') (h : H b = some (.tup xs)) : H' b = some (.tup xs) := k.2 b xs h
/-- a promise that nothing can ask for -/
theorem Df.none {P : Program} {w : World} {K : PySem.W.Frag} {mg : Str → Option Value} {base : Heap} {x : Str} {st : Stmt} {ps : List Str} {k : Nat} {sp : Sp} (A : At K mg x st)
    (hb : ∀ (kV doc pm : Value) (an : Option Addr) (cdv ct : Value) (us : List Value), us.length = ps.length → bindArgs (PySem.W.fnOf x x (defArgs st) (defBody st) (defScope st) .none kV doc pm an cdv ct) ⟨us, []⟩ = pure (ps.zip us))
    (no : ∀ vs H Q E, ¬ sp vs H Q E) : Df P w K mg base k x ps sp := by
  obtain ⟨f, fd, F, hm⟩ := A
  obtain ⟨oc, od, dV, kV, doc, pm, an, cdv, ct, osl, e1, e2, _⟩ := id F.ex
  exact ⟨f, fd, ⟨fun vs H Q E h => absurd h (no vs H Q E), fun A outer s H args us vs Q E _ _ _ _ h => absurd h (no vs H Q E)⟩, hm, F.kp, F.bindsN hb, oc, od, osl, e2⟩
/-- a test whose answer is known -/
theorem iteB {c : Prop} [Decidable c] {A B : Prop} (b : Bool) (e : decide c = b) (h : if b = true then A else B) : if decide c = true then A else B := by
  rw [e]
  exact h
theorem iteE {x : Bool} {A B : Prop} (b : Bool) (e : x = b) (h : if b = true then A else B) : if x = true then A else B := by
  rw [e]
  exact h
theorem dec_str {a b : Str} : decide (V.str a = V.str b) = decide (a = b) := by
  by_cases h : a = b
  · rw [h]
    simp
  · rw [decide_eq_false h, decide_eq_false fun z => h (V.str.inj z)]
end Lw
namespace K80
open PySem PySem.Spec PyProof.Rows L2 Lw
def Ex.word : Ex → Str
  | .null => "null"
  | .name _ => "name"
  | .num _ => "num"
  | .flag _ => "flag"
  | .un _ => "not"
  | .bin w _ _ => w.str
/-- the object v is the expression e -/
def Rep (H : Hp) : V → Ex → Prop
  | v, .null => ∃ p, v = .ref p ∧ H p = some (.tup [.str "null"])
  | v, .name n => ∃ p, v = .ref p ∧ H p = some (.tup [.str "name", .str n])
  | v, .num i => ∃ p, v = .ref p ∧ H p = some (.tup [.str "num", .int i])
  | v, .flag b => ∃ p, v = .ref p ∧ H p = some (.tup [.str "flag", .bl b])
  | v, .un a => ∃ p va, v = .ref p ∧ H p = some (.tup [.str "not", va]) ∧ Rep H va a
  | v, .bin w a b => ∃ p va vb, v = .ref p ∧ H p = some (.tup [.str w.str, va, vb]) ∧ Rep H va a ∧ Rep H vb b
theorem rep_keep {S : List Addr} {H H' : Hp} (k : Kt S H H') : ∀ {v : V} {e : Ex}, Rep H v e → Rep H' v e
  | _, .null, ⟨p, e, h⟩ => ⟨p, e, k.tup h⟩
  | _, .name _, ⟨p, e, h⟩ => ⟨p, e, k.tup h⟩
  | _, .num _, ⟨p, e, h⟩ => ⟨p, e, k.tup h⟩
  | _, .flag _, ⟨p, e, h⟩ => ⟨p, e, k.tup h⟩
  | _, .un _, ⟨p, va, e, h, r⟩ => ⟨p, va, e, k.tup h, rep_keep k r⟩
  | _, .bin _ _ _, ⟨p, va, vb, e, h, r, r'⟩ => ⟨p, va, vb, e, k.tup h, rep_keep k r, rep_keep k r'⟩
/-- its first member -/
theorem rep_word {H : Hp} {v : V} {e : Ex} (r : Rep H v e) : ∃ p xs, v = .ref p ∧ H p = some (.tup (.str e.word :: xs)) := by
  cases e with
  | un a => obtain ⟨p, va, e, h, _⟩ := r; exact ⟨p, _, e, h⟩
  | bin w a b => obtain ⟨p, va, vb, e, h, _⟩ := r; exact ⟨p, _, e, h⟩
  | _ => obtain ⟨p, e, h⟩ := r; exact ⟨p, _, e, h⟩
theorem wd_inj : ∀ {w u : Wd}, w.str = u.str → w = u := by
  intro w u
  cases w <;> cases u <;> first | (intro; rfl) | (intro h; exact absurd h (by decide +kernel))
theorem wd_null (w : Wd) : ¬ w.str = "null" := by cases w <;> decide +kernel
theorem wd_name (w : Wd) : ¬ w.str = "name" := by cases w <;> decide +kernel
theorem wd_num (w : Wd) : ¬ w.str = "num" := by cases w <;> decide +kernel
theorem wd_flag (w : Wd) : ¬ w.str = "flag" := by cases w <;> decide +kernel
theorem wd_not (w : Wd) : ¬ w.str = "not" := by cases w <;> decide +kernel
/-- a word of an operator belongs to an operator alone -/
theorem word_bin {w : Wd} {f : Ex} (h : w.str = f.word) : ∃ c d, f = .bin w c d := by
  cases f with
  | bin u c d => exact ⟨c, d, by rw [wd_inj h]⟩
  | null => exact absurd h (wd_null w)
  | name _ => exact absurd h (wd_name w)
  | num _ => exact absurd h (wd_num w)
  | flag _ => exact absurd h (wd_flag w)
  | un _ => exact absurd h (wd_not w)
theorem word_not {f : Ex} (h : f.word = "not") : ∃ a, f = .un a := by
  cases f with
  | un a => exact ⟨a, rfl⟩
  | bin w c d => exact absurd h (wd_not w)
  | null => exact absurd h (by decide +kernel : ¬ ("null" : Str) = "not")
  | name _ => exact absurd h (by decide +kernel : ¬ ("name" : Str) = "not")
  | num _ => exact absurd h (by decide +kernel : ¬ ("num" : Str) = "not")
  | flag _ => exact absurd h (by decide +kernel : ¬ ("flag" : Str) = "not")
/-- the words of operators, as they are looked for in a written tuple or list -/
def Ex.isW (p : Wd → Bool) : Ex → Bool
  | .bin w _ _ => p w
  | _ => false
theorem in_arith (e : Ex) : inV (.str e.word) [.str "+", .str "-", .str "*"] = e.isW Wd.isArith := by
  cases e with
  | bin w a b =>
    show inV (.str w.str) [.str "+", .str "-", .str "*"] = w.isArith
    cases w <;> decide +kernel
  | null => exact (by decide +kernel : inV (.str "null") [.str "+", .str "-", .str "*"] = false)
  | name _ => exact (by decide +kernel : inV (.str "name") [.str "+", .str "-", .str "*"] = false)
  | num _ => exact (by decide +kernel : inV (.str "num") [.str "+", .str "-", .str "*"] = false)
  | flag _ => exact (by decide +kernel : inV (.str "flag") [.str "+", .str "-", .str "*"] = false)
  | un _ => exact (by decide +kernel : inV (.str "not") [.str "+", .str "-", .str "*"] = false)
theorem in_cmp (e : Ex) : inV (.str e.word) [.str "<", .str "<=", .str "==", .str "!="] = e.isW Wd.isCmp := by
  cases e with
  | bin w a b =>
    show inV (.str w.str) [.str "<", .str "<=", .str "==", .str "!="] = w.isCmp
    cases w <;> decide +kernel
  | null => exact (by decide +kernel : inV (.str "null") [.str "<", .str "<=", .str "==", .str "!="] = false)
  | name _ => exact (by decide +kernel : inV (.str "name") [.str "<", .str "<=", .str "==", .str "!="] = false)
  | num _ => exact (by decide +kernel : inV (.str "num") [.str "<", .str "<=", .str "==", .str "!="] = false)
  | flag _ => exact (by decide +kernel : inV (.str "flag") [.str "<", .str "<=", .str "==", .str "!="] = false)
  | un _ => exact (by decide +kernel : inV (.str "not") [.str "<", .str "<=", .str "==", .str "!="] = false)
theorem in_logic (e : Ex) : inV (.str e.word) [.str "and", .str "or"] = e.isW Wd.isLogic := by
  cases e with
  | bin w a b =>
    show inV (.str w.str) [.str "and", .str "or"] = w.isLogic
    cases w <;> decide +kernel
  | null => exact (by decide +kernel : inV (.str "null") [.str "and", .str "or"] = false)
  | name _ => exact (by decide +kernel : inV (.str "name") [.str "and", .str "or"] = false)
  | num _ => exact (by decide +kernel : inV (.str "num") [.str "and", .str "or"] = false)
  | flag _ => exact (by decide +kernel : inV (.str "flag") [.str "and", .str "or"] = false)
  | un _ => exact (by decide +kernel : inV (.str "not") [.str "and", .str "or"] = false)
theorem num_eq (e f : Ex) (h : ¬ (e.word = f.word ∧ e.isW Wd.isArith = true)) : numTest e f = .bin .eq e f := by
  cases e with
  | bin w a b =>
    cases f with
    | bin u c d =>
      unfold numTest
      rw [if_neg]
      rintro ⟨rfl, h2⟩
      exact h ⟨rfl, h2⟩
    | _ => rfl
  | _ => rfl
theorem flag_eq (e f : Ex) (h : ¬ (e.word = "not" ∧ f.word = "not")) (h1 : ¬ (e.word = f.word ∧ e.isW Wd.isCmp = true)) (h2 : ¬ (e.word = f.word ∧ e.isW Wd.isLogic = true)) : flagTest e f = wholeF e f := by
  cases e with
  | bin w a b =>
    cases f with
    | bin u c d =>
      unfold flagTest
      rw [if_neg, if_neg]
      · rintro ⟨rfl, h3⟩
        exact h2 ⟨rfl, h3⟩
      · rintro ⟨rfl, h3⟩
        exact h1 ⟨rfl, h3⟩
    | _ => rfl
  | un a =>
    cases f with
    | un b => exact absurd ⟨rfl, rfl⟩ h
    | _ => rfl
  | _ => rfl
theorem isW_bin {p : Wd → Bool} {e : Ex} (h : e.isW p = true) : ∃ w a b, e = .bin w a b ∧ p w = true := by
  cases e with
  | bin w a b => exact ⟨w, a, b, rfl, h⟩
  | _ => exact absurd h Bool.false_ne_true
section
variable {P : Program} {w : World} {K : PySem.W.Frag} {mg : Str → Option Value} {base : Heap} (T : Facts K mg)
include T
def sp_either : Sp := fun vs H Q _ => ∃ (v1 v2 v3 : V) (a b c : Ex), vs = [v1, v2, v3] ∧ Rep H v1 a ∧ Rep H v2 b ∧ Rep H v3 c ∧ ∀ v H', Kt [] H H' → Rep H' v (either a b c) → Q v H'
theorem ok_either : Df P w K mg base 1 "either" ["whole", "first", "second"] sp_either := by
  refine Lw.Df.mk (T.d_either) sc_either (fun _ _ _ _ _ _ us hl => match us, hl with | [_, _, _], _ => rfl) (fun vs H Q E h => ?_) (fun f cdv A outer s H vs Q E hr h => ?_)
  · obtain ⟨_, _, _, _, _, _, rfl, _⟩ := h
    rfl
  have sc := sc_either
  obtain ⟨v1, v2, v3, a, b, c, rfl, r1, r2, r3, q⟩ := h
  refine ⟨_, (pss_one (ps_ret (pe_tup (pa_cons pe_str (pa_cons (pv 0) (pa_cons (pe_tup (pa_cons pe_str (pa_cons (pv 1) (pa_cons (pv 2) pa_nil)))) pa_nil)))))), ?_⟩
  refine ⟨_, rfl, _, rfl, _, rfl, (by show 3 ≤ sizeLine; decide), fun p hp => ⟨(by show 3 ≤ sizeLine; decide), fun p2 hp2 => ?_⟩⟩
  have k1 : Kt [] H (upd H p (.tup [.str "and", v2, v3])) := Kt.new hp
  have k2 := k1.trans (Kt.new (o := .tup [.str "or", v1, .ref p]) hp2)
  exact q _ _ k2 ⟨p2, v1, .ref p, rfl, upd_same, rep_keep k2 r1, p, v2, v3, rfl, (Kt.new hp2).get0 upd_same, rep_keep k2 r2, rep_keep k2 r3⟩
def sp_num (n : Nat) : Sp := fun vs H Q _ => ∃ (v1 v2 : V) (e f : Ex), vs = [v1, v2] ∧ Rep H v1 e ∧ Rep H v2 f ∧ e.depth < n ∧ ∀ v H', Kt [] H H' → Rep H' v (numTest e f) → Q v H'
theorem ok_num : ∀ n : Nat, Df P w K mg base (n + 1) "number_test" ["e", "f"] (sp_num n)
  | 0 => Df.none (T.d_number_test) (fun _ _ _ _ _ _ us hl => match us, hl with | [_, _], _ => rfl) fun vs H Q E ⟨_, _, _, _, _, _, _, h, _⟩ => absurd h (Nat.not_lt_zero _)
  | n + 1 => by
    have D_number_test := ok_num n
    have D_either := ok_either (P := P) (w := w) (base := base) T
    refine Lw.Df.mk (T.d_number_test) sc_number_test (fun _ _ _ _ _ _ us hl => match us, hl with | [_, _], _ => rfl) (fun vs H Q E h => ?_) (fun f cdv A outer s H vs Q E hr h => ?_)
    · obtain ⟨_, _, _, _, rfl, _⟩ := h
      rfl
    have sc := sc_number_test
    obtain ⟨v1, v2, e, f, rfl, r1, r2, hd, q⟩ := h
    refine ⟨_, (pss_cons (ps_set (i := 2) sc.nd rfl (by first | exact Or.inl rfl | exact Or.inr rfl) (pe_tup (pa_cons pe_str (pa_cons (pv 0) (pa_cons (pv 1) pa_nil)))))
(pss_cons (ps_if (PW.pt (pw_and (pt_cmpR op_eq (pe_ix ix_tup (pv 0) pe_int (fun _ _ => rfl)) (pe_ix ix_tup (pv 1) pe_int (fun _ _ => rfl)) (nomark _)) (pw_and1 (pt_cmpR op_in_seq (pe_ix ix_tup (pv 0) pe_int (fun _ _ => rfl)) (pe_tup (pa_cons pe_str (pa_cons pe_str (pa_cons pe_str pa_nil)))) (by rfl)))))
(pss_one (ps_ret (Lw.pe_d D_either (hr.mono (by omega)) (pa_cons (pv 2) (pa_cons (Lw.pe_d D_number_test (hr.mono (by omega)) (pa_cons (pe_ix ix_tup (pv 0) pe_int (fun _ _ => rfl)) (pa_cons (pe_ix ix_tup (pv 1) pe_int (fun _ _ => rfl)) pa_nil))) (pa_cons (Lw.pe_d D_number_test (hr.mono (by omega)) (pa_cons (pe_ix ix_tup (pv 0) pe_int (fun _ _ => rfl)) (pa_cons (pe_ix ix_tup (pv 1) pe_int (fun _ _ => rfl)) pa_nil))) pa_nil))))))
pss_nil)
(pss_one (ps_ret (pv 2))))), ?_⟩
    obtain ⟨p1, xs1, e1, h1⟩ := rep_word r1
    obtain ⟨p2, xs2, e2, h2⟩ := rep_word r2
    -- whole
    refine ⟨_, rfl, _, rfl, (by show 3 ≤ sizeLine; decide), fun p hp => ?_⟩
    have k1 : Kt [] H (upd H p (.tup [.str "==", v1, v2])) := Kt.new hp
    have rw1 : Rep (upd H p (.tup [.str "==", v1, v2])) (.ref p) (.bin .eq e f) := ⟨p, v1, v2, rfl, upd_same, rep_keep k1 r1, rep_keep k1 r2⟩
    generalize upd H p (.tup [.str "==", v1, v2]) = H1 at k1 rw1
    refine ⟨_, rfl, p1, _, _, .str e.word, e1, rfl, SqT.of (k1.get0 h1), atI_nat (j := 0) rfl, _, rfl, p2, _, _, .str f.word, e2, rfl, SqT.of (k1.get0 h2), atI_nat (j := 0) rfl, rfl, _, rfl, ite2 (fun c1 => ?_) (fun c1 => iteF ?_)⟩
    · have w1 : e.word = f.word := V.str.inj (of_decide_eq_true c1)
      refine ⟨_, rfl, p1, _, _, .str e.word, e1, rfl, SqT.of (k1.get0 h1), atI_nat (j := 0) rfl, (by show 3 ≤ sizeLine; decide), fun t ht => ⟨t, _, rfl, .inr (SqT.of upd_same), rfl, rfl, _, rfl, iteE (e.isW Wd.isArith) (in_arith e) (ite2 (fun c2 => ?_) (fun c2 => ?_))⟩⟩
      · obtain ⟨ew, a, b, rfl⟩ : ∃ ew a b, e = .bin ew a b := by
          cases e with
          | bin w a b => exact ⟨w, a, b, rfl⟩
          | _ => exact absurd c2 Bool.false_ne_true
        obtain ⟨c, d, rfl⟩ := word_bin w1
        have k2 := k1.trans (Kt.new (o := .tup [.str "+", .str "-", .str "*"]) ht)
        have rw2 := rep_keep (Kt.new (S := []) (o := .tup [.str "+", .str "-", .str "*"]) ht) rw1
        generalize upd H1 t _ = H2 at k2 rw2
        obtain ⟨q1, a1, b1, g1, hq1, ra1, rb1⟩ := rep_keep k2 r1
        obtain ⟨q2, a2, b2, g2, hq2, ra2, rb2⟩ := rep_keep k2 r2
        have hda : a.depth < n ∧ b.depth < n := by
          have : max a.depth b.depth + 1 < n + 1 := hd
          omega
        refine ⟨_, rfl, _, rfl, q1, _, _, a1, g1, rfl, SqT.of hq1, atI_nat (j := 1) rfl, _, rfl, q2, _, _, a2, g2, rfl, SqT.of hq2, atI_nat (j := 1) rfl, a1, a2, a, c, rfl, ra1, ra2, hda.1, fun x3 H3 k3 r3 => ?_⟩
        refine ⟨_, rfl, q1, _, _, b1, g1, rfl, SqT.of (k3.get0 hq1), atI_nat (j := 2) rfl, _, rfl, q2, _, _, b2, g2, rfl, SqT.of (k3.get0 hq2), atI_nat (j := 2) rfl, b1, b2, b, d, rfl, rep_keep k3 rb1, rep_keep k3 rb2, hda.2, fun x4 H4 k4 r4 => ?_⟩
        refine ⟨_, _, _, _, _, _, rfl, rep_keep (k3.trans k4) rw2, rep_keep k4 r3, r4, fun x5 H5 k5 r5 => ?_⟩
        refine q x5 H5 (k2.trans (k3.trans (k4.trans k5))) ?_
        unfold numTest
        rw [if_pos ⟨rfl, c2⟩]
        exact r5
      · refine ⟨_, rfl, q _ _ (k1.trans (Kt.new ht)) ?_⟩
        rw [num_eq e f fun z => c2 z.2]
        exact rep_keep (Kt.new (S := []) ht) rw1
    · refine ⟨_, rfl, q _ _ k1 ?_⟩
      rw [num_eq e f fun z => c1 (decide_eq_true (congrArg V.str z.1))]
      exact rw1
def sp_flag (n : Nat) : Sp := fun vs H Q _ => ∃ (v1 v2 : V) (e f : Ex), vs = [v1, v2] ∧ Rep H v1 e ∧ Rep H v2 f ∧ e.depth < n ∧ ∀ v H', Kt [] H H' → Rep H' v (flagTest e f) → Q v H'
theorem ok_flag : ∀ n : Nat, Df P w K mg base (n + 1) "flag_test" ["e", "f"] (sp_flag n)
  | 0 => Df.none (T.d_flag_test) (fun _ _ _ _ _ _ us hl => match us, hl with | [_, _], _ => rfl) fun vs H Q E ⟨_, _, _, _, _, _, _, h, _⟩ => absurd h (Nat.not_lt_zero _)
  | n + 1 => by
    have D_flag_test := ok_flag n
    have D_number_test := ok_num (P := P) (w := w) (base := base) T n
    have D_either := ok_either (P := P) (w := w) (base := base) T
    refine Lw.Df.mk (T.d_flag_test) sc_flag_test (fun _ _ _ _ _ _ us hl => match us, hl with | [_, _], _ => rfl) (fun vs H Q E h => ?_) (fun f cdv A outer s H vs Q E hr h => ?_)
    · obtain ⟨_, _, _, _, rfl, _⟩ := h
      rfl
    have sc := sc_flag_test
    obtain ⟨v1, v2, e, f, rfl, r1, r2, hd, q⟩ := h
    refine ⟨_, (pss_cons (ps_if (PW.pt (pw_and (pt_cmpR op_eq (pe_ix ix_tup (pv 0) pe_int (fun _ _ => rfl)) pe_str (nomark _)) (pw_and1 (pt_cmpR op_eq (pe_ix ix_tup (pv 1) pe_int (fun _ _ => rfl)) pe_str (nomark _)))))
(pss_one (ps_ret (Lw.pe_d D_flag_test (hr.mono (by omega)) (pa_cons (pe_ix ix_tup (pv 0) pe_int (fun _ _ => rfl)) (pa_cons (pe_ix ix_tup (pv 1) pe_int (fun _ _ => rfl)) pa_nil)))))
pss_nil)
(pss_cons (ps_set (i := 2) sc.nd rfl (by first | exact Or.inl rfl | exact Or.inr rfl) (pe_tup (pa_cons pe_str (pa_cons (pe_tup (pa_cons pe_str (pa_cons (pv 0) (pa_cons (pv 1) pa_nil)))) (pa_cons (pe_tup (pa_cons pe_str (pa_cons (pe_tup (pa_cons pe_str (pa_cons (pv 0) pa_nil))) (pa_cons (pe_tup (pa_cons pe_str (pa_cons (pv 1) pa_nil))) pa_nil)))) pa_nil)))))
(pss_cons (ps_if (PW.pt (pw_and (pt_cmpR op_eq (pe_ix ix_tup (pv 0) pe_int (fun _ _ => rfl)) (pe_ix ix_tup (pv 1) pe_int (fun _ _ => rfl)) (nomark _)) (pw_and1 (pt_cmpR op_in_seq (pe_ix ix_tup (pv 0) pe_int (fun _ _ => rfl)) (pe_tup (pa_cons pe_str (pa_cons pe_str (pa_cons pe_str (pa_cons pe_str pa_nil))))) (by rfl)))))
(pss_one (ps_ret (Lw.pe_d D_either (hr.mono (by omega)) (pa_cons (pv 2) (pa_cons (Lw.pe_d D_number_test (hr.mono (by omega)) (pa_cons (pe_ix ix_tup (pv 0) pe_int (fun _ _ => rfl)) (pa_cons (pe_ix ix_tup (pv 1) pe_int (fun _ _ => rfl)) pa_nil))) (pa_cons (Lw.pe_d D_number_test (hr.mono (by omega)) (pa_cons (pe_ix ix_tup (pv 0) pe_int (fun _ _ => rfl)) (pa_cons (pe_ix ix_tup (pv 1) pe_int (fun _ _ => rfl)) pa_nil))) pa_nil))))))
pss_nil)
(pss_cons (ps_if (PW.pt (pw_and (pt_cmpR op_eq (pe_ix ix_tup (pv 0) pe_int (fun _ _ => rfl)) (pe_ix ix_tup (pv 1) pe_int (fun _ _ => rfl)) (nomark _)) (pw_and1 (pt_cmpR op_in_seq (pe_ix ix_tup (pv 0) pe_int (fun _ _ => rfl)) (pe_tup (pa_cons pe_str (pa_cons pe_str pa_nil))) (by rfl)))))
(pss_one (ps_ret (Lw.pe_d D_either (hr.mono (by omega)) (pa_cons (pv 2) (pa_cons (Lw.pe_d D_flag_test (hr.mono (by omega)) (pa_cons (pe_ix ix_tup (pv 0) pe_int (fun _ _ => rfl)) (pa_cons (pe_ix ix_tup (pv 1) pe_int (fun _ _ => rfl)) pa_nil))) (pa_cons (Lw.pe_d D_flag_test (hr.mono (by omega)) (pa_cons (pe_ix ix_tup (pv 0) pe_int (fun _ _ => rfl)) (pa_cons (pe_ix ix_tup (pv 1) pe_int (fun _ _ => rfl)) pa_nil))) pa_nil))))))
pss_nil)
(pss_one (ps_ret (pv 2))))))), ?_⟩
    obtain ⟨p1, xs1, e1, h1⟩ := rep_word r1
    obtain ⟨p2, xs2, e2, h2⟩ := rep_word r2
    refine ⟨_, rfl, p1, _, _, .str e.word, e1, rfl, SqT.of h1, atI_nat (j := 0) rfl, rfl, _, rfl, ite2 (fun c1 => ⟨_, rfl, p2, _, _, .str f.word, e2, rfl, SqT.of h2, atI_nat (j := 0) rfl, rfl, _, rfl, ite2 (fun c2 => ?both) (fun c2 => ?restA)⟩) (fun c1 => iteF ?restB)⟩
    case both =>
      obtain ⟨a, rfl⟩ := word_not (V.str.inj (of_decide_eq_true c1))
      obtain ⟨b, rfl⟩ := word_not (V.str.inj (of_decide_eq_true c2))
      obtain ⟨q1, a1, g1, hq1, ra⟩ := r1
      obtain ⟨q2, a2, g2, hq2, rb⟩ := r2
      exact ⟨_, rfl, q1, _, _, a1, g1, rfl, SqT.of hq1, atI_nat (j := 1) rfl, _, rfl, q2, _, _, a2, g2, rfl, SqT.of hq2, atI_nat (j := 1) rfl, a1, a2, a, b, rfl, ra, rb, Nat.lt_of_succ_lt_succ hd, fun v H' k r => q v H' k r⟩
    all_goals
      have no : ¬ (e.word = "not" ∧ f.word = "not") := fun z => by first | exact c2 (decide_eq_true (congrArg V.str z.2)) | exact c1 (decide_eq_true (congrArg V.str z.1))
      refine ⟨_, rfl, _, rfl, (by show 3 ≤ sizeLine; decide), fun t1 n1 => ⟨_, rfl, (by show 2 ≤ sizeLine; decide), fun t2 n2 => ⟨_, rfl, (by show 2 ≤ sizeLine; decide), fun t3 n3 => ⟨(by show 3 ≤ sizeLine; decide), fun t4 n4 => ⟨(by show 3 ≤ sizeLine; decide), fun t5 n5 => ?_⟩⟩⟩⟩⟩
      have k1 : Kt [] H (upd H t1 (.tup [.str "and", v1, v2])) := Kt.new n1
      have g1 : (upd H t1 (.tup [.str "and", v1, v2])) t1 = some (.tup [.str "and", v1, v2]) := upd_same
      generalize upd H t1 (.tup [.str "and", v1, v2]) = H1 at k1 g1 n2 n3 n4 n5 ⊢
      have k2 : Kt [] H1 (upd H1 t2 (.tup [.str "not", v1])) := Kt.new n2
      have g2 : (upd H1 t2 (.tup [.str "not", v1])) t2 = some (.tup [.str "not", v1]) := upd_same
      generalize upd H1 t2 (.tup [.str "not", v1]) = H2 at k2 g2 n3 n4 n5 ⊢
      have k3 : Kt [] H2 (upd H2 t3 (.tup [.str "not", v2])) := Kt.new n3
      have g3 : (upd H2 t3 (.tup [.str "not", v2])) t3 = some (.tup [.str "not", v2]) := upd_same
      generalize upd H2 t3 (.tup [.str "not", v2]) = H3 at k3 g3 n4 n5 ⊢
      have k4 : Kt [] H3 (upd H3 t4 (.tup [.str "and", .ref t2, .ref t3])) := Kt.new n4
      have g4 : (upd H3 t4 (.tup [.str "and", .ref t2, .ref t3])) t4 = some (.tup [.str "and", .ref t2, .ref t3]) := upd_same
      generalize upd H3 t4 (.tup [.str "and", .ref t2, .ref t3]) = H4 at k4 g4 n5 ⊢
      have k5 : Kt [] H4 (upd H4 t5 (.tup [.str "or", .ref t1, .ref t4])) := Kt.new n5
      have g5 : (upd H4 t5 (.tup [.str "or", .ref t1, .ref t4])) t5 = some (.tup [.str "or", .ref t1, .ref t4]) := upd_same
      generalize upd H4 t5 (.tup [.str "or", .ref t1, .ref t4]) = H5 at k5 g5 ⊢
      have kA : Kt [] H H5 := k1.trans (k2.trans (k3.trans (k4.trans k5)))
      have rw1 : Rep H5 (.ref t5) (wholeF e f) := ⟨t5, .ref t1, .ref t4, rfl, g5, ⟨t1, v1, v2, rfl, (k2.trans (k3.trans (k4.trans k5))).tup g1, rep_keep kA r1, rep_keep kA r2⟩,
        ⟨t4, .ref t2, .ref t3, rfl, k5.tup g4, ⟨t2, v1, rfl, (k3.trans (k4.trans k5)).tup g2, rep_keep kA r1⟩, ⟨t3, v2, rfl, (k4.trans k5).tup g3, rep_keep kA r2⟩⟩⟩
      clear k1 k2 k3 k4 k5 g1 g2 g3 g4 g5 n1 n2 n3 n4 n5
      refine ⟨_, rfl, p1, _, _, .str e.word, e1, rfl, SqT.of (kA.get0 h1), atI_nat (j := 0) rfl, _, rfl, p2, _, _, .str f.word, e2, rfl, SqT.of (kA.get0 h2), atI_nat (j := 0) rfl, rfl, _, rfl, ite2 (fun d1 => ?_) (fun d1 => iteF ?_)⟩
      · have w1 : e.word = f.word := V.str.inj (of_decide_eq_true d1)
        refine ⟨_, rfl, p1, _, _, .str e.word, e1, rfl, SqT.of (kA.get0 h1), atI_nat (j := 0) rfl, (by show 4 ≤ sizeLine; decide), fun t ht => ⟨t, _, rfl, .inr (SqT.of upd_same), rfl, rfl, _, rfl, iteE (e.isW Wd.isCmp) (in_cmp e) (ite2 (fun d2 => ?_) (fun d2 => ?_))⟩⟩
        · obtain ⟨ew, a, b, rfl, hw⟩ := isW_bin d2
          obtain ⟨c, d, rfl⟩ := word_bin w1
          have k2 := kA.trans (Kt.new (o := .tup [.str "<", .str "<=", .str "==", .str "!="]) ht)
          have rw2 := rep_keep (Kt.new (S := []) (o := .tup [.str "<", .str "<=", .str "==", .str "!="]) ht) rw1
          generalize upd H5 t _ = H6 at k2 rw2
          obtain ⟨q1, a1, b1, g1, hq1, ra1, rb1⟩ := rep_keep k2 r1
          obtain ⟨q2, a2, b2, g2, hq2, ra2, rb2⟩ := rep_keep k2 r2
          have hda : a.depth < n ∧ b.depth < n := by
            have : max a.depth b.depth + 1 < n + 1 := hd
            omega
          refine ⟨_, rfl, _, rfl, q1, _, _, a1, g1, rfl, SqT.of hq1, atI_nat (j := 1) rfl, _, rfl, q2, _, _, a2, g2, rfl, SqT.of hq2, atI_nat (j := 1) rfl, a1, a2, a, c, rfl, ra1, ra2, hda.1, fun x3 H3 k3 r3 => ?_⟩
          refine ⟨_, rfl, q1, _, _, b1, g1, rfl, SqT.of (k3.get0 hq1), atI_nat (j := 2) rfl, _, rfl, q2, _, _, b2, g2, rfl, SqT.of (k3.get0 hq2), atI_nat (j := 2) rfl, b1, b2, b, d, rfl, rep_keep k3 rb1, rep_keep k3 rb2, hda.2, fun x4 H4 k4 r4 => ?_⟩
          refine ⟨_, _, _, _, _, _, rfl, rep_keep (k3.trans k4) rw2, rep_keep k4 r3, r4, fun x5 H5 k5 r5 => ?_⟩
          refine q x5 H5 (k2.trans (k3.trans (k4.trans k5))) ?_
          unfold flagTest
          rw [if_pos ⟨rfl, d2⟩]
          exact r5
        · have k6 := kA.trans (Kt.new (o := .tup [.str "<", .str "<=", .str "==", .str "!="]) ht)
          have rw2 := rep_keep (Kt.new (S := []) (o := .tup [.str "<", .str "<=", .str "==", .str "!="]) ht) rw1
          generalize upd H5 t _ = H6 at k6 rw2
          refine ⟨_, rfl, p1, _, _, .str e.word, e1, rfl, SqT.of (k6.get0 h1), atI_nat (j := 0) rfl, _, rfl, p2, _, _, .str f.word, e2, rfl, SqT.of (k6.get0 h2), atI_nat (j := 0) rfl, rfl, _, rfl, iteB true d1 (iteT ?_)⟩
          refine ⟨_, rfl, p1, _, _, .str e.word, e1, rfl, SqT.of (k6.get0 h1), atI_nat (j := 0) rfl, (by show 2 ≤ sizeLine; decide), fun t ht => ⟨t, _, rfl, .inr (SqT.of upd_same), rfl, rfl, _, rfl, iteE (e.isW Wd.isLogic) (in_logic e) (ite2 (fun d3 => ?_) (fun d3 => ?_))⟩⟩
          · obtain ⟨ew, a, b, rfl, hw⟩ := isW_bin d3
            obtain ⟨c, d, rfl⟩ := word_bin w1
            have k2 := k6.trans (Kt.new (o := .tup [.str "and", .str "or"]) ht)
            have rw3 := rep_keep (Kt.new (S := []) (o := .tup [.str "and", .str "or"]) ht) rw2
            generalize upd H6 t _ = H7 at k2 rw3
            obtain ⟨q1, a1, b1, g1, hq1, ra1, rb1⟩ := rep_keep k2 r1
            obtain ⟨q2, a2, b2, g2, hq2, ra2, rb2⟩ := rep_keep k2 r2
            have hda : a.depth < n ∧ b.depth < n := by
              have : max a.depth b.depth + 1 < n + 1 := hd
              omega
            refine ⟨_, rfl, _, rfl, q1, _, _, a1, g1, rfl, SqT.of hq1, atI_nat (j := 1) rfl, _, rfl, q2, _, _, a2, g2, rfl, SqT.of hq2, atI_nat (j := 1) rfl, a1, a2, a, c, rfl, ra1, ra2, hda.1, fun x3 H3 k3 r3 => ?_⟩
            refine ⟨_, rfl, q1, _, _, b1, g1, rfl, SqT.of (k3.get0 hq1), atI_nat (j := 2) rfl, _, rfl, q2, _, _, b2, g2, rfl, SqT.of (k3.get0 hq2), atI_nat (j := 2) rfl, b1, b2, b, d, rfl, rep_keep k3 rb1, rep_keep k3 rb2, hda.2, fun x4 H4 k4 r4 => ?_⟩
            refine ⟨_, _, _, _, _, _, rfl, rep_keep (k3.trans k4) rw3, rep_keep k4 r3, r4, fun x5 H5 k5 r5 => ?_⟩
            refine q x5 H5 (k2.trans (k3.trans (k4.trans k5))) ?_
            unfold flagTest
            rw [if_neg fun z => d2 z.2, if_pos ⟨rfl, d3⟩]
            exact r5
          · refine ⟨_, rfl, q _ _ (k6.trans (Kt.new ht)) ?_⟩
            rw [flag_eq e f no (fun z => d2 z.2) fun z => d3 z.2]
            exact rep_keep (Kt.new (S := []) ht) rw2
      · refine ⟨_, rfl, p1, _, _, .str e.word, e1, rfl, SqT.of (kA.get0 h1), atI_nat (j := 0) rfl, _, rfl, p2, _, _, .str f.word, e2, rfl, SqT.of (kA.get0 h2), atI_nat (j := 0) rfl, rfl, _, rfl, ite2 (fun d2 => absurd d2 d1) (fun _ => iteF ?_)⟩
        refine ⟨_, rfl, q _ _ kA ?_⟩
        rw [flag_eq e f no (fun z => d1 (decide_eq_true (congrArg V.str z.1))) fun z => d1 (decide_eq_true (congrArg V.str z.1))]
        exact rw1
end
end K80


set_option Elab.async false
set_option linter.all false
set_option maxRecDepth 100000
set_option maxHeartbeats 4000000
namespace K80
open PySem PySem.Spec PyProof.Rows L2 Lw
/-- keys that differ, plain values -/
def Clean (kvs : List (Key × V)) : Prop := (kvs.map (·.1)).Nodup ∧ ∀ q ∈ kvs, flatB q.2 = true
theorem clean_put {kvs : List (Key × V)} {k : Key} {v : V} (h : Clean kvs) (hv : flatB v = true) : Clean (putK kvs k v) := by
  obtain ⟨h1, h2⟩ := h
  cases e : valV kvs k with
  | none =>
    refine ⟨nd_putK v h1 e, fun q hq => ?_⟩
    rw [putK_new v e] at hq
    rcases List.mem_append.mp hq with z | z
    · exact h2 q z
    · rw [List.mem_singleton.mp z]
      exact hv
  | some x =>
    have a : (kvs.any fun kv => decide (kv.1 = k)) = true := by rw [valV_any, e]; rfl
    have e2 : putK kvs k v = kvs.map (fun kv => if kv.1 = k then (kv.1, v) else kv) := if_pos a
    rw [e2]
    refine ⟨?_, fun q hq => ?_⟩
    · rw [List.map_map]
      have e3 : kvs.map ((fun x : Key × V => x.1) ∘ fun kv => if kv.1 = k then (kv.1, v) else kv) = kvs.map (·.1) := List.map_congr_left fun kv _ => by
        show (if kv.1 = k then (kv.1, v) else kv).1 = kv.1
        split <;> rfl
      rw [e3]
      exact h1
    · obtain ⟨kv, hm, rfl⟩ := List.mem_map.mp hq
      split
      · exact hv
      · exact h2 kv hm
theorem clean_get : ∀ {kvs : List (Key × V)}, Clean kvs → ∀ q ∈ kvs, valV kvs q.1 = some q.2 ∧ flatB q.2 = true
  | [], _, q, hq => nomatch hq
  | p :: r, h, q, hq => by
    obtain ⟨h1, h2⟩ := h
    refine ⟨?_, h2 q hq⟩
    obtain ⟨n1, n2⟩ := List.nodup_cons.mp h1
    rcases List.mem_cons.mp hq with rfl | hq
    · exact valV_pos rfl
    · rw [valV_neg fun z : p.1 = q.1 => n1 (by
        show p.1 ∈ r.map (·.1)
        rw [z]
        exact List.mem_map.mpr ⟨q, hq, rfl⟩)]
      exact (clean_get ⟨n2, fun q hq => h2 q (List.mem_cons_of_mem _ hq)⟩ q hq).1
theorem ok_flat {s : So} {m : Nat} {v : V} (h : Ok s m v) : flatB v = true := by
  cases s with
  | num => obtain ⟨i, rfl, _⟩ := h; rfl
  | flag => obtain ⟨b, rfl⟩ := h; rfl
  | ref => rcases h with rfl | ⟨i, rfl⟩ <;> rfl
/-- the dict at d holds the values of the names -/
def EnvAt (H : Hp) (d : Addr) (nm : So → List Str) (ρ : Str → V) : Prop := ∃ kvs, H d = some (.dK kvs) ∧ Clean kvs ∧ ∀ s n, n ∈ nm s → valV kvs (Sum.inr n : Key) = some (ρ n)
theorem env_keep {S : List Addr} {H H' : Hp} {d : Addr} {nm : So → List Str} {ρ : Str → V} (k : Kt S H H') (n : d ∉ S) (h : EnvAt H d nm ρ) : EnvAt H' d nm ρ := by
  obtain ⟨kvs, h1, h0, h2⟩ := h
  exact ⟨kvs, k.get h1 n, h0, h2⟩
theorem env_get {H : Hp} {d : Addr} {nm : So → List Str} {ρ : Str → V} {s : So} {n : Str} (h : EnvAt H d nm ρ) (hn : n ∈ nm s) : DGet H d (.str n) (some (ρ n)) := by
  obtain ⟨kvs, h1, _, h2⟩ := h
  rw [← h2 s n hn]
  exact DGet.k (k := Sum.inr n) h1
theorem mul_w {i j : Int} {m n : Nat} (h1 : i.natAbs < 2 ^ m) (h2 : j.natAbs < 2 ^ n) (h : m + n < 900000) : CMulW i j := by
  have lg : ∀ (k : Nat) (x : Nat), x < 2 ^ k → x.log2 ≤ k := fun k x hx => by
    by_cases h0 : x = 0
    · subst h0
      exact Nat.zero_le _
    · exact Nat.le_of_lt ((Nat.log2_lt h0).mpr hx)
  have a := lg m _ h1
  have b := lg n _ h2
  show i.natAbs.log2 + j.natAbs.log2 < 1000000
  omega
theorem wt_out {nm : So → List Str} {s : So} {w : Wd} {a b : Ex} (h : Wt nm s (.bin w a b)) : s = w.outer := (wt_bin h).1
section
variable {P : Program} {w : World} {K : PySem.W.Frag} {mg : Str → Option Value} {base : Heap} (T : Facts K mg)
include T
def sp_combine : Sp := fun vs H Q _ => ∃ (w : Wd) (x y : V) (m n : Nat), vs = [.str w.str, x, y] ∧ Ok w.inner m x ∧ Ok w.inner n y ∧ (w.outer = .num → m + n < 900000) ∧ Q (opV w x y) H
theorem ok_combine : Df P w K mg base 1 "combine" ["word", "left", "right"] sp_combine := by
  refine Lw.Df.mk (T.d_combine) sc_combine (fun _ _ _ _ _ _ us hl => match us, hl with | [_, _, _], _ => rfl) (fun vs H Q E h => ?_) (fun f cdv A outer s H vs Q E hr h => ?_)
  · obtain ⟨_, _, _, _, _, rfl, _⟩ := h
    rfl
  have sc := sc_combine
  obtain ⟨w, x, y, m, n, rfl, hx, hy, hb, q⟩ := h
  refine ⟨_, (pss_cons (ps_if (pt_cmpR op_eq (pv 0) pe_str (nomark _))
(pss_one (ps_ret (pe_op op_add (pv 1) (pv 2))))
pss_nil)
(pss_cons (ps_if (pt_cmpR op_eq (pv 0) pe_str (nomark _))
(pss_one (ps_ret (pe_op op_sub (pv 1) (pv 2))))
pss_nil)
(pss_cons (ps_if (pt_cmpR op_eq (pv 0) pe_str (nomark _))
(pss_one (ps_ret (pe_op op_mulW (pv 1) (pv 2))))
pss_nil)
(pss_cons (ps_if (pt_cmpR op_eq (pv 0) pe_str (nomark _))
(pss_one (ps_ret (pe_cmpR op_lt (pv 1) (pv 2) (nomark _))))
pss_nil)
(pss_cons (ps_if (pt_cmpR op_eq (pv 0) pe_str (nomark _))
(pss_one (ps_ret (pe_cmpR op_le (pv 1) (pv 2) (nomark _))))
pss_nil)
(pss_cons (ps_if (pt_cmpR op_eq (pv 0) pe_str (nomark _))
(pss_one (ps_ret (pe_cmpR op_ne (pv 1) (pv 2) (nomark _))))
pss_nil)
(pss_cons (ps_if (pt_cmpR op_eq (pv 0) pe_str (nomark _))
(pss_one (ps_ret (pe_and (pv 1) (pe_one (pv 2)))))
pss_nil)
(pss_cons (ps_if (pt_cmpR op_eq (pv 0) pe_str (nomark _))
(pss_one (ps_ret (pe_or (pv 1) (pe_one (pv 2)))))
pss_nil)
(pss_one (ps_ret (pe_cmpR op_eq (pv 1) (pv 2) (nomark _)))))))))))), ?_⟩
  cases w with
  | add =>
    obtain ⟨i, rfl, h1⟩ := hx
    obtain ⟨j, rfl, h2⟩ := hy
    refine ⟨_, rfl, rfl, _, rfl, iteB true (by decide +kernel) (iteT ?_)⟩
    exact ⟨_, rfl, _, rfl, _, _, rfl, rfl, q⟩
  | sub =>
    obtain ⟨i, rfl, h1⟩ := hx
    obtain ⟨j, rfl, h2⟩ := hy
    refine ⟨_, rfl, rfl, _, rfl, iteB false (by decide +kernel) (iteF ?_)⟩
    refine ⟨_, rfl, rfl, _, rfl, iteB true (by decide +kernel) (iteT ?_)⟩
    exact ⟨_, rfl, _, rfl, _, _, rfl, rfl, q⟩
  | mul =>
    obtain ⟨i, rfl, h1⟩ := hx
    obtain ⟨j, rfl, h2⟩ := hy
    refine ⟨_, rfl, rfl, _, rfl, iteB false (by decide +kernel) (iteF ?_)⟩
    refine ⟨_, rfl, rfl, _, rfl, iteB false (by decide +kernel) (iteF ?_)⟩
    refine ⟨_, rfl, rfl, _, rfl, iteB true (by decide +kernel) (iteT ?_)⟩
    exact ⟨_, rfl, _, rfl, _, _, rfl, rfl, mul_w h1 h2 (hb rfl), q⟩
  | lt =>
    obtain ⟨i, rfl, h1⟩ := hx
    obtain ⟨j, rfl, h2⟩ := hy
    refine ⟨_, rfl, rfl, _, rfl, iteB false (by decide +kernel) (iteF ?_)⟩
    refine ⟨_, rfl, rfl, _, rfl, iteB false (by decide +kernel) (iteF ?_)⟩
    refine ⟨_, rfl, rfl, _, rfl, iteB false (by decide +kernel) (iteF ?_)⟩
    refine ⟨_, rfl, rfl, _, rfl, iteB true (by decide +kernel) (iteT ?_)⟩
    exact ⟨_, rfl, _, rfl, _, _, rfl, rfl, q⟩
  | le =>
    obtain ⟨i, rfl, h1⟩ := hx
    obtain ⟨j, rfl, h2⟩ := hy
    refine ⟨_, rfl, rfl, _, rfl, iteB false (by decide +kernel) (iteF ?_)⟩
    refine ⟨_, rfl, rfl, _, rfl, iteB false (by decide +kernel) (iteF ?_)⟩
    refine ⟨_, rfl, rfl, _, rfl, iteB false (by decide +kernel) (iteF ?_)⟩
    refine ⟨_, rfl, rfl, _, rfl, iteB false (by decide +kernel) (iteF ?_)⟩
    refine ⟨_, rfl, rfl, _, rfl, iteB true (by decide +kernel) (iteT ?_)⟩
    exact ⟨_, rfl, _, rfl, _, _, rfl, rfl, q⟩
  | eq =>
    obtain ⟨i, rfl, h1⟩ := hx
    obtain ⟨j, rfl, h2⟩ := hy
    refine ⟨_, rfl, rfl, _, rfl, iteB false (by decide +kernel) (iteF ?_)⟩
    refine ⟨_, rfl, rfl, _, rfl, iteB false (by decide +kernel) (iteF ?_)⟩
    refine ⟨_, rfl, rfl, _, rfl, iteB false (by decide +kernel) (iteF ?_)⟩
    refine ⟨_, rfl, rfl, _, rfl, iteB false (by decide +kernel) (iteF ?_)⟩
    refine ⟨_, rfl, rfl, _, rfl, iteB false (by decide +kernel) (iteF ?_)⟩
    refine ⟨_, rfl, rfl, _, rfl, iteB false (by decide +kernel) (iteF ?_)⟩
    refine ⟨_, rfl, rfl, _, rfl, iteB false (by decide +kernel) (iteF ?_)⟩
    refine ⟨_, rfl, rfl, _, rfl, iteB false (by decide +kernel) (iteF ?_)⟩
    exact ⟨_, rfl, _, rfl, rfl, q⟩
  | ne =>
    obtain ⟨i, rfl, h1⟩ := hx
    obtain ⟨j, rfl, h2⟩ := hy
    refine ⟨_, rfl, rfl, _, rfl, iteB false (by decide +kernel) (iteF ?_)⟩
    refine ⟨_, rfl, rfl, _, rfl, iteB false (by decide +kernel) (iteF ?_)⟩
    refine ⟨_, rfl, rfl, _, rfl, iteB false (by decide +kernel) (iteF ?_)⟩
    refine ⟨_, rfl, rfl, _, rfl, iteB false (by decide +kernel) (iteF ?_)⟩
    refine ⟨_, rfl, rfl, _, rfl, iteB false (by decide +kernel) (iteF ?_)⟩
    refine ⟨_, rfl, rfl, _, rfl, iteB true (by decide +kernel) (iteT ?_)⟩
    exact ⟨_, rfl, _, rfl, rfl, q⟩
  | and =>
    obtain ⟨i, rfl⟩ := hx
    obtain ⟨j, rfl⟩ := hy
    refine ⟨_, rfl, rfl, _, rfl, iteB false (by decide +kernel) (iteF ?_)⟩
    refine ⟨_, rfl, rfl, _, rfl, iteB false (by decide +kernel) (iteF ?_)⟩
    refine ⟨_, rfl, rfl, _, rfl, iteB false (by decide +kernel) (iteF ?_)⟩
    refine ⟨_, rfl, rfl, _, rfl, iteB false (by decide +kernel) (iteF ?_)⟩
    refine ⟨_, rfl, rfl, _, rfl, iteB false (by decide +kernel) (iteF ?_)⟩
    refine ⟨_, rfl, rfl, _, rfl, iteB false (by decide +kernel) (iteF ?_)⟩
    refine ⟨_, rfl, rfl, _, rfl, iteB true (by decide +kernel) (iteT ?_)⟩
    refine ⟨_, rfl, i, rfl, ?_⟩
    cases i with
    | true => exact iteT ⟨_, rfl, q⟩
    | false => exact iteF q
  | or =>
    obtain ⟨i, rfl⟩ := hx
    obtain ⟨j, rfl⟩ := hy
    refine ⟨_, rfl, rfl, _, rfl, iteB false (by decide +kernel) (iteF ?_)⟩
    refine ⟨_, rfl, rfl, _, rfl, iteB false (by decide +kernel) (iteF ?_)⟩
    refine ⟨_, rfl, rfl, _, rfl, iteB false (by decide +kernel) (iteF ?_)⟩
    refine ⟨_, rfl, rfl, _, rfl, iteB false (by decide +kernel) (iteF ?_)⟩
    refine ⟨_, rfl, rfl, _, rfl, iteB false (by decide +kernel) (iteF ?_)⟩
    refine ⟨_, rfl, rfl, _, rfl, iteB false (by decide +kernel) (iteF ?_)⟩
    refine ⟨_, rfl, rfl, _, rfl, iteB false (by decide +kernel) (iteF ?_)⟩
    refine ⟨_, rfl, rfl, _, rfl, iteB true (by decide +kernel) (iteT ?_)⟩
    refine ⟨_, rfl, i, rfl, ?_⟩
    cases i with
    | true => exact iteT q
    | false => exact iteF ⟨_, rfl, q⟩
  | same =>
    refine ⟨_, rfl, rfl, _, rfl, iteB false (by decide +kernel) (iteF ?_)⟩
    refine ⟨_, rfl, rfl, _, rfl, iteB false (by decide +kernel) (iteF ?_)⟩
    refine ⟨_, rfl, rfl, _, rfl, iteB false (by decide +kernel) (iteF ?_)⟩
    refine ⟨_, rfl, rfl, _, rfl, iteB false (by decide +kernel) (iteF ?_)⟩
    refine ⟨_, rfl, rfl, _, rfl, iteB false (by decide +kernel) (iteF ?_)⟩
    refine ⟨_, rfl, rfl, _, rfl, iteB false (by decide +kernel) (iteF ?_)⟩
    refine ⟨_, rfl, rfl, _, rfl, iteB false (by decide +kernel) (iteF ?_)⟩
    refine ⟨_, rfl, rfl, _, rfl, iteB false (by decide +kernel) (iteF ?_)⟩
    refine ⟨_, rfl, _, rfl, ?_, ?_⟩
    · rcases hx with rfl | ⟨i, rfl⟩ <;> rcases hy with rfl | ⟨j, rfl⟩ <;> rfl
    · exact q
def sp_eval (n : Nat) : Sp := fun vs H Q _ => ∃ (v : V) (d : Addr) (e : Ex) (s : So) (nm : So → List Str) (ρ : Str → V), vs = [v, .ref d] ∧ Rep H v e ∧ Wt nm s e ∧ EnvAt H d nm ρ ∧ EnvOk nm ρ ∧ e.Sm ∧ e.depth < n ∧ Q (e.val ρ) H
theorem ok_eval : ∀ n : Nat, Df P w K mg base (n + 1) "evaluate" ["expression", "values"] (sp_eval n)
  | 0 => Df.none (T.d_evaluate) (fun _ _ _ _ _ _ us hl => match us, hl with | [_, _], _ => rfl) fun vs H Q E ⟨_, _, _, _, _, _, _, _, _, _, _, _, h, _⟩ => absurd h (Nat.not_lt_zero _)
  | n + 1 => by
    have D_evaluate := ok_eval n
    have D_combine := ok_combine (P := P) (w := w) (base := base) T
    refine Lw.Df.mk (T.d_evaluate) sc_evaluate (fun _ _ _ _ _ _ us hl => match us, hl with | [_, _], _ => rfl) (fun vs H Q E h => ?_) (fun f cdv A outer s H vs Q E hr h => ?_)
    · obtain ⟨_, _, _, _, _, _, rfl, _⟩ := h
      rfl
    have sc := sc_evaluate
    obtain ⟨v, d, e, s, nm, ρ, rfl, r, ht, hE, hO, hS, hd, q⟩ := h
    refine ⟨_, (pss_cons (ps_set (i := 2) sc.nd rfl (by first | exact Or.inl rfl | exact Or.inr rfl) (pe_ix ix_tup (pv 0) pe_int (fun _ _ => rfl)))
(pss_cons (ps_if (PW.pt (pw_or (pt_cmpR op_eq (pv 2) pe_str (nomark _)) (pw_or1 (pt_cmpR op_eq (pv 2) pe_str (nomark _)))))
(pss_one (ps_ret (pe_ix ix_tup (pv 0) pe_int (fun _ _ => rfl))))
pss_nil)
(pss_cons (ps_if (pt_cmpR op_eq (pv 2) pe_str (nomark _))
(pss_one (ps_ret pe_non))
pss_nil)
(pss_cons (ps_if (pt_cmpR op_eq (pv 2) pe_str (nomark _))
(pss_one (ps_ret (pe_dget (hu_of hr) (pv 1) (pe_ix ix_tup (pv 0) pe_int (fun _ _ => rfl)) (fun _ _ => rfl))))
pss_nil)
(pss_cons (ps_if (pt_cmpR op_eq (pv 2) pe_str (nomark _))
(pss_one (ps_ret (pe_not (Lw.pe_d D_evaluate (hr.mono (by omega)) (pa_cons (pe_ix ix_tup (pv 0) pe_int (fun _ _ => rfl)) (pa_cons (pv 1) pa_nil))))))
pss_nil)
(pss_one (ps_ret (Lw.pe_d D_combine (hr.mono (by omega)) (pa_cons (pv 2) (pa_cons (Lw.pe_d D_evaluate (hr.mono (by omega)) (pa_cons (pe_ix ix_tup (pv 0) pe_int (fun _ _ => rfl)) (pa_cons (pv 1) pa_nil))) (pa_cons (Lw.pe_d D_evaluate (hr.mono (by omega)) (pa_cons (pe_ix ix_tup (pv 0) pe_int (fun _ _ => rfl)) (pa_cons (pv 1) pa_nil))) pa_nil))))))))))), ?_⟩
    cases e with
    | null =>
      obtain ⟨p, rfl, h1⟩ := r
      refine ⟨_, rfl, p, _, _, _, rfl, rfl, SqT.of h1, atI_nat (j := 0) rfl, ?_⟩
      refine ⟨_, rfl, rfl, _, rfl, iteB false (by decide +kernel) (iteF ?_)⟩
      refine ⟨_, rfl, rfl, _, rfl, iteB false (by decide +kernel) (iteF ?_)⟩
      refine ⟨_, rfl, rfl, _, rfl, iteB true (by decide +kernel) (iteT ?_)⟩
      exact q
    | name n =>
      obtain ⟨p, rfl, h1⟩ := r
      have hn : n ∈ nm s := by cases ht; assumption
      refine ⟨_, rfl, p, _, _, _, rfl, rfl, SqT.of h1, atI_nat (j := 0) rfl, ?_⟩
      refine ⟨_, rfl, rfl, _, rfl, iteB false (by decide +kernel) (iteF ?_)⟩
      refine ⟨_, rfl, rfl, _, rfl, iteB false (by decide +kernel) (iteF ?_)⟩
      refine ⟨_, rfl, rfl, _, rfl, iteB false (by decide +kernel) (iteF ?_)⟩
      refine ⟨_, rfl, rfl, _, rfl, iteB true (by decide +kernel) (iteT ?_)⟩
      exact ⟨_, rfl, _, rfl, p, _, _, _, rfl, rfl, SqT.of h1, atI_nat (j := 1) rfl, d, _, rfl, env_get hE hn, q⟩
    | num i =>
      obtain ⟨p, rfl, h1⟩ := r
      refine ⟨_, rfl, p, _, _, _, rfl, rfl, SqT.of h1, atI_nat (j := 0) rfl, ?_⟩
      refine ⟨_, rfl, rfl, _, rfl, iteB true (by decide +kernel) (iteT ?_)⟩
      refine iteT ?_
      exact ⟨_, rfl, p, _, _, _, rfl, rfl, SqT.of h1, atI_nat (j := 1) rfl, q⟩
    | flag b =>
      obtain ⟨p, rfl, h1⟩ := r
      refine ⟨_, rfl, p, _, _, _, rfl, rfl, SqT.of h1, atI_nat (j := 0) rfl, ?_⟩
      refine ⟨_, rfl, rfl, _, rfl, iteB false (by decide +kernel) (iteF ?_)⟩
      refine ⟨_, rfl, rfl, _, rfl, iteB true (by decide +kernel) (iteT ?_)⟩
      exact ⟨_, rfl, p, _, _, _, rfl, rfl, SqT.of h1, atI_nat (j := 1) rfl, q⟩
    | un a =>
      obtain ⟨p, va, rfl, h1, ra⟩ := r
      obtain ⟨rfl, hta⟩ := wt_un ht
      obtain ⟨b, hb⟩ := val_bl hO hta
      have q' : Q (notV (a.val ρ)) H := q
      rw [hb] at q'
      refine ⟨_, rfl, p, _, _, _, rfl, rfl, SqT.of h1, atI_nat (j := 0) rfl, ?_⟩
      refine ⟨_, rfl, rfl, _, rfl, iteB false (by decide +kernel) (iteF ?_)⟩
      refine ⟨_, rfl, rfl, _, rfl, iteB false (by decide +kernel) (iteF ?_)⟩
      refine ⟨_, rfl, rfl, _, rfl, iteB false (by decide +kernel) (iteF ?_)⟩
      refine ⟨_, rfl, rfl, _, rfl, iteB false (by decide +kernel) (iteF ?_)⟩
      refine ⟨_, rfl, rfl, _, rfl, iteB true (by decide +kernel) (iteT ?_)⟩
      refine ⟨_, rfl, p, _, _, _, rfl, rfl, SqT.of h1, atI_nat (j := 1) rfl, _, rfl, va, d, a, .flag, nm, ρ, rfl, ra, hta, hE, hO, hS, Nat.lt_of_succ_lt_succ hd, ?_⟩
      rw [hb]
      exact ⟨b, rfl, q'⟩
    | bin u a b =>
      obtain ⟨p, va, vb, rfl, h1, ra, rb⟩ := r
      obtain ⟨rfl, hta, htb⟩ := wt_bin ht
      have hda : a.depth < n ∧ b.depth < n := by
        have : max a.depth b.depth + 1 < n + 1 := hd
        omega
      refine ⟨_, rfl, p, _, _, _, rfl, rfl, SqT.of h1, atI_nat (j := 0) rfl, ?_⟩
      refine ⟨_, rfl, rfl, _, rfl, iteB false (by cases u <;> decide +kernel) (iteF ⟨_, rfl, rfl, _, rfl, iteB false (by cases u <;> decide +kernel) (iteF ?_)⟩)⟩
      refine ⟨_, rfl, rfl, _, rfl, iteB false (by cases u <;> decide +kernel) (iteF ⟨_, rfl, rfl, _, rfl, iteB false (by cases u <;> decide +kernel) (iteF ⟨_, rfl, rfl, _, rfl, iteB false (by cases u <;> decide +kernel) (iteF ?_)⟩)⟩)⟩
      refine ⟨_, rfl, _, rfl, p, _, _, _, rfl, rfl, SqT.of h1, atI_nat (j := 1) rfl, _, rfl, va, d, a, _, nm, ρ, rfl, ra, hta, hE, hO, hS.1, hda.1, ?_⟩
      refine ⟨_, rfl, p, _, _, _, rfl, rfl, SqT.of h1, atI_nat (j := 2) rfl, _, rfl, vb, d, b, _, nm, ρ, rfl, rb, htb, hE, hO, hS.2.1, hda.2, ?_⟩
      exact ⟨u, _, _, a.bnd, b.bnd, rfl, val_ok hO hta, val_ok hO htb, hS.2.2, q⟩
def sp_lval (n : Nat) : Sp := fun vs H Q _ => ∃ (v : V) (d : Addr) (e : Ex) (s : So) (nm : So → List Str) (ρ : Str → V), vs = [v, .ref d] ∧ Rep H v e ∧ Wt nm s e ∧ EnvAt H d nm ρ ∧ EnvOk nm ρ ∧ e.Sm ∧ e.depth < n ∧ ∀ H', Kt [] H H' → Q (e.val ρ) H'
theorem ok_lval : ∀ n : Nat, Df P w K mg base (n + 1) "_law_value" ["expression", "env"] (sp_lval n)
  | 0 => Df.none (T.d__law_value) (fun _ _ _ _ _ _ us hl => match us, hl with | [_, _], _ => rfl) fun vs H Q E ⟨_, _, _, _, _, _, _, _, _, _, _, _, h, _⟩ => absurd h (Nat.not_lt_zero _)
  | n + 1 => by
    have D__law_value := ok_lval n
    refine Lw.Df.mk (T.d__law_value) sc__law_value (fun _ _ _ _ _ _ us hl => match us, hl with | [_, _], _ => rfl) (fun vs H Q E h => ?_) (fun f cdv A outer s H vs Q E hr h => ?_)
    · obtain ⟨_, _, _, _, _, _, rfl, _⟩ := h
      rfl
    have sc := sc__law_value
    obtain ⟨v, d, e, s, nm, ρ, rfl, r, ht, hE, hO, hS, hd, q⟩ := h
    refine ⟨_, (pss_cons (ps_set (i := 2) sc.nd rfl (by first | exact Or.inl rfl | exact Or.inr rfl) (pe_ix ix_tup (pv 0) pe_int (fun _ _ => rfl)))
(pss_cons (ps_if (pt_cmpR op_eq (pv 2) pe_str (nomark _))
(pss_one (ps_ret pe_non))
pss_nil)
(pss_cons (ps_if (pt_cmpR op_eq (pv 2) pe_str (nomark _))
(pss_one (ps_ret (pe_dget (hu_of hr) (pv 1) (pe_ix ix_tup (pv 0) pe_int (fun _ _ => rfl)) (fun _ _ => rfl))))
pss_nil)
(pss_cons (ps_if (PW.pt (pw_or (pt_cmpR op_eq (pv 2) pe_str (nomark _)) (pw_or1 (pt_cmpR op_eq (pv 2) pe_str (nomark _)))))
(pss_one (ps_ret (pe_ix ix_tup (pv 0) pe_int (fun _ _ => rfl))))
pss_nil)
(pss_cons (ps_set (i := 3) sc.nd rfl (by first | exact Or.inl rfl | exact Or.inr rfl) (Lw.pe_d D__law_value (hr.mono (by omega)) (pa_cons (pe_ix ix_tup (pv 0) pe_int (fun _ _ => rfl)) (pa_cons (pv 1) pa_nil))))
(pss_cons (ps_if (pt_cmpR op_eq (pv 2) pe_str (nomark _))
(pss_one (ps_ret (pe_not (pv 3))))
pss_nil)
(pss_cons (ps_set (i := 4) sc.nd rfl (by first | exact Or.inl rfl | exact Or.inr rfl) (Lw.pe_d D__law_value (hr.mono (by omega)) (pa_cons (pe_ix ix_tup (pv 0) pe_int (fun _ _ => rfl)) (pa_cons (pv 1) pa_nil))))
(pss_cons (ps_if (pt_cmpR op_in_seq (pv 2) (pe_lst (pa_cons pe_str (pa_cons pe_str (pa_cons pe_str pa_nil)))) (by rfl))
(pss_one (ps_ret (pe_ix ix_list (pe_lst (pa_cons (pe_op op_add (pv 3) (pv 4)) (pa_cons (pe_op op_sub (pv 3) (pv 4)) (pa_cons (pe_op op_mulW (pv 3) (pv 4)) pa_nil)))) (pe_bm PySem.F.plainAttrs_list PySem.F.slot_list_index PySem.F.type_list_index mt_index (pe_lst (pa_cons pe_str (pa_cons pe_str (pa_cons pe_str pa_nil)))) (pa_cons (pv 2) pa_nil)) (fun _ _ => rfl))))
pss_nil)
(pss_cons (ps_if (pt_cmpR op_in_seq (pv 2) (pe_lst (pa_cons pe_str (pa_cons pe_str pa_nil))) (by rfl))
(pss_one (ps_ret (pe_or (pe_cmpR op_lt (pv 3) (pv 4) (nomark _)) (pe_one (pe_and (pe_cmpR op_eq (pv 2) pe_str (nomark _)) (pe_one (pe_cmpR op_eq (pv 3) (pv 4) (nomark _))))))))
pss_nil)
(pss_cons (ps_if (pt_cmpR op_in_seq (pv 2) (pe_lst (pa_cons pe_str (pa_cons pe_str pa_nil))) (by rfl))
(pss_one (ps_ret (pe_ix ix_list (pe_lst (pa_cons (pe_and (pv 3) (pe_one (pv 4))) (pa_cons (pe_or (pv 3) (pe_one (pv 4))) pa_nil))) (pe_callTy call_int1 (by rfl) T.z_int boot_int (pa_cons (pe_cmpR op_eq (pv 2) pe_str (nomark _)) pa_nil)) (fun _ _ => rfl))))
pss_nil)
(pss_one (ps_ret (pe_cmpR op_eq (pe_cmpR op_eq (pv 3) (pv 4) (nomark _)) (pe_cmpR op_ne (pv 2) pe_str (nomark _)) (nomark _)))))))))))))), ?_⟩
    cases e with
    | null =>
      obtain ⟨p, rfl, h1⟩ := r
      refine ⟨_, rfl, p, _, _, _, rfl, rfl, SqT.of h1, atI_nat (j := 0) rfl, ?_⟩
      refine ⟨_, rfl, rfl, _, rfl, iteB true (by decide +kernel) (iteT ?_)⟩
      exact q _ (Kt.refl _)
    | name n =>
      obtain ⟨p, rfl, h1⟩ := r
      have hn : n ∈ nm s := by cases ht; assumption
      refine ⟨_, rfl, p, _, _, _, rfl, rfl, SqT.of h1, atI_nat (j := 0) rfl, ?_⟩
      refine ⟨_, rfl, rfl, _, rfl, iteB false (by decide +kernel) (iteF ?_)⟩
      refine ⟨_, rfl, rfl, _, rfl, iteB true (by decide +kernel) (iteT ?_)⟩
      exact ⟨_, rfl, _, rfl, p, _, _, _, rfl, rfl, SqT.of h1, atI_nat (j := 1) rfl, d, _, rfl, env_get hE hn, q _ (Kt.refl _)⟩
    | num i =>
      obtain ⟨p, rfl, h1⟩ := r
      refine ⟨_, rfl, p, _, _, _, rfl, rfl, SqT.of h1, atI_nat (j := 0) rfl, ?_⟩
      refine ⟨_, rfl, rfl, _, rfl, iteB false (by decide +kernel) (iteF ?_)⟩
      refine ⟨_, rfl, rfl, _, rfl, iteB false (by decide +kernel) (iteF ?_)⟩
      refine ⟨_, rfl, rfl, _, rfl, iteB true (by decide +kernel) (iteT ?_)⟩
      refine iteT ?_
      exact ⟨_, rfl, p, _, _, _, rfl, rfl, SqT.of h1, atI_nat (j := 1) rfl, q _ (Kt.refl _)⟩
    | flag b =>
      obtain ⟨p, rfl, h1⟩ := r
      refine ⟨_, rfl, p, _, _, _, rfl, rfl, SqT.of h1, atI_nat (j := 0) rfl, ?_⟩
      refine ⟨_, rfl, rfl, _, rfl, iteB false (by decide +kernel) (iteF ?_)⟩
      refine ⟨_, rfl, rfl, _, rfl, iteB false (by decide +kernel) (iteF ?_)⟩
      refine ⟨_, rfl, rfl, _, rfl, iteB false (by decide +kernel) (iteF ?_)⟩
      refine ⟨_, rfl, rfl, _, rfl, iteB true (by decide +kernel) (iteT ?_)⟩
      exact ⟨_, rfl, p, _, _, _, rfl, rfl, SqT.of h1, atI_nat (j := 1) rfl, q _ (Kt.refl _)⟩
    | un a =>
      obtain ⟨p, va, rfl, h1, ra⟩ := r
      obtain ⟨rfl, hta⟩ := wt_un ht
      obtain ⟨b, hb⟩ := val_bl hO hta
      have q' : ∀ H', Kt [] H H' → Q (notV (a.val ρ)) H' := q
      rw [hb] at q'
      refine ⟨_, rfl, p, _, _, _, rfl, rfl, SqT.of h1, atI_nat (j := 0) rfl, ?_⟩
      refine ⟨_, rfl, rfl, _, rfl, iteB false (by decide +kernel) (iteF ?_)⟩
      refine ⟨_, rfl, rfl, _, rfl, iteB false (by decide +kernel) (iteF ?_)⟩
      refine ⟨_, rfl, rfl, _, rfl, iteB false (by decide +kernel) (iteF ?_)⟩
      refine ⟨_, rfl, rfl, _, rfl, iteB false (by decide +kernel) (iteF ?_)⟩
      refine ⟨_, rfl, p, _, _, _, rfl, rfl, SqT.of h1, atI_nat (j := 1) rfl, _, rfl, va, d, a, .flag, nm, ρ, rfl, ra, hta, hE, hO, hS, Nat.lt_of_succ_lt_succ hd, fun H1 k1 => ?_⟩
      rw [hb]
      refine ⟨_, rfl, rfl, _, rfl, iteB true (by decide +kernel) (iteT ?_)⟩
      exact ⟨_, rfl, b, rfl, q' _ k1⟩
    | bin u a b =>
      obtain ⟨p, va, vb, rfl, h1, ra, rb⟩ := r
      obtain ⟨rfl, hta, htb⟩ := wt_bin ht
      have hda : a.depth < n ∧ b.depth < n := by
        have : max a.depth b.depth + 1 < n + 1 := hd
        omega
      refine ⟨_, rfl, p, _, _, _, rfl, rfl, SqT.of h1, atI_nat (j := 0) rfl, ?_⟩
      refine ⟨_, rfl, rfl, _, rfl, iteB false (by cases u <;> decide +kernel) (iteF ⟨_, rfl, rfl, _, rfl, iteB false (by cases u <;> decide +kernel) (iteF ?_)⟩)⟩
      refine ⟨_, rfl, rfl, _, rfl, iteB false (by cases u <;> decide +kernel) (iteF ⟨_, rfl, rfl, _, rfl, iteB false (by cases u <;> decide +kernel) (iteF ?_)⟩)⟩
      refine ⟨_, rfl, p, _, _, _, rfl, rfl, SqT.of h1, atI_nat (j := 1) rfl, _, rfl, va, d, a, _, nm, ρ, rfl, ra, hta, hE, hO, hS.1, hda.1, fun H1 k1 => ?_⟩
      refine ⟨_, rfl, rfl, _, rfl, iteB false (by cases u <;> decide +kernel) (iteF ?_)⟩
      refine ⟨_, rfl, p, _, _, _, rfl, rfl, SqT.of (k1.get0 h1), atI_nat (j := 2) rfl, _, rfl, vb, d, b, _, nm, ρ, rfl, rep_keep k1 rb, htb, env_keep k1 (by simp) hE, hO, hS.2.1, hda.2, fun H2 k2 => ?_⟩
      have kk := k1.trans k2
      have oa := val_ok hO hta
      have ob := val_ok hO htb
      have q' : ∀ H', Kt [] H H' → Q (opV u (a.val ρ) (b.val ρ)) H' := q
      have hb := hS.2.2
      clear q
      generalize a.val ρ = x at oa q' ⊢
      generalize b.val ρ = y at ob q' ⊢
      have step : ∀ {H3 : Hp} {l : Addr} {o : HO}, Kt [] H H3 → H3 l = none → Kt [] H (upd H3 l o) := fun k n => k.trans (Kt.new n)
      have kl := fun {l} {o} => step (l := l) (o := o) kk
      cases u with
      | add =>
        obtain ⟨i, rfl, g1⟩ := oa
        obtain ⟨j, rfl, g2⟩ := ob
        refine ⟨_, rfl, (by decide), fun l hl => ⟨l, _, rfl, .inl (SqL.of upd_same), rfl, rfl, _, rfl, iteE true (by decide +kernel) (iteT ?_)⟩⟩
        refine ⟨_, rfl, _, rfl, _, _, rfl, rfl, _, rfl, _, rfl, _, _, rfl, rfl, _, rfl, _, rfl, _, _, rfl, rfl, mul_w g1 g2 (hb rfl), (by show 3 ≤ sizeLine; decide), fun l1 n1 => ⟨(by show 3 ≤ sizeLine; decide), fun l2 n2 => ?_⟩⟩
        refine ⟨.inl ⟨rfl, _, SqL.of upd_same⟩, _, rfl, l2, _, _, 0, _, rfl, rfl, SqL.of upd_same, rfl, rfl, rfl, (by decide +kernel), fun m z' h => absurd h (Nat.not_lt_zero _), ?_⟩
        exact ⟨l1, _, _, _, rfl, rfl, SqL.of ((Kt.new (S := []) n2).get0 upd_same), atI_nat (j := 0) rfl, q' _ (step (step (step kk hl) n1) n2)⟩
      | sub =>
        obtain ⟨i, rfl, g1⟩ := oa
        obtain ⟨j, rfl, g2⟩ := ob
        refine ⟨_, rfl, (by decide), fun l hl => ⟨l, _, rfl, .inl (SqL.of upd_same), rfl, rfl, _, rfl, iteE true (by decide +kernel) (iteT ?_)⟩⟩
        refine ⟨_, rfl, _, rfl, _, _, rfl, rfl, _, rfl, _, rfl, _, _, rfl, rfl, _, rfl, _, rfl, _, _, rfl, rfl, mul_w g1 g2 (hb rfl), (by show 3 ≤ sizeLine; decide), fun l1 n1 => ⟨(by show 3 ≤ sizeLine; decide), fun l2 n2 => ?_⟩⟩
        refine ⟨.inl ⟨rfl, _, SqL.of upd_same⟩, _, rfl, l2, _, _, 1, _, rfl, rfl, SqL.of upd_same, rfl, rfl, rfl, (by decide +kernel), fun m z' h hz => ?_, ?_⟩
        · match m, h with
          | 0, _ =>
            cases hz
            decide +kernel
        exact ⟨l1, _, _, _, rfl, rfl, SqL.of ((Kt.new (S := []) n2).get0 upd_same), atI_nat (j := 1) rfl, q' _ (step (step (step kk hl) n1) n2)⟩
      | mul =>
        obtain ⟨i, rfl, g1⟩ := oa
        obtain ⟨j, rfl, g2⟩ := ob
        refine ⟨_, rfl, (by decide), fun l hl => ⟨l, _, rfl, .inl (SqL.of upd_same), rfl, rfl, _, rfl, iteE true (by decide +kernel) (iteT ?_)⟩⟩
        refine ⟨_, rfl, _, rfl, _, _, rfl, rfl, _, rfl, _, rfl, _, _, rfl, rfl, _, rfl, _, rfl, _, _, rfl, rfl, mul_w g1 g2 (hb rfl), (by show 3 ≤ sizeLine; decide), fun l1 n1 => ⟨(by show 3 ≤ sizeLine; decide), fun l2 n2 => ?_⟩⟩
        refine ⟨.inl ⟨rfl, _, SqL.of upd_same⟩, _, rfl, l2, _, _, 2, _, rfl, rfl, SqL.of upd_same, rfl, rfl, rfl, (by decide +kernel), fun m z' h hz => ?_, ?_⟩
        · match m, h with
          | 0, _ =>
            cases hz
            decide +kernel
          | 1, _ =>
            cases hz
            decide +kernel
        exact ⟨l1, _, _, _, rfl, rfl, SqL.of ((Kt.new (S := []) n2).get0 upd_same), atI_nat (j := 2) rfl, q' _ (step (step (step kk hl) n1) n2)⟩
      | lt =>
        obtain ⟨i, rfl, g1⟩ := oa
        obtain ⟨j, rfl, g2⟩ := ob
        refine ⟨_, rfl, (by decide), fun l hl => ⟨l, _, rfl, .inl (SqL.of upd_same), rfl, rfl, _, rfl, iteE false (by decide +kernel) (iteF ?_)⟩⟩
        have k3 := step (l := l) (o := .lst [.str "+", .str "-", .str "*"]) kk hl
        refine ⟨_, rfl, (by decide), fun l hl => ⟨l, _, rfl, .inl (SqL.of upd_same), rfl, rfl, _, rfl, iteE true (by decide +kernel) (iteT ?_)⟩⟩
        have k4 := k3.trans (Kt.new (o := .lst [.str "<", .str "<="]) hl)
        refine ⟨_, rfl, _, rfl, _, _, rfl, rfl, _, rfl, ?_⟩
        by_cases c : i < j
        · rw [decide_eq_true c]
          have z := q' _ k4
          rw [show opV .lt (.int i) (.int j) = .bl true from congrArg V.bl (decide_eq_true c)] at z
          exact iteT z
        · rw [decide_eq_false c]
          refine iteF ⟨_, rfl, rfl, _, rfl, iteB false (by decide +kernel) (iteF ?_)⟩
          have z := q' _ k4
          rw [show opV .lt (.int i) (.int j) = .bl false from congrArg V.bl (decide_eq_false c)] at z
          exact z
      | le =>
        obtain ⟨i, rfl, g1⟩ := oa
        obtain ⟨j, rfl, g2⟩ := ob
        refine ⟨_, rfl, (by decide), fun l hl => ⟨l, _, rfl, .inl (SqL.of upd_same), rfl, rfl, _, rfl, iteE false (by decide +kernel) (iteF ?_)⟩⟩
        have k3 := step (l := l) (o := .lst [.str "+", .str "-", .str "*"]) kk hl
        refine ⟨_, rfl, (by decide), fun l hl => ⟨l, _, rfl, .inl (SqL.of upd_same), rfl, rfl, _, rfl, iteE true (by decide +kernel) (iteT ?_)⟩⟩
        have k4 := k3.trans (Kt.new (o := .lst [.str "<", .str "<="]) hl)
        refine ⟨_, rfl, _, rfl, _, _, rfl, rfl, _, rfl, ?_⟩
        by_cases c : i < j
        · rw [decide_eq_true c]
          have z := q' _ k4
          rw [show opV .le (.int i) (.int j) = .bl true from congrArg V.bl (decide_eq_true (by omega))] at z
          exact iteT z
        · rw [decide_eq_false c]
          refine iteF ⟨_, rfl, rfl, _, rfl, iteB true (by decide +kernel) (iteT ⟨_, rfl, _, rfl, rfl, ?_⟩)⟩
          have z := q' _ k4
          rw [show opV .le (.int i) (.int j) = .bl (decide (V.int i = V.int j)) from congrArg V.bl (by
            by_cases c2 : i = j
            · rw [c2]
              simp
            · rw [decide_eq_false (by omega), decide_eq_false fun z => c2 (V.int.inj z)])] at z
          exact z
      | eq =>
        refine ⟨_, rfl, (by decide), fun l hl => ⟨l, _, rfl, .inl (SqL.of upd_same), rfl, rfl, _, rfl, iteE false (by decide +kernel) (iteF ?_)⟩⟩
        have k3 := step (l := l) (o := .lst [.str "+", .str "-", .str "*"]) kk hl
        refine ⟨_, rfl, (by decide), fun l hl => ⟨l, _, rfl, .inl (SqL.of upd_same), rfl, rfl, _, rfl, iteE false (by decide +kernel) (iteF ?_)⟩⟩
        have k4 := k3.trans (Kt.new (o := .lst [.str "<", .str "<="]) hl)
        refine ⟨_, rfl, (by decide), fun l hl => ⟨l, _, rfl, .inl (SqL.of upd_same), rfl, rfl, _, rfl, iteE false (by decide +kernel) (iteF ?_)⟩⟩
        have k5 := k4.trans (Kt.new (o := .lst [.str "and", .str "or"]) hl)
        obtain ⟨i, rfl, g1⟩ := oa
        obtain ⟨j, rfl, g2⟩ := ob
        refine ⟨_, rfl, _, rfl, rfl, _, rfl, rfl, rfl, ?_⟩
        have z := q' _ k5
        have e1 : (!decide (V.str Wd.eq.str = V.str "!=")) = true := by decide +kernel
        rw [e1]
        have e2 : ∀ b : Bool, decide (V.bl b = V.bl true) = b := by decide
        rw [e2]
        exact z
      | ne =>
        refine ⟨_, rfl, (by decide), fun l hl => ⟨l, _, rfl, .inl (SqL.of upd_same), rfl, rfl, _, rfl, iteE false (by decide +kernel) (iteF ?_)⟩⟩
        have k3 := step (l := l) (o := .lst [.str "+", .str "-", .str "*"]) kk hl
        refine ⟨_, rfl, (by decide), fun l hl => ⟨l, _, rfl, .inl (SqL.of upd_same), rfl, rfl, _, rfl, iteE false (by decide +kernel) (iteF ?_)⟩⟩
        have k4 := k3.trans (Kt.new (o := .lst [.str "<", .str "<="]) hl)
        refine ⟨_, rfl, (by decide), fun l hl => ⟨l, _, rfl, .inl (SqL.of upd_same), rfl, rfl, _, rfl, iteE false (by decide +kernel) (iteF ?_)⟩⟩
        have k5 := k4.trans (Kt.new (o := .lst [.str "and", .str "or"]) hl)
        obtain ⟨i, rfl, g1⟩ := oa
        obtain ⟨j, rfl, g2⟩ := ob
        refine ⟨_, rfl, _, rfl, rfl, _, rfl, rfl, rfl, ?_⟩
        have z := q' _ k5
        have e1 : (!decide (V.str Wd.ne.str = V.str "!=")) = false := by decide +kernel
        rw [e1]
        have e2 : ∀ b : Bool, decide (V.bl b = V.bl false) = !b := by decide
        rw [e2]
        exact z
      | same =>
        refine ⟨_, rfl, (by decide), fun l hl => ⟨l, _, rfl, .inl (SqL.of upd_same), rfl, rfl, _, rfl, iteE false (by decide +kernel) (iteF ?_)⟩⟩
        have k3 := step (l := l) (o := .lst [.str "+", .str "-", .str "*"]) kk hl
        refine ⟨_, rfl, (by decide), fun l hl => ⟨l, _, rfl, .inl (SqL.of upd_same), rfl, rfl, _, rfl, iteE false (by decide +kernel) (iteF ?_)⟩⟩
        have k4 := k3.trans (Kt.new (o := .lst [.str "<", .str "<="]) hl)
        refine ⟨_, rfl, (by decide), fun l hl => ⟨l, _, rfl, .inl (SqL.of upd_same), rfl, rfl, _, rfl, iteE false (by decide +kernel) (iteF ?_)⟩⟩
        have k5 := k4.trans (Kt.new (o := .lst [.str "and", .str "or"]) hl)
        refine ⟨_, rfl, _, rfl, ?_, _, rfl, rfl, rfl, ?_⟩
        · rcases oa with rfl | ⟨i, rfl⟩ <;> rcases ob with rfl | ⟨j, rfl⟩ <;> rfl
        have z := q' _ k5
        have e1 : (!decide (V.str Wd.same.str = V.str "!=")) = true := by decide +kernel
        rw [e1]
        have e2 : ∀ b : Bool, decide (V.bl b = V.bl true) = b := by decide
        rw [e2]
        exact z
      | and =>
        obtain ⟨i, rfl⟩ := oa
        obtain ⟨j, rfl⟩ := ob
        refine ⟨_, rfl, (by decide), fun l hl => ⟨l, _, rfl, .inl (SqL.of upd_same), rfl, rfl, _, rfl, iteE false (by decide +kernel) (iteF ?_)⟩⟩
        have k3 := step (l := l) (o := .lst [.str "+", .str "-", .str "*"]) kk hl
        refine ⟨_, rfl, (by decide), fun l hl => ⟨l, _, rfl, .inl (SqL.of upd_same), rfl, rfl, _, rfl, iteE false (by decide +kernel) (iteF ?_)⟩⟩
        have k4 := k3.trans (Kt.new (o := .lst [.str "<", .str "<="]) hl)
        refine ⟨_, rfl, (by decide), fun l hl => ⟨l, _, rfl, .inl (SqL.of upd_same), rfl, rfl, _, rfl, iteE true (by decide +kernel) (iteT ?_)⟩⟩
        have k5 := k4.trans (Kt.new (o := .lst [.str "and", .str "or"]) hl)
        generalize upd _ l _ = H5 at k5 ⊢
        have fin : ∀ l1, H5 l1 = none → Kt [] H (upd H5 l1 (.lst [.bl (i && j), .bl (i || j)])) := fun l1 n1 => step k5 n1
        cases i <;> cases j <;>
          first
          | exact ⟨_, rfl, _, rfl, iteF ⟨_, rfl, _, rfl, iteF ⟨_, rfl, (by decide), fun l1 n1 => ⟨_, rfl, rfl, .inr ⟨_, rfl, l1, _, _, _, rfl, rfl, SqL.of upd_same, (atI_nat (j := 0) rfl), q' _ (fin l1 n1)⟩⟩⟩⟩⟩
          | exact ⟨_, rfl, _, rfl, iteT ⟨_, rfl, _, rfl, _, rfl, iteT ⟨(by decide), fun l1 n1 => ⟨_, rfl, rfl, .inr ⟨_, rfl, l1, _, _, _, rfl, rfl, SqL.of upd_same, (atI_nat (j := 0) rfl), q' _ (fin l1 n1)⟩⟩⟩⟩⟩
      | or =>
        obtain ⟨i, rfl⟩ := oa
        obtain ⟨j, rfl⟩ := ob
        refine ⟨_, rfl, (by decide), fun l hl => ⟨l, _, rfl, .inl (SqL.of upd_same), rfl, rfl, _, rfl, iteE false (by decide +kernel) (iteF ?_)⟩⟩
        have k3 := step (l := l) (o := .lst [.str "+", .str "-", .str "*"]) kk hl
        refine ⟨_, rfl, (by decide), fun l hl => ⟨l, _, rfl, .inl (SqL.of upd_same), rfl, rfl, _, rfl, iteE false (by decide +kernel) (iteF ?_)⟩⟩
        have k4 := k3.trans (Kt.new (o := .lst [.str "<", .str "<="]) hl)
        refine ⟨_, rfl, (by decide), fun l hl => ⟨l, _, rfl, .inl (SqL.of upd_same), rfl, rfl, _, rfl, iteE true (by decide +kernel) (iteT ?_)⟩⟩
        have k5 := k4.trans (Kt.new (o := .lst [.str "and", .str "or"]) hl)
        generalize upd _ l _ = H5 at k5 ⊢
        have fin : ∀ l1, H5 l1 = none → Kt [] H (upd H5 l1 (.lst [.bl (i && j), .bl (i || j)])) := fun l1 n1 => step k5 n1
        cases i <;> cases j <;>
          first
          | exact ⟨_, rfl, _, rfl, iteF ⟨_, rfl, _, rfl, iteF ⟨_, rfl, (by decide), fun l1 n1 => ⟨_, rfl, rfl, .inr ⟨_, rfl, l1, _, _, _, rfl, rfl, SqL.of upd_same, (atI_nat (j := 1) rfl), q' _ (fin l1 n1)⟩⟩⟩⟩⟩
          | exact ⟨_, rfl, _, rfl, iteT ⟨_, rfl, _, rfl, _, rfl, iteT ⟨(by decide), fun l1 n1 => ⟨_, rfl, rfl, .inr ⟨_, rfl, l1, _, _, _, rfl, rfl, SqL.of upd_same, (atI_nat (j := 1) rfl), q' _ (fin l1 n1)⟩⟩⟩⟩⟩
end
end K80


set_option Elab.async false
set_option linter.all false
set_option maxRecDepth 100000
set_option maxHeartbeats 4000000
namespace K80
open PySem PySem.Spec PyProof.Rows L2 Lw
/-- a plain value -/
def Flat : V → Bool
  | .non | .bl _ | .int _ | .str _ => true
  | _ => false
/-- the same data, n deep at most -/
def Al (H : Hp) : Nat → V → V → Prop
  | 0, _, _ => False
  | n + 1, x, y => (x = y ∧ Flat x = true) ∨ ∃ p q xs ys, x = .ref p ∧ y = .ref q ∧ H p = some (.tup xs) ∧ H q = some (.tup ys) ∧ xs.length = ys.length ∧ xs.length ≤ 1000 ∧ ∀ (i : Nat) (a b : V), xs[i]? = some a → ys[i]? = some b → Al H n a b
theorem al_keep {S : List Addr} {H H' : Hp} (k : Kt S H H') : ∀ {n : Nat} {x y : V}, Al H n x y → Al H' n x y
  | n + 1, x, y, .inl h => .inl h
  | n + 1, x, y, .inr ⟨p, q, xs, ys, e1, e2, h1, h2, hl, hz, h⟩ => .inr ⟨p, q, xs, ys, e1, e2, k.tup h1, k.tup h2, hl, hz, fun i a b ha hb => al_keep k (h i a b ha hb)⟩
section
variable {P : Program} {w : World} {K : PySem.W.Frag} {mg : Str → Option Value} {base : Heap} (T : Facts K mg)
include T
def sp_same (n : Nat) : Sp := fun vs H Q _ => ∃ (x y : V), vs = [x, y] ∧ Al H n x y ∧ ∀ H', Kt [] H H' → Q (.bl true) H'
theorem ok_same : ∀ n : Nat, Df P w K mg base (n + 1) "_law_same" ["actual", "due"] (sp_same n)
  | 0 => Df.none (T.d__law_same) (fun _ _ _ _ _ _ us hl => match us, hl with | [_, _], _ => rfl) fun vs H Q E ⟨_, _, _, h, _⟩ => h
  | n + 1 => by
    have D__law_same := ok_same n
    refine Lw.Df.mk (T.d__law_same) sc__law_same (fun _ _ _ _ _ _ us hl => match us, hl with | [_, _], _ => rfl) (fun vs H Q E h => ?_) (fun f cdv A outer s H vs Q E hr h => ?_)
    · obtain ⟨_, _, rfl, _⟩ := h
      rfl
    have sc := sc__law_same
    obtain ⟨x, y, rfl, hA, q⟩ := h
    refine ⟨_, (pss_cons (ps_if (PW.pt (pw_or (pt_val (pe_callB call_isi (by rfl) T.z_isinstance boot_isinstance (pa_cons (pv 1) (pa_cons (pe_bltn (v := .ty "tuple") (by rfl) T.z_tuple boot_tuple rfl) pa_nil)))) (pw_or1 (pt_val (pe_callB call_isi (by rfl) T.z_isinstance boot_isinstance (pa_cons (pv 1) (pa_cons (pe_bltn (v := .ty "list") (by rfl) T.z_list boot_list rfl) pa_nil)))))))
(pss_cons (ps_if (PW.pt (pw_or (pt_cmpR op_ne (pe_callB call_isi (by rfl) T.z_isinstance boot_isinstance (pa_cons (pv 1) (pa_cons (pe_bltn (v := .ty "tuple") (by rfl) T.z_tuple boot_tuple rfl) pa_nil))) (pe_callB call_isi (by rfl) T.z_isinstance boot_isinstance (pa_cons (pv 0) (pa_cons (pe_bltn (v := .ty "tuple") (by rfl) T.z_tuple boot_tuple rfl) pa_nil))) (nomark _)) (pw_or1 (pt_cmpR op_ne (pe_callB call_isi (by rfl) T.z_isinstance boot_isinstance (pa_cons (pv 1) (pa_cons (pe_bltn (v := .ty "list") (by rfl) T.z_list boot_list rfl) pa_nil))) (pe_callB call_isi (by rfl) T.z_isinstance boot_isinstance (pa_cons (pv 0) (pa_cons (pe_bltn (v := .ty "list") (by rfl) T.z_list boot_list rfl) pa_nil))) (nomark _)))))
(pss_one (ps_ret pe_bl))
pss_nil)
(pss_cons (ps_if (pt_cmpR op_ne (pe_callB call_len_seq (by rfl) T.z_len boot_len (pa_cons (pv 0) pa_nil)) (pe_callB call_len_seq (by rfl) T.z_len boot_len (pa_cons (pv 1) pa_nil)) (nomark _))
(pss_one (ps_ret pe_bl))
pss_nil)
(pss_cons (ps_for PassesOwn.never rfl (pi_range1 rfl T.z_range (pa_cons (pe_callB call_len_seq (by rfl) T.z_len boot_len (pa_cons (pv 1) pa_nil)) pa_nil)) (pg_name (i := 2) sc.nd rfl (by first | exact Or.inl rfl | exact Or.inr rfl))
(pss_one (ps_if (pt_not (pt_val (Lw.pe_d D__law_same (hr.mono (by omega)) (pa_cons (pe_ix ix_seq (pv 0) (pv 2) (fun _ _ => rfl)) (pa_cons (pe_ix ix_seq (pv 1) (pv 2) (fun _ _ => rfl)) pa_nil)))))
(pss_one (ps_ret pe_bl))
pss_nil)))
(pss_one (ps_ret pe_bl)))))
pss_nil)
(pss_cons (ps_if (pt_cmpR op_isN (pv 1) pe_non (nomark _))
(pss_one (ps_ret (pe_cmpR op_isN (pv 0) pe_non (nomark _))))
pss_nil)
(pss_cons (ps_if (pt_val (pe_callB call_isi (by rfl) T.z_isinstance boot_isinstance (pa_cons (pv 1) (pa_cons (pe_bltn (v := .ty "bool") (by rfl) T.z_bool boot_bool rfl) pa_nil))))
(pss_one (ps_ret (pe_and (pe_callB call_isi (by rfl) T.z_isinstance boot_isinstance (pa_cons (pv 0) (pa_cons (pe_bltn (v := .ty "bool") (by rfl) T.z_bool boot_bool rfl) pa_nil))) (pe_one (pe_cmpR op_eq (pv 0) (pv 1) (nomark _))))))
pss_nil)
(pss_cons (ps_if (pt_val (pe_callB call_isi (by rfl) T.z_isinstance boot_isinstance (pa_cons (pv 1) (pa_cons (pe_bltn (v := .ty "int") (by rfl) T.z_int boot_int rfl) pa_nil))))
(pss_one (ps_ret (pe_and (pe_callB call_isi (by rfl) T.z_isinstance boot_isinstance (pa_cons (pv 0) (pa_cons (pe_bltn (v := .ty "int") (by rfl) T.z_int boot_int rfl) pa_nil))) (pe_and (pe_not (pe_callB call_isi (by rfl) T.z_isinstance boot_isinstance (pa_cons (pv 0) (pa_cons (pe_bltn (v := .ty "bool") (by rfl) T.z_bool boot_bool rfl) pa_nil)))) (pe_one (pe_cmpR op_eq (pv 0) (pv 1) (nomark _)))))))
pss_nil)
(pss_one (ps_ret (pe_and (pe_callB call_isi (by rfl) T.z_isinstance boot_isinstance (pa_cons (pv 0) (pa_cons (pe_bltn (v := .ty "str") (by rfl) T.z_str boot_str rfl) pa_nil))) (pe_one (pe_cmpR op_eq (pv 0) (pv 1) (nomark _)))))))))), ?_⟩
    rcases hA with ⟨rfl, hF⟩ | ⟨p1, p2, xs, ys, rfl, rfl, h1, h2, hl, hz, hA⟩
    · cases x with
      | non =>
        refine ⟨_, rfl, _, _, _, _, false, rfl, .ty _, .base .non, kit_ty (by decide +kernel), _, rfl, iteF ⟨_, rfl, _, _, _, _, false, rfl, .ty _, .base .non, kit_ty (by decide +kernel), _, rfl, iteF ?_⟩⟩
        exact ⟨_, rfl, rfl, _, rfl, iteT ⟨_, rfl, rfl, q _ (Kt.refl _)⟩⟩
      | bl b =>
        refine ⟨_, rfl, _, _, _, _, false, rfl, .ty _, .base (.bl _), kit_ty (by decide +kernel), _, rfl, iteF ⟨_, rfl, _, _, _, _, false, rfl, .ty _, .base (.bl _), kit_ty (by decide +kernel), _, rfl, iteF ?_⟩⟩
        refine ⟨_, rfl, rfl, _, rfl, iteF ?_⟩
        refine ⟨_, rfl, _, _, _, _, true, rfl, .ty _, .base (.bl _), kit_ty (by decide +kernel), _, rfl, iteT ?_⟩
        refine ⟨_, rfl, _, _, _, _, true, rfl, .ty _, .base (.bl _), kit_ty (by decide +kernel), _, rfl, iteT ?_⟩
        refine ⟨_, rfl, _, rfl, rfl, ?_⟩
        rw [decide_eq_true rfl]
        exact q _ (Kt.refl _)
      | int i =>
        refine ⟨_, rfl, _, _, _, _, false, rfl, .ty _, .base (.int _), kit_ty (by decide +kernel), _, rfl, iteF ⟨_, rfl, _, _, _, _, false, rfl, .ty _, .base (.int _), kit_ty (by decide +kernel), _, rfl, iteF ?_⟩⟩
        refine ⟨_, rfl, rfl, _, rfl, iteF ?_⟩
        refine ⟨_, rfl, _, _, _, _, false, rfl, .ty _, .base (.int _), kit_ty (by decide +kernel), _, rfl, iteF ?_⟩
        refine ⟨_, rfl, _, _, _, _, true, rfl, .ty _, .base (.int _), kit_ty (by decide +kernel), _, rfl, iteT ?_⟩
        refine ⟨_, rfl, _, _, _, _, true, rfl, .ty _, .base (.int _), kit_ty (by decide +kernel), _, rfl, iteT ?_⟩
        refine ⟨_, rfl, _, _, _, _, false, rfl, .ty _, .base (.int _), kit_ty (by decide +kernel), _, rfl, _, rfl, iteT ?_⟩
        refine ⟨_, rfl, _, rfl, rfl, ?_⟩
        rw [decide_eq_true rfl]
        exact q _ (Kt.refl _)
      | str z =>
        refine ⟨_, rfl, _, _, _, _, false, rfl, .ty _, .base (.str _), kit_ty (by decide +kernel), _, rfl, iteF ⟨_, rfl, _, _, _, _, false, rfl, .ty _, .base (.str _), kit_ty (by decide +kernel), _, rfl, iteF ?_⟩⟩
        refine ⟨_, rfl, rfl, _, rfl, iteF ?_⟩
        refine ⟨_, rfl, _, _, _, _, false, rfl, .ty _, .base (.str _), kit_ty (by decide +kernel), _, rfl, iteF ?_⟩
        refine ⟨_, rfl, _, _, _, _, false, rfl, .ty _, .base (.str _), kit_ty (by decide +kernel), _, rfl, iteF ?_⟩
        refine ⟨_, rfl, _, _, _, _, true, rfl, .ty _, .base (.str _), kit_ty (by decide +kernel), _, rfl, iteT ?_⟩
        refine ⟨_, rfl, _, rfl, rfl, ?_⟩
        rw [decide_eq_true rfl]
        exact q _ (Kt.refl _)
      | _ => exact absurd hF Bool.false_ne_true
    · refine ⟨_, rfl, _, _, _, _, true, rfl, .ty _, .base (.tup h2), kit_ty (by decide +kernel), _, rfl, iteT (iteT ?_)⟩
      refine ⟨_, rfl, _, _, _, _, true, rfl, .ty _, .base (.tup h2), kit_ty (by decide +kernel), _, rfl, _, _, _, _, true, rfl, .ty _, .base (.tup h1), kit_ty (by decide +kernel), rfl, _, rfl, iteE false (by decide) (iteF ?_)⟩
      refine ⟨_, rfl, _, _, _, _, false, rfl, .ty _, .base (.tup h2), kit_ty (by decide +kernel), _, rfl, _, _, _, _, false, rfl, .ty _, .base (.tup h1), kit_ty (by decide +kernel), rfl, _, rfl, iteE false (by decide) (iteF ?_)⟩
      refine ⟨_, rfl, p1, _, rfl, .inr (SqT.of h1), _, rfl, p2, _, rfl, .inr (SqT.of h2), rfl, _, rfl, iteE false (by rw [hl]; simp) (iteF ?_)⟩
      -- the loop
      refine ⟨_, rfl, p2, _, rfl, .inr (SqT.of h2), _, rfl, (by omega), (by omega), ?_⟩
      refine for_range (lo := 0) (n := ((ys.length : Nat) : Int).toNat) (fun i σ H1 => ∃ z, σ = [some (.ref p1), some (.ref p2), z] ∧ Kt [] H H1) ⟨none, rfl, Kt.refl _⟩ ?_ ?_
      · rintro i σ H1 hi ⟨z, rfl, k1⟩
        have hi' : i < ys.length := by omega
        have hi2 : i < xs.length := by omega
        refine ⟨_, rfl, _, rfl, .inr (.inl ⟨p1, _, _, xs[i], rfl, rfl, SqT.of (k1.tup h1), at_of (j := i) (by omega) (List.getElem?_eq_getElem hi2), _, rfl, _, rfl, .inr (.inl ⟨p2, _, _, ys[i], rfl, rfl, SqT.of (k1.tup h2), at_of (j := i) (by omega) (List.getElem?_eq_getElem hi'), _, _, rfl, al_keep k1 (hA i _ _ (List.getElem?_eq_getElem hi2) (List.getElem?_eq_getElem hi')), fun H2 k2 => ?_⟩)⟩)⟩
        exact ⟨_, rfl, iteF ⟨_, rfl, k1.trans k2⟩⟩
      · rintro σ H1 ⟨z, rfl, k1⟩
        exact q _ k1
end
end K80


set_option Elab.async false
set_option linter.all false
set_option maxRecDepth 100000
set_option maxHeartbeats 4000000
namespace Lw
open PySem PySem.Spec PyProof.Rows L2
/-! ### rules within a comprehension: the written part by its own name -/
section
variable {X : Cx} {K : PySem.W.Frag}
theorem ck {f : Value} {r : PySem.W.Frag → List V → Hp → VK → Prop} (h : X.K = K) (c : CallR X f (r X.K)) : CallR X f (r K) := h ▸ c
theorem ok {f : Value → Value → Sem Value} {r : PySem.W.Frag → R2} (h : X.K = K) (c : OpR X f (r X.K)) : OpR X f (r K) := h ▸ c
theorem xk {r : PySem.W.Frag → R2} (h : X.K = K) (c : IxR X (r X.K)) : IxR X (r K) := h ▸ c
theorem sk {r : PySem.W.Frag → V → Option Int → Option Int → Hp → VK → Prop} (h : X.K = K) (c : SlR X (r X.K)) : SlR X (r K) := h ▸ c
theorem mk {id : String} {r : PySem.W.Frag → V → List V → Hp → VK → Prop} (h : X.K = K) (c : MtR X id (r X.K)) : MtR X id (r K) := h ▸ c
end
def rLenSeq (K : PySem.W.Frag) : List V → Hp → VK → Prop := fun xs H Q => ∃ p ys, xs = [.ref p] ∧ (SqL K H p ys ∨ SqT K H p ys) ∧ Q (.int ys.length) H
def rListOf (K : PySem.W.Frag) : List V → Hp → VK → Prop := fun xs H Q => ∃ p ys, xs = [.ref p] ∧ (SqL K H p ys ∨ SqT K H p ys) ∧ ∀ l, H l = none → Q (.ref l) (upd H l (.lst ys))
def rTupleOf (K : PySem.W.Frag) : List V → Hp → VK → Prop := fun xs H Q => ∃ p ys, xs = [.ref p] ∧ ((SqL K H p ys ∧ ∀ l, H l = none → Q (.ref l) (upd H l (.tup ys))) ∨ (SqT K H p ys ∧ Q (.ref p) H))
/-! ### slices of tuples -/
theorem cut_tail (x : V) (r : List V) : cutV (x :: r) (some 1) none = r := by
  unfold cutV
  rw [show HT.sIx (x :: r).length 0 (some 1) = min 1 (x :: r).length from HT.sIx_nat (x :: r).length 0 1, HT.sIx_none]
  rw [show min 1 (x :: r).length = 1 by rw [List.length_cons]; omega]
  show (List.take ((x :: r).length - 1) r) = r
  rw [List.length_cons, Nat.add_sub_cancel]
  exact List.take_length
theorem cut_head (x : V) (r : List V) : cutV (x :: r) none (some 1) = [x] := by
  unfold cutV
  rw [show HT.sIx (x :: r).length (x :: r).length (some 1) = min 1 (x :: r).length from HT.sIx_nat (x :: r).length _ 1, HT.sIx_none]
  rw [show min 1 (x :: r).length = 1 by rw [List.length_cons]; omega]
  rfl
theorem slice_tail {K : PySem.W.Frag} {H : Hp} {Q : VK} {a : Addr} {x : V} {r : List V} (h : H a = some (.tup (x :: r))) (q : ∀ p H', Kt [] H H' → H' p = some (.tup r) → Q (.ref p) H') : rSlA K (.ref a) (some 1) none H Q := by
  have e : ¬ (HT.sIx (x :: r).length 0 (some 1) = 0 ∧ HT.sIx (x :: r).length (x :: r).length none = (x :: r).length) := by
    rw [show HT.sIx (x :: r).length 0 (some 1) = min 1 (x :: r).length from HT.sIx_nat (x :: r).length 0 1, List.length_cons]
    omega
  refine ⟨a, _, rfl, SqT.of h, fun z => absurd z e, fun _ p hp => q p _ (Kt.new hp) ?_⟩
  rw [cut_tail]
  exact upd_same
theorem slice_head {K : PySem.W.Frag} {H : Hp} {Q : VK} {a : Addr} {x : V} {r : List V} (h : H a = some (.tup (x :: r))) (q : ∀ p H', Kt [] H H' → H' p = some (.tup [x]) → Q (.ref p) H') : rSlA K (.ref a) none (some 1) H Q := by
  refine ⟨a, _, rfl, SqT.of h, fun z => ?_, fun _ p hp => q p _ (Kt.new hp) ?_⟩
  · rw [show HT.sIx (x :: r).length (x :: r).length (some 1) = min 1 (x :: r).length from HT.sIx_nat (x :: r).length _ 1, List.length_cons] at z
    have e : r = [] := List.eq_nil_of_length_eq_zero (by omega)
    subst e
    exact q a H (Kt.refl _) h
  · rw [cut_head]
    exact upd_same
theorem tsl_tail {K : PySem.W.Frag} {te : TE} {σ : L2.St} {H : Hp} {Q : VK} (h : te σ H fun x H1 => ∃ a y r, x = .ref a ∧ H1 a = some (.tup (y :: r)) ∧ ∀ p H', Kt [] H1 H' → H' p = some (.tup r) → Q (.ref p) H')
    (m : ∀ Q1 Q2 : VK, (∀ x H1, Q1 x H1 → Q2 x H1) → te σ H Q1 → te σ H Q2) : tSl (rSlA K) te (tPart (tC (.int 1))) tNoPart σ H Q := by
  refine m _ _ (fun x H1 h => ?_) h
  obtain ⟨a, y, r, rfl, h1, q⟩ := h
  exact ⟨1, rfl, slice_tail h1 q⟩
theorem tsl_head {K : PySem.W.Frag} {te : TE} {σ : L2.St} {H : Hp} {Q : VK} (h : te σ H fun x H1 => ∃ a y r, x = .ref a ∧ H1 a = some (.tup (y :: r)) ∧ ∀ p H', Kt [] H1 H' → H' p = some (.tup [y]) → Q (.ref p) H')
    (m : ∀ Q1 Q2 : VK, (∀ x H1, Q1 x H1 → Q2 x H1) → te σ H Q1 → te σ H Q2) : tSl (rSlA K) te tNoPart (tPart (tC (.int 1))) σ H Q := by
  refine m _ _ (fun x H1 h => ?_) h
  obtain ⟨a, y, r, rfl, h1, q⟩ := h
  exact ⟨1, rfl, slice_head h1 q⟩
theorem var_mono {i : Nat} {σ : L2.St} {H : Hp} (Q1 Q2 : VK) (h : ∀ x H1, Q1 x H1 → Q2 x H1) : tVar i σ H Q1 → tVar i σ H Q2 := fun ⟨v, e, q⟩ => ⟨v, e, h _ _ q⟩
theorem cat_tup {K : PySem.W.Frag} {H : Hp} {Q : VK} {a b : Addr} {xs ys : List V} (h : H a = some (.tup xs)) (h2 : H b = some (.tup ys)) (hz : xs.length + ys.length ≤ sizeLine)
    (q : ∀ p H', Kt [] H H' → H' p = some (.tup (xs ++ ys)) → Q (.ref p) H') : rCatA K (.ref a) (.ref b) H Q := by
  refine ⟨a, b, xs, ys, rfl, rfl, SqT.of h, SqT.of h2, hz, fun e => ?_, fun _ e => ?_, fun _ _ p hp => q p _ (Kt.new hp) upd_same⟩
  · subst e
    exact q b H (Kt.refl _) h2
  · subst e
    exact q a H (Kt.refl _) (by rw [List.append_nil]; exact h)
/-! ### loops over known tuples and lists, turn by turn -/
def forU (st : Hp → Prop) (g : TG) (tb : TS) (D : Ends) : List V → L2.St → Hp → Prop
  | [], σ, H => D.nx σ H
  | x :: r, σ, H => g x σ H fun σ2 H2 => tb { D with nx := fun σ' H' => st H' ∧ forU st g tb D r σ' H', ct := fun σ' H' => st H' ∧ forU st g tb D r σ' H', bk := D.nx } σ2 H2
theorem for_tupU {K : PySem.W.Frag} {a : Addr} {xs : List V} {g : TG} {tb : TS} {D : Ends} {σ : L2.St} {H : Hp} (h : SqT K H a xs) (q : forU (fun H => SqT K H a xs) g tb D xs σ H) :
    ∃ W : Nat → Nat → L2.St → Hp → Prop, (∃ m, W 0 m σ H) ∧ ∀ i m σ H, W i m σ H →
      ((Itt K a).stop i H ∧ D.nx σ H) ∨ ((Itt K a).go i H ∧ ∃ N : L2.St → Hp → Prop, (∀ σ' H', N σ' H' → ∃ m', m' < m ∧ W (i + 1) m' σ' H') ∧ ∀ x H', (Itt K a).yld i H x H' → g x σ H' fun σ2 H2 => tb { D with nx := N, ct := N, bk := D.nx } σ2 H2) := by
  refine for_tup (xs := xs) (fun i σ H => SqT K H a xs ∧ forU (fun H => SqT K H a xs) g tb D (xs.drop i) σ H) ⟨h, q⟩ (fun i σ H _ p => p.1) (fun i x σ H hx p => ?_) (fun σ H p => ?_)
  · have e : xs.drop i = x :: xs.drop (i + 1) := by
      obtain ⟨hl, rfl⟩ := List.getElem?_eq_some_iff.mp hx
      exact List.drop_eq_getElem_cons hl
    have p2 := p.2
    rw [e] at p2
    exact p2
  · have p2 := p.2
    rw [List.drop_length] at p2
    exact p2
theorem for_listU {K : PySem.W.Frag} {a : Addr} {xs : List V} {g : TG} {tb : TS} {D : Ends} {σ : L2.St} {H : Hp} (h : SqL K H a xs) (q : forU (fun H => SqL K H a xs) g tb D xs σ H) :
    ∃ W : Nat → Nat → L2.St → Hp → Prop, (∃ m, W 0 m σ H) ∧ ∀ i m σ H, W i m σ H →
      ((Itl K a).stop i H ∧ D.nx σ H) ∨ ((Itl K a).go i H ∧ ∃ N : L2.St → Hp → Prop, (∀ σ' H', N σ' H' → ∃ m', m' < m ∧ W (i + 1) m' σ' H') ∧ ∀ x H', (Itl K a).yld i H x H' → g x σ H' fun σ2 H2 => tb { D with nx := N, ct := N, bk := D.nx } σ2 H2) := by
  refine for_list (xs := xs) (fun i σ H => SqL K H a xs ∧ forU (fun H => SqL K H a xs) g tb D (xs.drop i) σ H) ⟨h, q⟩ (fun i σ H _ p => p.1) (fun i x σ H hx p => ?_) (fun σ H p => ?_)
  · have e : xs.drop i = x :: xs.drop (i + 1) := by
      obtain ⟨hl, rfl⟩ := List.getElem?_eq_some_iff.mp hx
      exact List.drop_eq_getElem_cons hl
    have p2 := p.2
    rw [e] at p2
    exact p2
  · have p2 := p.2
    rw [List.drop_length] at p2
    exact p2
def lcU (st : Hp → Prop) (g : TG) (tt : TT) (te : TE) (vs : List Nat) (σ : L2.St) (D : Addr) (Qd : Hp → Prop) : List V → Hp → Prop
  | [], H => Qd H
  | x :: r, H => g x (wipe σ vs) H fun σ2 H2 => wipe σ2 vs = wipe σ vs ∧ tt σ2 H2 fun b H3 =>
      if b = true then te σ2 H3 fun y H4 => ∃ acc, H4 D = some (.lst acc) ∧ acc.length < sizeLine ∧ st (upd H4 D (.lst (acc ++ [y]))) ∧ lcU st g tt te vs σ D Qd r (upd H4 D (.lst (acc ++ [y]))) else st H3 ∧ lcU st g tt te vs σ D Qd r H3
theorem lc_tupU {K : PySem.W.Frag} {a : Addr} {xs : List V} {g : TG} {tt : TT} {te : TE} {vs : List Nat} {σ : L2.St} {H1 : Hp} {D : Addr} {Qd : Hp → Prop} (h : SqT K (upd H1 D (.lst [])) a xs) (q : lcU (fun H => SqT K H a xs) g tt te vs σ D Qd xs (upd H1 D (.lst []))) :
    ∃ W : Nat → Nat → Hp → Prop, (∃ m, W 0 m (upd H1 D (.lst []))) ∧ ∀ i m H, W i m H →
      ((Itt K a).stop i H ∧ Qd H) ∨ ((Itt K a).go i H ∧ ∃ Nx : Hp → Prop, (∀ H', Nx H' → ∃ m', m' < m ∧ W (i + 1) m' H') ∧ ∀ x H', (Itt K a).yld i H x H' → g x (wipe σ vs) H' fun σ2 H2 => wipe σ2 vs = wipe σ vs ∧ tt σ2 H2 fun b H3 =>
        if b = true then te σ2 H3 fun y H4 => ∃ acc, H4 D = some (.lst acc) ∧ acc.length < sizeLine ∧ Nx (upd H4 D (.lst (acc ++ [y]))) else Nx H3) := by
  refine lc_tup (xs := xs) (fun i H => SqT K H a xs ∧ lcU (fun H => SqT K H a xs) g tt te vs σ D Qd (xs.drop i) H) ⟨h, q⟩ (fun i H _ p => p.1) (fun i x H hx p => ?_) (fun H p => ?_)
  · have e : xs.drop i = x :: xs.drop (i + 1) := by
      obtain ⟨hl, rfl⟩ := List.getElem?_eq_some_iff.mp hx
      exact List.drop_eq_getElem_cons hl
    have p2 := p.2
    rw [e] at p2
    exact p2
  · have p2 := p.2
    rw [List.drop_length] at p2
    exact p2
end Lw
namespace K80
open PySem PySem.Spec PyProof.Rows L2 Lw
def Ex.size : Ex → Nat
  | .un a => 1 + a.size
  | .bin _ a b => 1 + (a.size + b.size)
  | _ => 1
/-- the object's members -/
theorem rep_is {K : PySem.W.Frag} {H : Hp} {v : V} {e : Ex} (r : Rep H v e) : ∃ p, v = .ref p ∧ TyX K H v (.type "tuple") := by
  obtain ⟨p, xs, rfl, h⟩ := rep_word r
  exact ⟨p, rfl, .base (.tup h)⟩
section
variable {P : Program} {w : World} {K : PySem.W.Frag} {mg : Str → Option Value} {base : Heap} (T : Facts K mg)
include T
def sp_parts (n : Nat) : Sp := fun vs H Q _ => ∃ (v : V) (e : Ex), vs = [v] ∧ Rep H v e ∧ e.depth < n ∧ ∀ H', Kt [] H H' → Q (.int e.size) H'
theorem ok_parts : ∀ n : Nat, Df P w K mg base (n + 1) "_law_parts" ["expression"] (sp_parts n)
  | 0 => Df.none (T.d__law_parts) (fun _ _ _ _ _ _ us hl => match us, hl with | [_], _ => rfl) fun vs H Q E ⟨_, _, _, _, h, _⟩ => absurd h (Nat.not_lt_zero _)
  | n + 1 => by
    have D__law_parts := ok_parts n
    refine Lw.Df.mk (T.d__law_parts) sc__law_parts (fun _ _ _ _ _ _ us hl => match us, hl with | [_], _ => rfl) (fun vs H Q E h => ?_) (fun f cdv A outer s H vs Q E hr h => ?_)
    · obtain ⟨_, _, rfl, _⟩ := h
      rfl
    have sc := sc__law_parts
    obtain ⟨v, e, rfl, r, hd, q⟩ := h
    refine ⟨_, (pss_one (ps_ret (pe_op op_add pe_int (pe_callB (cr_sum rfl) (by rfl) T.z_sum boot_sum (pa_cons (pe_lc (own := [("part", 1)]) (by rfl) sc.nd (pi_tup (pe_slice sl_tupA (pv 0) (po_some pe_int) po_none)) (blkOk_by (own := [("part", 1)]) (N := ["expression", "part"]) (sc := defScope (top 17)) (by decide +kernel)) (fun _ _ _ _ _ => (pg_name (i := 1) sc.nd rfl (by first | exact Or.inl rfl | exact Or.inr rfl))) (fun _ _ _ _ _ => (pts_one (pt_val (pe_callB (Lw.ck (K := K) (r := rIsi) rfl call_isi) (by rfl) T.z_isinstance boot_isinstance (pa_cons (pv 1) (pa_cons (pe_bltn (v := .ty "tuple") (by rfl) T.z_tuple boot_tuple rfl) pa_nil)))))) (fun _ _ _ _ _ => (Lw.pe_d D__law_parts (hr.mono (by omega)) (pa_cons (pv 1) pa_nil)))) pa_nil))))), ?_⟩
    have ty : ∀ {v : V} {a : Ex} {H1 : Hp}, Rep H1 v a → TyX K H1 v (.type "tuple") := fun r => (rep_is r).elim fun _ z => z.2
    cases e with
    | null =>
      obtain ⟨p, rfl, h1⟩ := r
      refine tsl_tail ⟨_, rfl, p, _, _, rfl, h1, fun t H1 k1 h2 => ⟨t, rfl, ⟨_, SqT.of h2⟩, fun D hD => ?_⟩⟩ var_mono
      have k2 : Kt [] H1 (upd H1 D (.lst [])) := Kt.new hD
      refine lc_tupU (xs := []) (SqT.of (k2.tup h2)) ?_
      exact ⟨D, [], rfl, SqL.of upd_same, _, _, rfl, rfl, q _ (k1.trans k2)⟩
    | name n1 =>
      obtain ⟨p, rfl, h1⟩ := r
      refine tsl_tail ⟨_, rfl, p, _, _, rfl, h1, fun t H1 k1 h2 => ⟨t, rfl, ⟨_, SqT.of h2⟩, fun D hD => ?_⟩⟩ var_mono
      have k2 : Kt [] H1 (upd H1 D (.lst [])) := Kt.new hD
      refine lc_tupU (SqT.of (k2.tup h2)) ?_
      refine ⟨rfl, _, rfl, _, _, _, _, false, rfl, .ty _, .base (.str _), kit_ty (by decide +kernel), _, rfl, iteF ⟨SqT.of (k2.tup h2), ?_⟩⟩
      exact ⟨D, [], rfl, SqL.of upd_same, _, _, rfl, rfl, q _ (k1.trans k2)⟩
    | num i =>
      obtain ⟨p, rfl, h1⟩ := r
      refine tsl_tail ⟨_, rfl, p, _, _, rfl, h1, fun t H1 k1 h2 => ⟨t, rfl, ⟨_, SqT.of h2⟩, fun D hD => ?_⟩⟩ var_mono
      have k2 : Kt [] H1 (upd H1 D (.lst [])) := Kt.new hD
      refine lc_tupU (SqT.of (k2.tup h2)) ?_
      refine ⟨rfl, _, rfl, _, _, _, _, false, rfl, .ty _, .base (.int _), kit_ty (by decide +kernel), _, rfl, iteF ⟨SqT.of (k2.tup h2), ?_⟩⟩
      exact ⟨D, [], rfl, SqL.of upd_same, _, _, rfl, rfl, q _ (k1.trans k2)⟩
    | flag b =>
      obtain ⟨p, rfl, h1⟩ := r
      refine tsl_tail ⟨_, rfl, p, _, _, rfl, h1, fun t H1 k1 h2 => ⟨t, rfl, ⟨_, SqT.of h2⟩, fun D hD => ?_⟩⟩ var_mono
      have k2 : Kt [] H1 (upd H1 D (.lst [])) := Kt.new hD
      refine lc_tupU (SqT.of (k2.tup h2)) ?_
      refine ⟨rfl, _, rfl, _, _, _, _, false, rfl, .ty _, .base (.bl _), kit_ty (by decide +kernel), _, rfl, iteF ⟨SqT.of (k2.tup h2), ?_⟩⟩
      exact ⟨D, [], rfl, SqL.of upd_same, _, _, rfl, rfl, q _ (k1.trans k2)⟩
    | un a =>
      obtain ⟨p, va, rfl, h1, ra⟩ := r
      refine tsl_tail ⟨_, rfl, p, _, _, rfl, h1, fun t H1 k1 h2 => ⟨t, rfl, ⟨_, SqT.of h2⟩, fun D hD => ?_⟩⟩ var_mono
      have k2 : Kt [] H1 (upd H1 D (.lst [])) := Kt.new hD
      have g2 : (upd H1 D (.lst [])) D = some (.lst []) := upd_same
      refine lc_tupU (SqT.of (k2.tup h2)) ?_
      generalize upd H1 D (.lst []) = H2 at k2 g2 ⊢
      have ra2 := rep_keep (k1.trans k2) ra
      refine ⟨rfl, _, rfl, _, _, _, _, true, rfl, .ty _, ty ra2, kit_ty (by decide +kernel), _, rfl, iteT ⟨_, rfl, va, a, rfl, ra2, Nat.lt_of_succ_lt_succ hd, fun H3 k3 => ⟨[], k3.get0 g2, (by decide), ?_⟩⟩⟩
      have k4 : Kt [D] H3 (upd H3 D (.lst ([] ++ [.int a.size]))) := Kt.at_ (k3.get0 g2) (fun _ z => nomatch z) (by simp)
      refine ⟨SqT.of (k4.tup ((k2.trans k3).tup h2)), ?_⟩
      refine ⟨D, [(a.size : Int)], rfl, SqL.of upd_same, _, _, rfl, rfl, ?_⟩
      have kk : Kt [] H (upd H3 D (.lst ([] ++ [.int a.size]))) := k1.trans (((k2.trans k3).nil.trans k4).drop hD)
      have z := q _ kk
      rw [show ((Ex.un a).size : Int) = 1 + ([(a.size : Int)] : List Int).sum by simp [Ex.size]] at z
      exact z
    | bin u a b =>
      obtain ⟨p, va, vb, rfl, h1, ra, rb⟩ := r
      have hda : a.depth < n ∧ b.depth < n := by
        have : max a.depth b.depth + 1 < n + 1 := hd
        omega
      refine tsl_tail ⟨_, rfl, p, _, _, rfl, h1, fun t H1 k1 h2 => ⟨t, rfl, ⟨_, SqT.of h2⟩, fun D hD => ?_⟩⟩ var_mono
      have k2 : Kt [] H1 (upd H1 D (.lst [])) := Kt.new hD
      have g2 : (upd H1 D (.lst [])) D = some (.lst []) := upd_same
      refine lc_tupU (SqT.of (k2.tup h2)) ?_
      generalize upd H1 D (.lst []) = H2 at k2 g2 ⊢
      have ra2 := rep_keep (k1.trans k2) ra
      refine ⟨rfl, _, rfl, _, _, _, _, true, rfl, .ty _, ty ra2, kit_ty (by decide +kernel), _, rfl, iteT ⟨_, rfl, va, a, rfl, ra2, hda.1, fun H3 k3 => ⟨[], k3.get0 g2, (by decide), ?_⟩⟩⟩
      have k4 : Kt [D] H3 (upd H3 D (.lst ([] ++ [.int a.size]))) := Kt.at_ (k3.get0 g2) (fun _ z => nomatch z) (by simp)
      have g4 : (upd H3 D (.lst ([] ++ [.int a.size]))) D = some (.lst [.int a.size]) := upd_same
      refine ⟨SqT.of (k4.tup ((k2.trans k3).tup h2)), ?_⟩
      generalize upd H3 D (.lst ([] ++ [.int a.size])) = H4 at k4 g4 ⊢
      have kk : Kt [] H H4 := k1.trans (((k2.trans k3).nil.trans k4).drop hD)
      have rb2 := rep_keep kk rb
      refine ⟨rfl, _, rfl, _, _, _, _, true, rfl, .ty _, ty rb2, kit_ty (by decide +kernel), _, rfl, iteT ⟨_, rfl, vb, b, rfl, rb2, hda.2, fun H5 k5 => ⟨[.int a.size], k5.get0 g4, (by show 1 < sizeLine; decide), ?_⟩⟩⟩
      have k6 : Kt [D] H5 (upd H5 D (.lst ([.int a.size] ++ [.int b.size]))) := Kt.at_ (k5.get0 g4) (fun _ z => nomatch z) (by simp)
      refine ⟨SqT.of (k6.tup ((((k2.trans k3).nil.trans k4).trans k5.nil).tup h2)), ?_⟩
      refine ⟨D, [(a.size : Int), (b.size : Int)], rfl, SqL.of upd_same, _, _, rfl, rfl, ?_⟩
      have kk2 : Kt [] H (upd H5 D (.lst ([.int a.size] ++ [.int b.size]))) := k1.trans ((((k2.trans k3).nil.trans k4).trans (k5.nil.trans k6)).drop hD)
      have z := q _ kk2
      rw [show ((Ex.bin u a b).size : Int) = 1 + ([(a.size : Int), (b.size : Int)] : List Int).sum by simp [Ex.size]] at z
      exact z
end
end K80


set_option Elab.async false
set_option linter.all false
set_option maxRecDepth 100000
set_option maxHeartbeats 4000000
namespace K80
open PySem PySem.Spec PyProof.Rows L2 Lw
theorem ints_ne (ns : List Int) (h : ns.length ≤ 2) : SeqAt.shaped (.list (ns.map PyData.int)) = true ∧ PyData.eqv (.list (ns.map PyData.int)) (.list []) = ns.isEmpty := by
  match ns, h with
  | [], _ => exact ⟨by decide +kernel, by decide +kernel⟩
  | [a], _ => exact ⟨rfl, rfl⟩
  | [a, b], _ => exact ⟨rfl, rfl⟩
theorem dp_ints {K : PySem.W.Frag} {H : Hp} : ∀ ns : List Int, DpAll K H (ns.map V.int) (ns.map PyData.int)
  | [] => .nil
  | i :: r => .cons (.int i) (dp_ints r)
section
variable {P : Program} {w : World} {K : PySem.W.Frag} {mg : Str → Option Value} {base : Heap} (T : Facts K mg)
include T
def sp_deep (n : Nat) : Sp := fun vs H Q _ => ∃ (v : V) (e : Ex), vs = [v] ∧ Rep H v e ∧ e.depth < n ∧ ∀ H', Kt [] H H' → Q (.int e.depth) H'
theorem ok_deep : ∀ n : Nat, Df P w K mg base (n + 1) "_law_deep" ["expression"] (sp_deep n)
  | 0 => Df.none (T.d__law_deep) (fun _ _ _ _ _ _ us hl => match us, hl with | [_], _ => rfl) fun vs H Q E ⟨_, _, _, _, h, _⟩ => absurd h (Nat.not_lt_zero _)
  | n + 1 => by
    have D__law_deep := ok_deep n
    refine Lw.Df.mk (T.d__law_deep) sc__law_deep (fun _ _ _ _ _ _ us hl => match us, hl with | [_], _ => rfl) (fun vs H Q E h => ?_) (fun f cdv A outer s H vs Q E hr h => ?_)
    · obtain ⟨_, _, rfl, _⟩ := h
      rfl
    have sc := sc__law_deep
    obtain ⟨v, e, rfl, r, hd, q⟩ := h
    refine ⟨_, (pss_cons (ps_setLc (i := 1) (own := [("part", 2)]) (by rfl) sc.nd rfl rfl (sw_true rfl rfl rfl (by decide +kernel)) (pi_tup (pe_slice sl_tupA (pv 0) (po_some pe_int) po_none)) (blkOk_by (own := [("part", 2)]) (N := ["expression", "inner", "part"]) (sc := defScope (top 18)) (by decide +kernel)) (fun _ _ _ _ _ => (pg_name (i := 2) sc.nd rfl (by first | exact Or.inl rfl | exact Or.inr rfl))) (fun _ _ _ _ _ => (pts_one (pt_val (pe_callB (Lw.ck (K := K) (r := rIsi) rfl call_isi) (by rfl) T.z_isinstance boot_isinstance (pa_cons (pv 2) (pa_cons (pe_bltn (v := .ty "tuple") (by rfl) T.z_tuple boot_tuple rfl) pa_nil)))))) (fun _ _ _ _ _ => (Lw.pe_d D__law_deep (hr.mono (by omega)) (pa_cons (pv 2) pa_nil))))
(pss_one (ps_ret (pe_op op_add (pe_callB (cr_max rfl) (by rfl) T.z_max boot_max (pa_cons (pe_op op_cat (pe_lst (pa_cons pe_int pa_nil)) (pv 1)) pa_nil)) (pe_callTy call_int1 (by rfl) T.z_int boot_int (pa_cons (pe_cmpR (op_neD (hr.units)) (pv 1) (pe_lst pa_nil) (nomark _)) pa_nil)))))), ?_⟩
    have ty : ∀ {v : V} {a : Ex} {H1 : Hp}, Rep H1 v a → TyX K H1 v (.type "tuple") := fun r => (rep_is r).elim fun _ z => z.2
    cases e
    case' null =>
      obtain ⟨p, rfl, h1⟩ := r
      refine tsl_tail ⟨_, rfl, p, _, _, rfl, h1, fun t H1 k1 h2 => ⟨t, rfl, ⟨_, SqT.of h2⟩, fun D hD => ?_⟩⟩ var_mono
      have k2 : Kt [] H1 (upd H1 D (.lst [])) := Kt.new hD
      refine lc_tupU (xs := []) (SqT.of (k2.tup h2)) ?_
      have kk : Kt [] H (upd H1 D (.lst [])) := k1.trans k2
      have g : (upd H1 D (.lst [])) D = some (.lst (([] : List Int).map V.int)) := upd_same
      have hl : ([] : List Int).length ≤ 2 := by decide
      have hv : ∀ m : Int, m ∈ (0 :: [] : List Int) → (∀ y ∈ (0 :: [] : List Int), y ≤ m) → m + (if ([] : List Int).isEmpty then 0 else 1) = ((Ex.null.depth : Nat) : Int) := fun m h1 h2 => by
        have : m = 0 := by simpa using h1
        rw [this]
        rfl
      generalize ([] : List Int) = ns at g hl hv
      generalize upd H1 D (.lst []) = HF at kk g ⊢
      generalize (Ex.null.depth : Nat) = dd at q hv
    case' name n1 =>
      obtain ⟨p, rfl, h1⟩ := r
      refine tsl_tail ⟨_, rfl, p, _, _, rfl, h1, fun t H1 k1 h2 => ⟨t, rfl, ⟨_, SqT.of h2⟩, fun D hD => ?_⟩⟩ var_mono
      have k2 : Kt [] H1 (upd H1 D (.lst [])) := Kt.new hD
      refine lc_tupU (SqT.of (k2.tup h2)) ?_
      refine ⟨rfl, _, rfl, _, _, _, _, false, rfl, .ty _, .base (.str _), kit_ty (by decide +kernel), _, rfl, iteF ⟨SqT.of (k2.tup h2), ?_⟩⟩
      have kk : Kt [] H (upd H1 D (.lst [])) := k1.trans k2
      have g : (upd H1 D (.lst [])) D = some (.lst (([] : List Int).map V.int)) := upd_same
      have hl : ([] : List Int).length ≤ 2 := by decide
      have hv : ∀ m : Int, m ∈ (0 :: [] : List Int) → (∀ y ∈ (0 :: [] : List Int), y ≤ m) → m + (if ([] : List Int).isEmpty then 0 else 1) = (((Ex.name n1).depth : Nat) : Int) := fun m h1 h2 => by
        have : m = 0 := by simpa using h1
        rw [this]
        rfl
      generalize ([] : List Int) = ns at g hl hv
      generalize upd H1 D (.lst []) = HF at kk g ⊢
      generalize ((Ex.name n1).depth : Nat) = dd at q hv
    case' num i =>
      obtain ⟨p, rfl, h1⟩ := r
      refine tsl_tail ⟨_, rfl, p, _, _, rfl, h1, fun t H1 k1 h2 => ⟨t, rfl, ⟨_, SqT.of h2⟩, fun D hD => ?_⟩⟩ var_mono
      have k2 : Kt [] H1 (upd H1 D (.lst [])) := Kt.new hD
      refine lc_tupU (SqT.of (k2.tup h2)) ?_
      refine ⟨rfl, _, rfl, _, _, _, _, false, rfl, .ty _, .base (.int _), kit_ty (by decide +kernel), _, rfl, iteF ⟨SqT.of (k2.tup h2), ?_⟩⟩
      have kk : Kt [] H (upd H1 D (.lst [])) := k1.trans k2
      have g : (upd H1 D (.lst [])) D = some (.lst (([] : List Int).map V.int)) := upd_same
      have hl : ([] : List Int).length ≤ 2 := by decide
      have hv : ∀ m : Int, m ∈ (0 :: [] : List Int) → (∀ y ∈ (0 :: [] : List Int), y ≤ m) → m + (if ([] : List Int).isEmpty then 0 else 1) = (((Ex.num i).depth : Nat) : Int) := fun m h1 h2 => by
        have : m = 0 := by simpa using h1
        rw [this]
        rfl
      generalize ([] : List Int) = ns at g hl hv
      generalize upd H1 D (.lst []) = HF at kk g ⊢
      generalize ((Ex.num i).depth : Nat) = dd at q hv
    case' flag b =>
      obtain ⟨p, rfl, h1⟩ := r
      refine tsl_tail ⟨_, rfl, p, _, _, rfl, h1, fun t H1 k1 h2 => ⟨t, rfl, ⟨_, SqT.of h2⟩, fun D hD => ?_⟩⟩ var_mono
      have k2 : Kt [] H1 (upd H1 D (.lst [])) := Kt.new hD
      refine lc_tupU (SqT.of (k2.tup h2)) ?_
      refine ⟨rfl, _, rfl, _, _, _, _, false, rfl, .ty _, .base (.bl _), kit_ty (by decide +kernel), _, rfl, iteF ⟨SqT.of (k2.tup h2), ?_⟩⟩
      have kk : Kt [] H (upd H1 D (.lst [])) := k1.trans k2
      have g : (upd H1 D (.lst [])) D = some (.lst (([] : List Int).map V.int)) := upd_same
      have hl : ([] : List Int).length ≤ 2 := by decide
      have hv : ∀ m : Int, m ∈ (0 :: [] : List Int) → (∀ y ∈ (0 :: [] : List Int), y ≤ m) → m + (if ([] : List Int).isEmpty then 0 else 1) = (((Ex.flag b).depth : Nat) : Int) := fun m h1 h2 => by
        have : m = 0 := by simpa using h1
        rw [this]
        rfl
      generalize ([] : List Int) = ns at g hl hv
      generalize upd H1 D (.lst []) = HF at kk g ⊢
      generalize ((Ex.flag b).depth : Nat) = dd at q hv
    case' un a =>
      obtain ⟨p, va, rfl, h1, ra⟩ := r
      refine tsl_tail ⟨_, rfl, p, _, _, rfl, h1, fun t H1 k1 h2 => ⟨t, rfl, ⟨_, SqT.of h2⟩, fun D hD => ?_⟩⟩ var_mono
      have k2 : Kt [] H1 (upd H1 D (.lst [])) := Kt.new hD
      have g2 : (upd H1 D (.lst [])) D = some (.lst []) := upd_same
      refine lc_tupU (SqT.of (k2.tup h2)) ?_
      generalize upd H1 D (.lst []) = H2 at k2 g2 ⊢
      have ra2 := rep_keep (k1.trans k2) ra
      refine ⟨rfl, _, rfl, _, _, _, _, true, rfl, .ty _, ty ra2, kit_ty (by decide +kernel), _, rfl, iteT ⟨_, rfl, va, a, rfl, ra2, Nat.lt_of_succ_lt_succ hd, fun H3 k3 => ⟨[], k3.get0 g2, (by decide), ?_⟩⟩⟩
      have k4 : Kt [D] H3 (upd H3 D (.lst ([] ++ [.int a.depth]))) := Kt.at_ (k3.get0 g2) (fun _ z => nomatch z) (by simp)
      refine ⟨SqT.of (k4.tup ((k2.trans k3).tup h2)), ?_⟩
      have kk : Kt [] H (upd H3 D (.lst ([] ++ [.int a.depth]))) := k1.trans (((k2.trans k3).nil.trans k4).drop hD)
      have g : (upd H3 D (.lst ([] ++ [.int a.depth]))) D = some (.lst (([(a.depth : Int)] : List Int).map V.int)) := upd_same
      have hl : ([(a.depth : Int)] : List Int).length ≤ 2 := by show 1 ≤ 2; decide
      have hv : ∀ m : Int, m ∈ (0 :: [(a.depth : Int)] : List Int) → (∀ y ∈ (0 :: [(a.depth : Int)] : List Int), y ≤ m) → m + (if ([(a.depth : Int)] : List Int).isEmpty then 0 else 1) = (((Ex.un a).depth : Nat) : Int) := fun m h1 h2 => by
        have e1 := h2 a.depth (by simp)
        have e2 : m = 0 ∨ m = a.depth := by simpa using h1
        have e3 : 0 ≤ m := h2 0 (by simp)
        show m + 1 = ((a.depth + 1 : Nat) : Int)
        omega
      generalize ([(a.depth : Int)] : List Int) = ns at g hl hv
      generalize upd H3 D (.lst ([] ++ [.int a.depth])) = HF at kk g ⊢
      generalize ((Ex.un a).depth : Nat) = dd at q hv
    case' bin u a b =>
      obtain ⟨p, va, vb, rfl, h1, ra, rb⟩ := r
      have hda : a.depth < n ∧ b.depth < n := by
        have : max a.depth b.depth + 1 < n + 1 := hd
        omega
      refine tsl_tail ⟨_, rfl, p, _, _, rfl, h1, fun t H1 k1 h2 => ⟨t, rfl, ⟨_, SqT.of h2⟩, fun D hD => ?_⟩⟩ var_mono
      have k2 : Kt [] H1 (upd H1 D (.lst [])) := Kt.new hD
      have g2 : (upd H1 D (.lst [])) D = some (.lst []) := upd_same
      refine lc_tupU (SqT.of (k2.tup h2)) ?_
      generalize upd H1 D (.lst []) = H2 at k2 g2 ⊢
      have ra2 := rep_keep (k1.trans k2) ra
      refine ⟨rfl, _, rfl, _, _, _, _, true, rfl, .ty _, ty ra2, kit_ty (by decide +kernel), _, rfl, iteT ⟨_, rfl, va, a, rfl, ra2, hda.1, fun H3 k3 => ⟨[], k3.get0 g2, (by decide), ?_⟩⟩⟩
      have k4 : Kt [D] H3 (upd H3 D (.lst ([] ++ [.int a.depth]))) := Kt.at_ (k3.get0 g2) (fun _ z => nomatch z) (by simp)
      have g4 : (upd H3 D (.lst ([] ++ [.int a.depth]))) D = some (.lst [.int a.depth]) := upd_same
      refine ⟨SqT.of (k4.tup ((k2.trans k3).tup h2)), ?_⟩
      generalize upd H3 D (.lst ([] ++ [.int a.depth])) = H4 at k4 g4 ⊢
      have kk : Kt [] H H4 := k1.trans (((k2.trans k3).nil.trans k4).drop hD)
      have rb2 := rep_keep kk rb
      refine ⟨rfl, _, rfl, _, _, _, _, true, rfl, .ty _, ty rb2, kit_ty (by decide +kernel), _, rfl, iteT ⟨_, rfl, vb, b, rfl, rb2, hda.2, fun H5 k5 => ⟨[.int a.depth], k5.get0 g4, (by show 1 < sizeLine; decide), ?_⟩⟩⟩
      have k6 : Kt [D] H5 (upd H5 D (.lst ([.int a.depth] ++ [.int b.depth]))) := Kt.at_ (k5.get0 g4) (fun _ z => nomatch z) (by simp)
      refine ⟨SqT.of (k6.tup ((((k2.trans k3).nil.trans k4).trans k5.nil).tup h2)), ?_⟩
      have kk : Kt [] H (upd H5 D (.lst ([.int a.depth] ++ [.int b.depth]))) := k1.trans ((((k2.trans k3).nil.trans k4).trans (k5.nil.trans k6)).drop hD)
      have g : (upd H5 D (.lst ([.int a.depth] ++ [.int b.depth]))) D = some (.lst (([(a.depth : Int), (b.depth : Int)] : List Int).map V.int)) := upd_same
      have hl : ([(a.depth : Int), (b.depth : Int)] : List Int).length ≤ 2 := by show 2 ≤ 2; decide
      have hv : ∀ m : Int, m ∈ (0 :: [(a.depth : Int), (b.depth : Int)] : List Int) → (∀ y ∈ (0 :: [(a.depth : Int), (b.depth : Int)] : List Int), y ≤ m) → m + (if ([(a.depth : Int), (b.depth : Int)] : List Int).isEmpty then 0 else 1) = (((Ex.bin u a b).depth : Nat) : Int) := fun m h1 h2 => by
        have e1 := h2 a.depth (by simp)
        have e3 := h2 b.depth (by simp)
        have e2 : m = 0 ∨ m = a.depth ∨ m = b.depth := by simpa using h1
        have e4 : 0 ≤ m := h2 0 (by simp)
        show m + 1 = ((max a.depth b.depth + 1 : Nat) : Int)
        omega
      generalize ([(a.depth : Int), (b.depth : Int)] : List Int) = ns at g hl hv
      generalize upd H5 D (.lst ([.int a.depth] ++ [.int b.depth])) = HF at kk g ⊢
      generalize ((Ex.bin u a b).depth : Nat) = dd at q hv
    all_goals
      obtain ⟨s1, s2⟩ := ints_ne ns hl
      refine ⟨(by decide), fun l nl => ⟨_, rfl, l, D, _, _, rfl, rfl, upd_same, (Kt.new (S := []) nl).get0 g, (by rw [List.length_map]; exact Nat.le_trans (show 1 + ns.length ≤ 3 by omega) (by decide)), fun l2 nl2 => ?_⟩⟩
      have k7 : Kt [] HF (upd HF l (.lst [.int 0])) := Kt.new nl
      generalize upd HF l (.lst [.int 0]) = H7 at k7 nl2 ⊢
      have k8 : Kt [] H7 (upd H7 l2 (.lst ([.int 0] ++ ns.map V.int))) := Kt.new nl2
      have g8 : (upd H7 l2 (.lst ([.int 0] ++ ns.map V.int))) l2 = some (.lst ((0 :: ns).map V.int)) := upd_same
      generalize upd H7 l2 (.lst ([.int 0] ++ ns.map V.int)) = H8 at k8 g8 ⊢
      refine ⟨l2, 0 :: ns, rfl, SqL.of g8, Nat.succ_pos _, fun m h1 h2 => ?_⟩
      refine ⟨_, rfl, (by decide), fun l3 nl3 => ⟨.list (ns.map PyData.int), .list [], .lst (SqL.of ((k7.trans (k8.trans (Kt.new nl3))).get0 g)) (dp_ints ns), .lst (SqL.of upd_same) .nil, s1, (by decide +kernel), .inr ⟨_, rfl, _, _, rfl, rfl, ?_⟩⟩⟩
      have z := q _ (kk.trans (k7.trans (k8.trans (Kt.new (o := .lst []) nl3))))
      rw [← hv m h1 h2] at z
      rw [s2]
      cases ns with
      | nil => exact z
      | cons a b => exact z
end
end K80


set_option Elab.async false
set_option linter.all false
set_option maxRecDepth 100000
set_option maxHeartbeats 4000000
namespace Lw
open PySem PySem.Spec PyProof.Rows L2
theorem val_cons {κ : Type} [DecidableEq κ] {a k : κ} {v : V} {r : List (κ × V)} : valV ((a, v) :: r) k = if a = k then some v else valV r k := by
  unfold valV
  by_cases h : a = k <;> simp [List.find?, h]
theorem val_hit {κ : Type} [DecidableEq κ] {a : κ} {v : V} {r : List (κ × V)} : valV ((a, v) :: r) a = some v := by rw [val_cons, if_pos rfl]
theorem val_miss {κ : Type} [DecidableEq κ] {a k : κ} {v : V} {r : List (κ × V)} (h : ¬ a = k) : valV ((a, v) :: r) k = valV r k := by rw [val_cons, if_neg h]
/-- a list that begins with an int -/
def IntL (H : Hp) (b : Addr) : Prop := ∃ i r, H b = some (.lst (.int i :: r))
theorem IntL.ne {H : Hp} {b c : Addr} {o : HO} (h : IntL H b) (hc : H c = some o) (d : ∀ i r, o ≠ .lst (.int i :: r)) : c ≠ b := by
  obtain ⟨i, r, e⟩ := h
  exact ne_of hc e (d i r)
end Lw
namespace K80
open PySem PySem.Spec PyProof.Rows L2 Lw
/-- the names: three of each sort, all unlike -/
structure NmOk (nm : So → List Str) : Prop where
  three : ∀ s, (nm s).length = 3
  apart : ∀ s t x, x ∈ nm s → x ∈ nm t → s = t
  nodup : ∀ s, (nm s).Nodup
/-- the dict of names stands at d -/
def NmAt (H : Hp) (d : Addr) (nm : So → List Str) : Prop := ∃ (l : So → Addr), H d = some (.dK [(Sum.inr "num", .ref (l .num)), (Sum.inr "flag", .ref (l .flag)), (Sum.inr "ref", .ref (l .ref))]) ∧ ∀ s, H (l s) = some (.lst ((nm s).map V.str))
theorem strs_no {xs : List Str} {i : Int} {r : List V} : HO.lst (xs.map V.str) ≠ .lst (.int i :: r) ∨ False := by
  left
  intro z
  injection z with z
  cases xs with
  | nil => cases z
  | cons a b => injection z with z1 z2; cases z1
theorem nm_keep {S : List Addr} {H H' : Hp} {d : Addr} {nm : So → List Str} (k : Kt S H H') (n : ∀ b ∈ S, IntL H b) (h : NmAt H d nm) : NmAt H' d nm := by
  obtain ⟨l, h1, h2⟩ := h
  refine ⟨l, k.get h1 fun z => (n _ z).ne h1 (fun _ _ z => nomatch z) rfl, fun s => k.get (h2 s) fun z => (n _ z).ne (h2 s) (fun _ _ => (strs_no).elim id fun z => z.elim) rfl⟩
theorem nm_keep0 {H H' : Hp} {d : Addr} {nm : So → List Str} (k : Kt [] H H') (h : NmAt H d nm) : NmAt H' d nm := nm_keep k (fun _ z => nomatch z) h
theorem nm_get {H : Hp} {d : Addr} {nm : So → List Str} (h : NmAt H d nm) (s : So) : ∃ l, DGet H d (.str s.str) (some (.ref l)) ∧ H l = some (.lst ((nm s).map V.str)) := by
  obtain ⟨l, h1, h2⟩ := h
  refine ⟨l s, ?_, h2 s⟩
  have e : valV ([(Sum.inr "num", V.ref (l .num)), (Sum.inr "flag", .ref (l .flag)), (Sum.inr "ref", .ref (l .ref))] : List (Key × V)) (Sum.inr s.str : Key) = some (.ref (l s)) := by
    cases s with
    | num => exact val_hit
    | flag => exact (val_miss (by decide +kernel)).trans val_hit
    | ref => exact (val_miss (by decide +kernel)).trans ((val_miss (by decide +kernel)).trans val_hit)
  rw [← e]
  exact DGet.k (k := Sum.inr s.str) h1
def mkNm (a b c : List Str) : So → List Str
  | .num => a
  | .flag => b
  | .ref => c
theorem src_intl {H : Hp} {p : Addr} (h : Src H p) : IntL H p := by
  obtain ⟨c, d, k, h⟩ := h
  exact ⟨c, _, h⟩
theorem src_ne {H : Hp} {p b : Addr} {o : HO} (h : Src H p) (hb : H b = some o) (d : ∀ i r, o ≠ .lst (.int i :: r)) : b ≠ p := (src_intl h).ne hb d
theorem src_keep {S : List Addr} {H H' : Hp} {p : Addr} (k : Kt S H H') (n : p ∉ S) (h : Src H p) : Src H' p := by
  obtain ⟨c, d, i, h⟩ := h
  exact ⟨c, d, i, k.get h n⟩
theorem src_keep0 {H H' : Hp} {p : Addr} (k : Kt [] H H') (h : Src H p) : Src H' p := src_keep k (by simp) h
section
variable {P : Program} {w : World} {K : PySem.W.Frag} {mg : Str → Option Value} {base : Heap} (T : Facts K mg)
include T
/-- a draw below n -/
def sp_pick2 : Sp := fun vs H Q _ => ∃ (p : Addr) (n : Int), vs = [.ref p, .int n] ∧ Src H p ∧ 1 ≤ n ∧ n < 2 ^ 60 ∧ ∀ r H', 0 ≤ r → r < n → Src H' p → Kt [p] H H' → Q (.int r) H'
theorem ok_pick2 : Df P w K mg base 1 "_law_pick" ["source", "size"] sp_pick2 := (ok_pick T).imp fun vs H Q E ⟨p, n, e, ⟨c, d, k, hp⟩, h1, h2, q⟩ =>
  ⟨p, c, d, k, n, e, hp, h2, fun r d' h3 h4 => q r _ h3 (by omega) ⟨c, d', k + 1, upd_same⟩ (Kt.at_ hp (fun _ z => nomatch z) (by simp))⟩
/-- an item of a list -/
def sp_one2 (K : PySem.W.Frag) : Sp := fun vs H Q _ => ∃ (p l : Addr) (xs : List V), vs = [.ref p, .ref l] ∧ Src H p ∧ H l = some (.lst xs) ∧ xs ≠ [] ∧ xs.length < 1000000 ∧ l ≠ p ∧ ∀ v H', v ∈ xs → Src H' p → Kt [p] H H' → Q v H'
theorem ok_one2 : Df P w K mg base 2 "_law_one" ["source", "row"] (sp_one2 K) := by
  refine Lw.Df.mk (T.d__law_one) sc__law_one (fun _ _ _ _ _ _ us hl => match us, hl with | [_, _], _ => rfl) (fun vs H Q E h => ?_) (fun f cdv A outer s H vs Q E hr h => ?_)
  · obtain ⟨p, l, xs, rfl, _⟩ := h
    rfl
  have sc := sc__law_one
  have D__law_pick := ok_pick2 (P := P) (w := w) (base := base) T
  obtain ⟨p, l, xs, rfl, hp, hS, hne, hz, hlp, q⟩ := h
  have hl : 0 < xs.length := List.length_pos_iff.mpr hne
  refine ⟨_, (pss_one (ps_ret (pe_ix ix_list (pv 1) (Lw.pe_d D__law_pick (hr.mono (by omega)) (pa_cons (pv 0) (pa_cons (pe_callB call_len_seq (by rfl) T.z_len boot_len (pa_cons (pv 1) pa_nil)) pa_nil))) (fun _ _ => rfl)))), ?_⟩
  refine ⟨_, rfl, _, rfl, _, rfl, l, _, rfl, .inl (SqL.of hS), p, _, rfl, hp, by omega, (by omega), fun r H' h0 h1 s1 k1 => ?_⟩
  have hr1 : r.toNat < xs.length := by omega
  refine ⟨l, xs, r, xs[r.toNat], rfl, rfl, SqL.of (k1.get hS (by simpa using hlp)), ?_, ?_⟩
  · exact at_of (j := r.toNat) (by omega) (List.getElem?_eq_getElem hr1)
  · exact q _ _ (List.getElem_mem hr1) s1 k1
/-- what is asked of a word's parts -/
def sp_inner : Sp := fun vs H Q _ => ∃ (z : Str) (s : So), vs = [.str z] ∧ (z = "not" ∧ s = .flag ∨ ∃ w : Wd, z = w.str ∧ s = w.inner) ∧ ∀ H', Kt [] H H' → Q (.str s.str) H'
theorem ok_inner : Df P w K mg base 1 "_law_inner_sort" ["word"] sp_inner := by
  refine Lw.Df.mk (T.d__law_inner_sort) sc__law_inner_sort (fun _ _ _ _ _ _ us hl => match us, hl with | [_], _ => rfl) (fun vs H Q E h => ?_) (fun f cdv A outer s H vs Q E hr h => ?_)
  · obtain ⟨_, _, rfl, _⟩ := h
    rfl
  have sc := sc__law_inner_sort
  obtain ⟨z, so, rfl, hz, q⟩ := h
  refine ⟨_, (pss_cons (ps_if (pt_cmpR op_in_seq (pv 0) (pe_lst (pa_cons pe_str (pa_cons pe_str (pa_cons pe_str pa_nil)))) (by rfl))
(pss_one (ps_ret pe_str))
pss_nil)
(pss_one (ps_ret (pe_ix ix_list (pe_lst (pa_cons pe_str (pa_cons pe_str pa_nil))) (pe_callTy call_int1 (by rfl) T.z_int boot_int (pa_cons (pe_cmpR op_eq (pv 0) pe_str (nomark _)) pa_nil)) (fun _ _ => rfl))))), ?_⟩

  rcases hz with ⟨rfl, rfl⟩ | ⟨w, rfl, rfl⟩
  · refine ⟨_, rfl, (by decide), fun l hl => ⟨l, _, rfl, .inl (SqL.of upd_same), rfl, rfl, _, rfl, iteE true (by decide +kernel) (iteT ?_)⟩⟩
    exact q _ (Kt.new hl)
  · cases w
    case and =>
      refine ⟨_, rfl, (by decide), fun l hl => ⟨l, _, rfl, .inl (SqL.of upd_same), rfl, rfl, _, rfl, iteE true (by decide +kernel) (iteT ?_)⟩⟩
      exact q _ (Kt.new hl)
    case or =>
      refine ⟨_, rfl, (by decide), fun l hl => ⟨l, _, rfl, .inl (SqL.of upd_same), rfl, rfl, _, rfl, iteE true (by decide +kernel) (iteT ?_)⟩⟩
      exact q _ (Kt.new hl)
    case same =>
      refine ⟨_, rfl, (by decide), fun l hl => ⟨l, _, rfl, .inl (SqL.of upd_same), rfl, rfl, _, rfl, iteE false (by decide +kernel) (iteF ?_)⟩⟩
      exact ⟨(by decide), fun l2 n2 => ⟨_, rfl, rfl, .inr ⟨_, rfl, l2, _, _, _, rfl, rfl, SqL.of upd_same, at_of (j := 1) (by decide +kernel) rfl, q _ ((Kt.new hl).trans (Kt.new n2))⟩⟩⟩
    all_goals
      refine ⟨_, rfl, (by decide), fun l hl => ⟨l, _, rfl, .inl (SqL.of upd_same), rfl, rfl, _, rfl, iteE false (by decide +kernel) (iteF ?_)⟩⟩
      exact ⟨(by decide), fun l2 n2 => ⟨_, rfl, rfl, .inr ⟨_, rfl, l2, _, _, _, rfl, rfl, SqL.of upd_same, at_of (j := 0) (by decide +kernel) rfl, q _ ((Kt.new hl).trans (Kt.new n2))⟩⟩⟩
end
end K80


set_option Elab.async false
set_option linter.all false
set_option maxRecDepth 100000
set_option maxHeartbeats 4000000
namespace Lw
open PySem PySem.Spec PyProof.Rows L2
theorem none_back {H H' : Hp} {p : Addr} (k : Kt [] H H') (h : H' p = none) : H p = none := by
  cases e : H p with
  | none => rfl
  | some o =>
    rw [k.get0 e] at h
    cases h
theorem merge3 {a b c : Key} {x y z : V} (h1 : ¬ a = b) (h2 : ¬ a = c) (h3 : ¬ b = c) : mergeK [] [(a, x), (b, y), (c, z)] = [(a, x), (b, y), (c, z)] := by
  show putK (putK (putK [] a x) b y) c z = _
  have e1 : putK [] a x = [(a, x)] := putK_new x rfl
  rw [e1]
  have e2 : putK [(a, x)] b y = [(a, x), (b, y)] := putK_new y ((val_miss h1).trans rfl)
  rw [e2]
  exact putK_new z ((val_miss h2).trans ((val_miss h3).trans rfl))
end Lw
namespace K80
open PySem PySem.Spec PyProof.Rows L2 Lw
theorem nm_ok {a b c : List Str} (h : (a ++ (b ++ c)).Nodup) (h1 : a.length = 3) (h2 : b.length = 3) (h3 : c.length = 3) : NmOk (mkNm a b c) := by
  obtain ⟨na, nbc, dis⟩ := List.nodup_append.mp h
  obtain ⟨nb, nc, dis2⟩ := List.nodup_append.mp nbc
  refine ⟨fun s => by cases s <;> assumption, fun s t x hs ht => ?_, fun s => by cases s <;> assumption⟩
  have d1 : ∀ x, x ∈ a → x ∈ b → False := fun x p q => dis x p x (List.mem_append.mpr (.inl q)) rfl
  have d2 : ∀ x, x ∈ a → x ∈ c → False := fun x p q => dis x p x (List.mem_append.mpr (.inr q)) rfl
  have d3 : ∀ x, x ∈ b → x ∈ c → False := fun x p q => dis2 x p x q rfl
  cases s <;> cases t <;> first | rfl | exact (d1 x hs ht).elim | exact (d1 x ht hs).elim | exact (d2 x hs ht).elim | exact (d2 x ht hs).elim | exact (d3 x hs ht).elim | exact (d3 x ht hs).elim
section
variable {P : Program} {w : World} {K : PySem.W.Frag} {mg : Str → Option Value} {base : Heap} (T : Facts K mg)
include T
def sp_names : Sp := fun vs H Q _ => ∃ (p : Addr), vs = [.ref p] ∧ Src H p ∧ ∀ d H' nm, NmOk nm → Kt [p] H H' → Src H' p → NmAt H' d nm → Q (.ref d) H'
theorem ok_names : Df P w K mg base 3 "_law_names" ["source"] sp_names := by
  refine Lw.Df.mk (T.d__law_names) sc__law_names (fun _ _ _ _ _ _ us hl => match us, hl with | [_], _ => rfl) (fun vs H Q E h => ?_) (fun f cdv A outer s H vs Q E hr h => ?_)
  · obtain ⟨_, rfl, _⟩ := h
    rfl
  have sc := sc__law_names
  have D__law_one := ok_one2 (P := P) (w := w) (base := base) T
  obtain ⟨p, rfl, hs, q0⟩ := h
  have q : ∀ d H' nm, NmOk nm → Kt [p] H H' → Src H' p → NmAt H' d nm → Q (.ref d) H' := q0
  refine ⟨_, (pss_cons (ps_set (i := 1) sc.nd rfl (by first | exact Or.inl rfl | exact Or.inr rfl) (pe_lst (pa_cons (pe_lst (pa_cons (pe_lst (pa_cons pe_str (pa_cons pe_str (pa_cons pe_str pa_nil)))) (pa_cons (pe_lst (pa_cons pe_str (pa_cons pe_str (pa_cons pe_str pa_nil)))) (pa_cons (pe_lst (pa_cons pe_str (pa_cons pe_str (pa_cons pe_str pa_nil)))) pa_nil)))) (pa_cons (pe_lst (pa_cons (pe_lst (pa_cons pe_str (pa_cons pe_str (pa_cons pe_str pa_nil)))) (pa_cons (pe_lst (pa_cons pe_str (pa_cons pe_str (pa_cons pe_str pa_nil)))) (pa_cons (pe_lst (pa_cons pe_str (pa_cons pe_str (pa_cons pe_str pa_nil)))) pa_nil)))) pa_nil))))
(pss_cons (ps_expr (pe_bm PySem.F.plainAttrs_list PySem.F.slot_list_append PySem.F.type_list_append mt_append (pv 1) (pa_cons (pe_lst (pa_cons (pe_lst (pa_cons pe_str (pa_cons pe_str (pa_cons pe_str pa_nil)))) (pa_cons (pe_lst (pa_cons pe_str (pa_cons pe_str (pa_cons pe_str pa_nil)))) (pa_cons (pe_lst (pa_cons pe_str (pa_cons pe_str (pa_cons pe_str pa_nil)))) pa_nil)))) pa_nil)))
(pss_cons (ps_set (i := 2) sc.nd rfl (by first | exact Or.inl rfl | exact Or.inr rfl) (Lw.pe_d D__law_one (hr.mono (by omega)) (pa_cons (pv 0) (pa_cons (pv 1) pa_nil))))
(pss_one (ps_ret (pe_disp (pps_cons pe_str (pe_ix ix_list (pv 2) pe_int (fun _ _ => rfl)) (pps_cons pe_str (pe_ix ix_list (pv 2) pe_int (fun _ _ => rfl)) (pps_cons pe_str (pe_ix ix_list (pv 2) pe_int (fun _ _ => rfl)) pps_nil))) (by rfl) (by rfl) (fun z => by cases z) (by decide))))))), ?_⟩
  refine ⟨(by decide), fun t00 n_t00 => ?_⟩
  have k1 : Kt [] H (upd H t00 (.lst [.str "a", .str "b", .str "c"])) := Kt.new n_t00
  have g_t00 : (upd H t00 (.lst [.str "a", .str "b", .str "c"])) t00 = some ((.lst [.str "a", .str "b", .str "c"])) := upd_same
  generalize upd H t00 (.lst [.str "a", .str "b", .str "c"]) = H1 at k1 g_t00 ⊢
  have kk := k1
  have hs := src_keep0 k1 hs
  refine ⟨(by decide), fun t01 n_t01 => ?_⟩
  have k2 : Kt [] H1 (upd H1 t01 (.lst [.str "f", .str "g", .str "h"])) := Kt.new n_t01
  have g_t01 : (upd H1 t01 (.lst [.str "f", .str "g", .str "h"])) t01 = some ((.lst [.str "f", .str "g", .str "h"])) := upd_same
  generalize upd H1 t01 (.lst [.str "f", .str "g", .str "h"]) = H2 at k2 g_t01 ⊢
  have g_t00 := k2.get0 g_t00
  have kk := kk.trans k2
  have hs := src_keep0 k2 hs
  refine ⟨(by decide), fun t02 n_t02 => ?_⟩
  have k3 : Kt [] H2 (upd H2 t02 (.lst [.str "r", .str "s", .str "t"])) := Kt.new n_t02
  have g_t02 : (upd H2 t02 (.lst [.str "r", .str "s", .str "t"])) t02 = some ((.lst [.str "r", .str "s", .str "t"])) := upd_same
  generalize upd H2 t02 (.lst [.str "r", .str "s", .str "t"]) = H3 at k3 g_t02 ⊢
  have g_t00 := k3.get0 g_t00
  have g_t01 := k3.get0 g_t01
  have kk := kk.trans k3
  have hs := src_keep0 k3 hs
  refine ⟨(by show 3 ≤ sizeLine; decide), fun m0 n_m0 => ?_⟩
  have k4 : Kt [] H3 (upd H3 m0 (.lst [.ref t00, .ref t01, .ref t02])) := Kt.new n_m0
  have g_m0 : (upd H3 m0 (.lst [.ref t00, .ref t01, .ref t02])) m0 = some ((.lst [.ref t00, .ref t01, .ref t02])) := upd_same
  generalize upd H3 m0 (.lst [.ref t00, .ref t01, .ref t02]) = H4 at k4 g_m0 ⊢
  have g_t00 := k4.get0 g_t00
  have g_t01 := k4.get0 g_t01
  have g_t02 := k4.get0 g_t02
  have kk := kk.trans k4
  have hs := src_keep0 k4 hs
  refine ⟨(by decide), fun t10 n_t10 => ?_⟩
  have k5 : Kt [] H4 (upd H4 t10 (.lst [.str "n", .str "n1", .str "n12"])) := Kt.new n_t10
  have g_t10 : (upd H4 t10 (.lst [.str "n", .str "n1", .str "n12"])) t10 = some ((.lst [.str "n", .str "n1", .str "n12"])) := upd_same
  generalize upd H4 t10 (.lst [.str "n", .str "n1", .str "n12"]) = H5 at k5 g_t10 ⊢
  have g_t00 := k5.get0 g_t00
  have g_t01 := k5.get0 g_t01
  have g_t02 := k5.get0 g_t02
  have g_m0 := k5.get0 g_m0
  have kk := kk.trans k5
  have hs := src_keep0 k5 hs
  refine ⟨(by decide), fun t11 n_t11 => ?_⟩
  have k6 : Kt [] H5 (upd H5 t11 (.lst [.str "f1", .str "f", .str "flagged"])) := Kt.new n_t11
  have g_t11 : (upd H5 t11 (.lst [.str "f1", .str "f", .str "flagged"])) t11 = some ((.lst [.str "f1", .str "f", .str "flagged"])) := upd_same
  generalize upd H5 t11 (.lst [.str "f1", .str "f", .str "flagged"]) = H6 at k6 g_t11 ⊢
  have g_t00 := k6.get0 g_t00
  have g_t01 := k6.get0 g_t01
  have g_t02 := k6.get0 g_t02
  have g_m0 := k6.get0 g_m0
  have g_t10 := k6.get0 g_t10
  have kk := kk.trans k6
  have hs := src_keep0 k6 hs
  refine ⟨(by decide), fun t12 n_t12 => ?_⟩
  have k7 : Kt [] H6 (upd H6 t12 (.lst [.str "x1", .str "x", .str "xx"])) := Kt.new n_t12
  have g_t12 : (upd H6 t12 (.lst [.str "x1", .str "x", .str "xx"])) t12 = some ((.lst [.str "x1", .str "x", .str "xx"])) := upd_same
  generalize upd H6 t12 (.lst [.str "x1", .str "x", .str "xx"]) = H7 at k7 g_t12 ⊢
  have g_t00 := k7.get0 g_t00
  have g_t01 := k7.get0 g_t01
  have g_t02 := k7.get0 g_t02
  have g_m0 := k7.get0 g_m0
  have g_t10 := k7.get0 g_t10
  have g_t11 := k7.get0 g_t11
  have kk := kk.trans k7
  have hs := src_keep0 k7 hs
  refine ⟨(by show 3 ≤ sizeLine; decide), fun m1 n_m1 => ?_⟩
  have k8 : Kt [] H7 (upd H7 m1 (.lst [.ref t10, .ref t11, .ref t12])) := Kt.new n_m1
  have g_m1 : (upd H7 m1 (.lst [.ref t10, .ref t11, .ref t12])) m1 = some ((.lst [.ref t10, .ref t11, .ref t12])) := upd_same
  generalize upd H7 m1 (.lst [.ref t10, .ref t11, .ref t12]) = H8 at k8 g_m1 ⊢
  have g_t00 := k8.get0 g_t00
  have g_t01 := k8.get0 g_t01
  have g_t02 := k8.get0 g_t02
  have g_m0 := k8.get0 g_m0
  have g_t10 := k8.get0 g_t10
  have g_t11 := k8.get0 g_t11
  have g_t12 := k8.get0 g_t12
  have kk := kk.trans k8
  have hs := src_keep0 k8 hs
  refine ⟨(by show 2 ≤ sizeLine; decide), fun L n_L => ?_⟩
  have freeL := kk
  have k9 : Kt [] H8 (upd H8 L (.lst [.ref m0, .ref m1])) := Kt.new n_L
  have g_L : (upd H8 L (.lst [.ref m0, .ref m1])) L = some ((.lst [.ref m0, .ref m1])) := upd_same
  generalize upd H8 L (.lst [.ref m0, .ref m1]) = H9 at k9 g_L ⊢
  have g_t00 := k9.get0 g_t00
  have g_t01 := k9.get0 g_t01
  have g_t02 := k9.get0 g_t02
  have g_m0 := k9.get0 g_m0
  have g_t10 := k9.get0 g_t10
  have g_t11 := k9.get0 g_t11
  have g_t12 := k9.get0 g_t12
  have g_m1 := k9.get0 g_m1
  have kk := kk.trans k9
  have hs := src_keep0 k9 hs
  refine ⟨_, rfl, .inl ⟨rfl, _, SqL.of g_L⟩, ?_⟩
  refine ⟨(by decide), fun t20 n_t20 => ?_⟩
  have k10 : Kt [] H9 (upd H9 t20 (.lst [.str "left", .str "w", .str "righthandone"])) := Kt.new n_t20
  have g_t20 : (upd H9 t20 (.lst [.str "left", .str "w", .str "righthandone"])) t20 = some ((.lst [.str "left", .str "w", .str "righthandone"])) := upd_same
  generalize upd H9 t20 (.lst [.str "left", .str "w", .str "righthandone"]) = H10 at k10 g_t20 ⊢
  have g_t00 := k10.get0 g_t00
  have g_t01 := k10.get0 g_t01
  have g_t02 := k10.get0 g_t02
  have g_m0 := k10.get0 g_m0
  have g_t10 := k10.get0 g_t10
  have g_t11 := k10.get0 g_t11
  have g_t12 := k10.get0 g_t12
  have g_m1 := k10.get0 g_m1
  have g_L := k10.get0 g_L
  have kk := kk.trans k10
  have hs := src_keep0 k10 hs
  refine ⟨(by decide), fun t21 n_t21 => ?_⟩
  have k11 : Kt [] H10 (upd H10 t21 (.lst [.str "p0", .str "p", .str "q"])) := Kt.new n_t21
  have g_t21 : (upd H10 t21 (.lst [.str "p0", .str "p", .str "q"])) t21 = some ((.lst [.str "p0", .str "p", .str "q"])) := upd_same
  generalize upd H10 t21 (.lst [.str "p0", .str "p", .str "q"]) = H11 at k11 g_t21 ⊢
  have g_t00 := k11.get0 g_t00
  have g_t01 := k11.get0 g_t01
  have g_t02 := k11.get0 g_t02
  have g_m0 := k11.get0 g_m0
  have g_t10 := k11.get0 g_t10
  have g_t11 := k11.get0 g_t11
  have g_t12 := k11.get0 g_t12
  have g_m1 := k11.get0 g_m1
  have g_L := k11.get0 g_L
  have g_t20 := k11.get0 g_t20
  have kk := kk.trans k11
  have hs := src_keep0 k11 hs
  refine ⟨(by decide), fun t22 n_t22 => ?_⟩
  have k12 : Kt [] H11 (upd H11 t22 (.lst [.str "node", .str "no", .str "n"])) := Kt.new n_t22
  have g_t22 : (upd H11 t22 (.lst [.str "node", .str "no", .str "n"])) t22 = some ((.lst [.str "node", .str "no", .str "n"])) := upd_same
  generalize upd H11 t22 (.lst [.str "node", .str "no", .str "n"]) = H12 at k12 g_t22 ⊢
  have g_t00 := k12.get0 g_t00
  have g_t01 := k12.get0 g_t01
  have g_t02 := k12.get0 g_t02
  have g_m0 := k12.get0 g_m0
  have g_t10 := k12.get0 g_t10
  have g_t11 := k12.get0 g_t11
  have g_t12 := k12.get0 g_t12
  have g_m1 := k12.get0 g_m1
  have g_L := k12.get0 g_L
  have g_t20 := k12.get0 g_t20
  have g_t21 := k12.get0 g_t21
  have kk := kk.trans k12
  have hs := src_keep0 k12 hs
  refine ⟨(by show 3 ≤ sizeLine; decide), fun m2 n_m2 => ?_⟩
  have k13 : Kt [] H12 (upd H12 m2 (.lst [.ref t20, .ref t21, .ref t22])) := Kt.new n_m2
  have g_m2 : (upd H12 m2 (.lst [.ref t20, .ref t21, .ref t22])) m2 = some ((.lst [.ref t20, .ref t21, .ref t22])) := upd_same
  generalize upd H12 m2 (.lst [.ref t20, .ref t21, .ref t22]) = H13 at k13 g_m2 ⊢
  have g_t00 := k13.get0 g_t00
  have g_t01 := k13.get0 g_t01
  have g_t02 := k13.get0 g_t02
  have g_m0 := k13.get0 g_m0
  have g_t10 := k13.get0 g_t10
  have g_t11 := k13.get0 g_t11
  have g_t12 := k13.get0 g_t12
  have g_m1 := k13.get0 g_m1
  have g_L := k13.get0 g_L
  have g_t20 := k13.get0 g_t20
  have g_t21 := k13.get0 g_t21
  have g_t22 := k13.get0 g_t22
  have kk := kk.trans k13
  have hs := src_keep0 k13 hs
  refine ⟨L, _, _, rfl, rfl, g_L, (by show 2 < sizeLine; decide), ?_⟩
  have kL : Kt [L] H13 (upd H13 L (.lst ([.ref m0, .ref m1] ++ [.ref m2]))) := Kt.at_ g_L (fun _ z => nomatch z) (by simp)
  have gL2 : (upd H13 L (.lst ([.ref m0, .ref m1] ++ [.ref m2]))) L = some (.lst [.ref m0, .ref m1, .ref m2]) := upd_same
  have sL : L ≠ p := src_ne hs g_L (fun _ _ z => nomatch z)
  have hs2 := src_keep kL (by simpa using fun z => sL z.symm) hs
  have g_t00 := kL.get g_t00 (by simpa using ne_of g_t00 g_L (fun z => nomatch z))
  have g_t01 := kL.get g_t01 (by simpa using ne_of g_t01 g_L (fun z => nomatch z))
  have g_t02 := kL.get g_t02 (by simpa using ne_of g_t02 g_L (fun z => nomatch z))
  have g_m0 := kL.get g_m0 (by simpa using ne_of g_m0 g_L (fun z => nomatch z))
  have g_t10 := kL.get g_t10 (by simpa using ne_of g_t10 g_L (fun z => nomatch z))
  have g_t11 := kL.get g_t11 (by simpa using ne_of g_t11 g_L (fun z => nomatch z))
  have g_t12 := kL.get g_t12 (by simpa using ne_of g_t12 g_L (fun z => nomatch z))
  have g_m1 := kL.get g_m1 (by simpa using ne_of g_m1 g_L (fun z => nomatch z))
  have g_t20 := kL.get g_t20 (by simpa using ne_of g_t20 g_L (fun z => nomatch z))
  have g_t21 := kL.get g_t21 (by simpa using ne_of g_t21 g_L (fun z => nomatch z))
  have g_t22 := kL.get g_t22 (by simpa using ne_of g_t22 g_L (fun z => nomatch z))
  have g_m2 := kL.get g_m2 (by simpa using ne_of g_m2 g_L (fun z => nomatch z))
  have kk2 : Kt [] H (upd H13 L (.lst ([.ref m0, .ref m1] ++ [.ref m2]))) := (kk.nil.trans kL).drop (none_back freeL n_L)
  generalize upd H13 L (.lst ([.ref m0, .ref m1] ++ [.ref m2])) = HL at kk2 hs2 gL2 g_t00 g_t01 g_t02 g_t10 g_t11 g_t12 g_t20 g_t21 g_t22 g_m0 g_m1 g_m2 ⊢
  refine ⟨_, rfl, _, rfl, p, L, _, rfl, hs2, gL2, (by simp), (by show 3 < 1000000; decide), sL, fun v H2 hv hs3 k3 => ?_⟩
  have intl : ∀ b ∈ [p], IntL HL b := fun b z => by rw [List.mem_singleton.mp z]; exact src_intl hs2
  have hv2 : v = .ref m0 ∨ v = .ref m1 ∨ v = .ref m2 := by simpa using hv
  rcases hv2 with rfl | rfl | rfl
  · have q0 := k3.get g_m0 fun z => (intl _ z).ne g_m0 (fun _ _ z => nomatch z) rfl
    have r0 := k3.get g_t00 fun z => (intl _ z).ne g_t00 (fun _ _ z => nomatch z) rfl
    have r1 := k3.get g_t01 fun z => (intl _ z).ne g_t01 (fun _ _ z => nomatch z) rfl
    have r2 := k3.get g_t02 fun z => (intl _ z).ne g_t02 (fun _ _ z => nomatch z) rfl
    refine fun D nD => ?_
    have k4 : Kt [] H2 (upd H2 D (.dK [])) := Kt.new nD
    refine ⟨_, rfl, m0, _, _, _, rfl, rfl, SqL.of (k4.get0 q0), atI_nat (j := 0) rfl, _, rfl, m0, _, _, _, rfl, rfl, SqL.of (k4.get0 q0), atI_nat (j := 1) rfl, _, rfl, m0, _, _, _, rfl, rfl, SqL.of (k4.get0 q0), atI_nat (j := 2) rfl, upd_same, [(Sum.inr "num", .ref t00), (Sum.inr "flag", .ref t01), (Sum.inr "ref", .ref t02)], rfl, (by show 3 ≤ 15; decide), ?_⟩
    rw [upd_upd, merge3 (by decide +kernel) (by decide +kernel) (by decide +kernel)]
    have k5 : Kt [] H2 (upd H2 D (.dK [(Sum.inr "num", .ref t00), (Sum.inr "flag", .ref t01), (Sum.inr "ref", .ref t02)])) := Kt.new nD
    refine q D _ (mkNm ["a", "b", "c"] ["f", "g", "h"] ["r", "s", "t"]) (nm_ok (by decide +kernel) rfl rfl rfl) (kk2.nil.trans (k3.trans k5.nil)) (src_keep0 k5 hs3) ⟨fun s => match s with | .num => t00 | .flag => t01 | .ref => t02, upd_same, fun s => ?_⟩
    cases s
    · exact k5.get0 r0
    · exact k5.get0 r1
    · exact k5.get0 r2
  · have q0 := k3.get g_m1 fun z => (intl _ z).ne g_m1 (fun _ _ z => nomatch z) rfl
    have r0 := k3.get g_t10 fun z => (intl _ z).ne g_t10 (fun _ _ z => nomatch z) rfl
    have r1 := k3.get g_t11 fun z => (intl _ z).ne g_t11 (fun _ _ z => nomatch z) rfl
    have r2 := k3.get g_t12 fun z => (intl _ z).ne g_t12 (fun _ _ z => nomatch z) rfl
    refine fun D nD => ?_
    have k4 : Kt [] H2 (upd H2 D (.dK [])) := Kt.new nD
    refine ⟨_, rfl, m1, _, _, _, rfl, rfl, SqL.of (k4.get0 q0), atI_nat (j := 0) rfl, _, rfl, m1, _, _, _, rfl, rfl, SqL.of (k4.get0 q0), atI_nat (j := 1) rfl, _, rfl, m1, _, _, _, rfl, rfl, SqL.of (k4.get0 q0), atI_nat (j := 2) rfl, upd_same, [(Sum.inr "num", .ref t10), (Sum.inr "flag", .ref t11), (Sum.inr "ref", .ref t12)], rfl, (by show 3 ≤ 15; decide), ?_⟩
    rw [upd_upd, merge3 (by decide +kernel) (by decide +kernel) (by decide +kernel)]
    have k5 : Kt [] H2 (upd H2 D (.dK [(Sum.inr "num", .ref t10), (Sum.inr "flag", .ref t11), (Sum.inr "ref", .ref t12)])) := Kt.new nD
    refine q D _ (mkNm ["n", "n1", "n12"] ["f1", "f", "flagged"] ["x1", "x", "xx"]) (nm_ok (by decide +kernel) rfl rfl rfl) (kk2.nil.trans (k3.trans k5.nil)) (src_keep0 k5 hs3) ⟨fun s => match s with | .num => t10 | .flag => t11 | .ref => t12, upd_same, fun s => ?_⟩
    cases s
    · exact k5.get0 r0
    · exact k5.get0 r1
    · exact k5.get0 r2
  · have q0 := k3.get g_m2 fun z => (intl _ z).ne g_m2 (fun _ _ z => nomatch z) rfl
    have r0 := k3.get g_t20 fun z => (intl _ z).ne g_t20 (fun _ _ z => nomatch z) rfl
    have r1 := k3.get g_t21 fun z => (intl _ z).ne g_t21 (fun _ _ z => nomatch z) rfl
    have r2 := k3.get g_t22 fun z => (intl _ z).ne g_t22 (fun _ _ z => nomatch z) rfl
    refine fun D nD => ?_
    have k4 : Kt [] H2 (upd H2 D (.dK [])) := Kt.new nD
    refine ⟨_, rfl, m2, _, _, _, rfl, rfl, SqL.of (k4.get0 q0), atI_nat (j := 0) rfl, _, rfl, m2, _, _, _, rfl, rfl, SqL.of (k4.get0 q0), atI_nat (j := 1) rfl, _, rfl, m2, _, _, _, rfl, rfl, SqL.of (k4.get0 q0), atI_nat (j := 2) rfl, upd_same, [(Sum.inr "num", .ref t20), (Sum.inr "flag", .ref t21), (Sum.inr "ref", .ref t22)], rfl, (by show 3 ≤ 15; decide), ?_⟩
    rw [upd_upd, merge3 (by decide +kernel) (by decide +kernel) (by decide +kernel)]
    have k5 : Kt [] H2 (upd H2 D (.dK [(Sum.inr "num", .ref t20), (Sum.inr "flag", .ref t21), (Sum.inr "ref", .ref t22)])) := Kt.new nD
    refine q D _ (mkNm ["left", "w", "righthandone"] ["p0", "p", "q"] ["node", "no", "n"]) (nm_ok (by decide +kernel) rfl rfl rfl) (kk2.nil.trans (k3.trans k5.nil)) (src_keep0 k5 hs3) ⟨fun s => match s with | .num => t20 | .flag => t21 | .ref => t22, upd_same, fun s => ?_⟩
    cases s
    · exact k5.get0 r0
    · exact k5.get0 r1
    · exact k5.get0 r2
end
end K80


set_option Elab.async false
set_option linter.all false
set_option maxRecDepth 100000
set_option maxHeartbeats 4000000
namespace K80
open PySem PySem.Spec PyProof.Rows L2 Lw
theorem src_fresh {H : Hp} {p l : Addr} (h : Src H p) (n : H l = none) : l ≠ p := fun e => by
  obtain ⟨c, d, k, h⟩ := h
  rw [e, h] at n
  cases n
/-- a room stands at q -/
def Rm (H : Hp) (q : Addr) : Prop := ∃ r : Int, H q = some (.lst [.int r])
theorem rm_intl {H : Hp} {q : Addr} (h : Rm H q) : IntL H q := by
  obtain ⟨r, h⟩ := h
  exact ⟨r, _, h⟩
theorem rm_src {H : Hp} {p q : Addr} (h : Rm H q) (s : Src H p) : q ≠ p := by
  obtain ⟨r, h⟩ := h
  obtain ⟨c, d, k, s⟩ := s
  exact ne_of h s (fun z => nomatch z)
theorem rm_keep {S : List Addr} {H H' : Hp} {p : Addr} (k : Kt S H H') (n : p ∉ S) (h : Rm H p) : Rm H' p := by
  obtain ⟨r, h⟩ := h
  exact ⟨r, k.get h n⟩
theorem intl2 {H : Hp} {p q : Addr} (s : Src H p) (r : Rm H q) : ∀ b ∈ [p, q], IntL H b := fun b z => by
  rcases List.mem_cons.mp z with rfl | z
  · exact src_intl s
  · rw [List.mem_singleton.mp z]
    exact rm_intl r
theorem intl1 {H : Hp} {p : Addr} (s : Src H p) : ∀ b ∈ [p], IntL H b := fun b z => by
  rw [List.mem_singleton.mp z]
  exact src_intl s
theorem k12 {H H' : Hp} {p q : Addr} (k : Kt [p] H H') : Kt [p, q] H H' := k.mono fun b z => by simp_all
theorem word_num (c : Int) : ∃ w : Wd, w.outer = .num ∧ atI [V.str "+", .str "-", .str "*"] (c % 3) = some (.str w.str) := by
  have h : c % 3 = 0 ∨ c % 3 = 1 ∨ c % 3 = 2 := by omega
  rcases h with h | h | h <;> rw [h]
  · exact ⟨.add, rfl, rfl⟩
  · exact ⟨.sub, rfl, rfl⟩
  · exact ⟨.mul, rfl, rfl⟩
theorem word_flag (c : Int) (h1 : 2 < c) (h2 : c < 12) : ∃ z : Str, (z = "not" ∨ ∃ w : Wd, z = w.str ∧ w.outer = .flag) ∧
    atI [V.str "and", .str "or", .str "not", .str "<", .str "<=", .str "==", .str "!=", .str "same", .str "and"] (c - 3) = some (.str z) := by
  have h : c - 3 = 0 ∨ c - 3 = 1 ∨ c - 3 = 2 ∨ c - 3 = 3 ∨ c - 3 = 4 ∨ c - 3 = 5 ∨ c - 3 = 6 ∨ c - 3 = 7 ∨ c - 3 = 8 := by omega
  rcases h with h | h | h | h | h | h | h | h | h <;> rw [h]
  · exact ⟨_, .inr ⟨.and, rfl, rfl⟩, rfl⟩
  · exact ⟨_, .inr ⟨.or, rfl, rfl⟩, rfl⟩
  · exact ⟨_, .inl rfl, rfl⟩
  · exact ⟨_, .inr ⟨.lt, rfl, rfl⟩, rfl⟩
  · exact ⟨_, .inr ⟨.le, rfl, rfl⟩, rfl⟩
  · exact ⟨_, .inr ⟨.eq, rfl, rfl⟩, rfl⟩
  · exact ⟨_, .inr ⟨.ne, rfl, rfl⟩, rfl⟩
  · exact ⟨_, .inr ⟨.same, rfl, rfl⟩, rfl⟩
  · exact ⟨_, .inr ⟨.and, rfl, rfl⟩, rfl⟩
theorem nums_small (r : Int) (h0 : 0 ≤ r) (h1 : r < 9) (v : V) (h : v ∈ [V.int 0, .int 1, .int 2, .int (-1), .int (r - 4), .int (10 ^ (9 : Int).toNat), .int (1 - 10 ^ (9 : Int).toNat)]) : ∃ i : Int, v = .int i ∧ i.natAbs < 2 ^ 31 := by
  have e : (10 : Int) ^ (9 : Int).toNat = 1000000000 := by decide
  rw [e] at h
  simp only [List.mem_cons, List.not_mem_nil, or_false] at h
  rcases h with rfl | rfl | rfl | rfl | rfl | rfl | rfl
  all_goals exact ⟨_, rfl, by omega⟩
section
variable {P : Program} {w : World} {K : PySem.W.Frag} {mg : Str → Option Value} {base : Heap} (T : Facts K mg)
include T
def sp_drawn (n : Nat) : Sp := fun vs H Q _ => ∃ (p d q : Addr) (s : So) (nm : So → List Str) (deep : Int), vs = [.ref p, .ref d, .str s.str, .ref q, .int deep] ∧ Src H p ∧ NmAt H d nm ∧ NmOk nm ∧ Rm H q ∧ 0 ≤ deep ∧ deep < n ∧
  ∀ v H' e, Kt [p, q] H H' → Src H' p → Rm H' q → Rep H' v e → Wt nm s e → (e.depth : Int) ≤ deep → Q v H'
theorem ok_drawn : ∀ n : Nat, Df P w K mg base (n + 3) "_law_drawn" ["source", "names", "sort", "room", "deep"] (sp_drawn n)
  | 0 => Df.none (T.d__law_drawn) (fun _ _ _ _ _ _ us hl => match us, hl with | [_, _, _, _, _], _ => rfl) fun vs H Q E ⟨_, _, _, _, _, _, _, _, _, _, _, h0, h1, _⟩ => by omega
  | n + 1 => by
    have D__law_drawn := ok_drawn n
    have D__law_pick := ok_pick2 (P := P) (w := w) (base := base) T
    have D__law_one := ok_one2 (P := P) (w := w) (base := base) T
    have D__law_inner_sort := ok_inner (P := P) (w := w) (base := base) T
    refine Lw.Df.mk (T.d__law_drawn) sc__law_drawn (fun _ _ _ _ _ _ us hl => match us, hl with | [_, _, _, _, _], _ => rfl) (fun vs H Q E h => ?_) (fun f cdv A outer s H vs Q E hr h => ?_)
    · obtain ⟨_, _, _, _, _, _, rfl, _⟩ := h
      rfl
    have sc := sc__law_drawn
    obtain ⟨p, d, r, so, nm, deep, rfl, hs, hn, ho, hm, hd0, hd1, q⟩ := h
    refine ⟨_, (pss_cons (ps_set (i := 5) sc.nd rfl (by first | exact Or.inl rfl | exact Or.inr rfl) (Lw.pe_d D__law_pick (hr.mono (by omega)) (pa_cons (pv 0) (pa_cons pe_int pa_nil))))
(pss_cons (ps_if (PW.pt (pw_and (pt_cmpR op_ne (pv 2) pe_str (nomark _)) (pw_and (pt_cmpR op_gt (pv 4) pe_int (nomark _)) (pw_and (pt_cmpR op_gt (pe_ix ix_list (pv 3) pe_int (fun _ _ => rfl)) pe_int (nomark _)) (pw_and1 (pt_cmpR op_gt (pv 5) pe_int (nomark _)))))))
(pss_cons (ps_asg (pe_op op_sub (pe_ix ix_list (pv 3) pe_int (fun _ _ => rfl)) pe_int) (pg_sub (pv 3) pe_int set_list))
(pss_cons (ps_set (i := 6) sc.nd rfl (by first | exact Or.inl rfl | exact Or.inr rfl) (pe_ix ix_list (pe_lst (pa_cons pe_str (pa_cons pe_str (pa_cons pe_str pa_nil)))) (pe_op op_mod (pe_callTy call_int1 (by rfl) T.z_int boot_int (pa_cons (pv 5) pa_nil)) pe_int) (fun _ _ => rfl)))
(pss_cons (ps_if (pt_cmpR op_eq (pv 2) pe_str (nomark _))
(pss_one (ps_set (i := 6) sc.nd rfl (by first | exact Or.inl rfl | exact Or.inr rfl) (pe_ix ix_list (pe_lst (pa_cons pe_str (pa_cons pe_str (pa_cons pe_str (pa_cons pe_str (pa_cons pe_str (pa_cons pe_str (pa_cons pe_str (pa_cons pe_str (pa_cons pe_str pa_nil)))))))))) (pe_op op_sub (pv 5) pe_int) (fun _ _ => rfl))))
pss_nil)
(pss_cons (ps_set (i := 7) sc.nd rfl (by first | exact Or.inl rfl | exact Or.inr rfl) (Lw.pe_d D__law_drawn (hr.mono (by omega)) (pa_cons (pv 0) (pa_cons (pv 1) (pa_cons (Lw.pe_d D__law_inner_sort (hr.mono (by omega)) (pa_cons (pv 6) pa_nil)) (pa_cons (pv 3) (pa_cons (pe_op op_sub (pv 4) pe_int) pa_nil)))))))
(pss_cons (ps_if (pt_cmpR op_eq (pv 6) pe_str (nomark _))
(pss_one (ps_ret (pe_tup (pa_cons (pv 6) (pa_cons (pv 7) pa_nil)))))
pss_nil)
(pss_one (ps_ret (pe_tup (pa_cons (pv 6) (pa_cons (pv 7) (pa_cons (Lw.pe_d D__law_drawn (hr.mono (by omega)) (pa_cons (pv 0) (pa_cons (pv 1) (pa_cons (Lw.pe_d D__law_inner_sort (hr.mono (by omega)) (pa_cons (pv 6) pa_nil)) (pa_cons (pv 3) (pa_cons (pe_op op_sub (pv 4) pe_int) pa_nil)))))) pa_nil)))))))))))
pss_nil)
(pss_cons (ps_if (PW.pt (pw_and (pt_cmpR op_eq (pv 2) pe_str (nomark _)) (pw_and1 (pt_cmpR op_eq (pv 5) pe_int (nomark _)))))
(pss_one (ps_ret (pe_tup (pa_cons pe_str pa_nil))))
pss_nil)
(pss_cons (ps_if (PW.pt (pw_or (pt_cmpR op_gt (pv 5) pe_int (nomark _)) (pw_or1 (pt_cmpR op_eq (pv 2) pe_str (nomark _)))))
(pss_one (ps_ret (pe_tup (pa_cons pe_str (pa_cons (Lw.pe_d D__law_one (hr.mono (by omega)) (pa_cons (pv 0) (pa_cons (pe_dget (hu_of hr) (pv 1) (pv 2) (fun _ _ => rfl)) pa_nil))) pa_nil)))))
pss_nil)
(pss_cons (ps_if (pt_cmpR op_eq (pv 2) pe_str (nomark _))
(pss_one (ps_ret (pe_tup (pa_cons pe_str (pa_cons (pe_cmpR op_eq (Lw.pe_d D__law_pick (hr.mono (by omega)) (pa_cons (pv 0) (pa_cons pe_int pa_nil))) pe_int (nomark _)) pa_nil)))))
pss_nil)
(pss_one (ps_ret (pe_tup (pa_cons pe_str (pa_cons (Lw.pe_d D__law_one (hr.mono (by omega)) (pa_cons (pv 0) (pa_cons (pe_lst (pa_cons pe_int (pa_cons pe_int (pa_cons pe_int (pa_cons (pe_un un_neg pe_int) (pa_cons (pe_op op_sub (Lw.pe_d D__law_pick (hr.mono (by omega)) (pa_cons (pv 0) (pa_cons pe_int pa_nil))) pe_int) (pa_cons (pe_op op_pow pe_int pe_int) (pa_cons (pe_op op_sub pe_int (pe_op op_pow pe_int pe_int)) pa_nil)))))))) pa_nil))) pa_nil)))))))))), ?_⟩
    refine ⟨_, rfl, p, 12, rfl, hs, by decide, by decide, fun c H1 c0 c1 s1 k1 => ?_⟩
    have n1 := nm_keep k1 (intl1 hs) hn
    have m1 := rm_keep k1 (by simpa using rm_src hm hs) hm
    have kk1 : Kt [p, r] H H1 := k12 k1
    -- a name of the sort
    have named : ∀ (l : Addr) (v : V) (H2 : Hp) (t : Addr), H1 l = some (.lst ((nm so).map V.str)) → v ∈ (nm so).map V.str → Src H2 p → Kt [p] H1 H2 → H2 t = none → Q (.ref t) (upd H2 t (.tup [.str "name", v])) := fun l v H2 t hl hv s2 k2 nt => by
      obtain ⟨x, hx, rfl⟩ := List.mem_map.mp hv
      have k3 : Kt [p, r] H2 (upd H2 t (.tup [.str "name", .str x])) := Kt.new nt
      exact q _ _ (.name x) (kk1.trans ((k12 k2).trans k3)) (src_keep0 (Kt.new nt) s2) (rm_keep (Kt.new (S := []) nt) (by simp) (rm_keep k2 (by simpa using rm_src m1 s1) m1)) ⟨t, rfl, upd_same⟩ (.name hx) (by show (0 : Int) ≤ deep; exact hd0)
    have ne3 : ∀ (l : Addr), H1 l = some (.lst ((nm so).map V.str)) → l ≠ p := fun l hl => src_ne s1 hl (fun _ _ => (strs_no).elim id fun z => z.elim)
    have xs3 : (nm so).map V.str ≠ [] ∧ ((nm so).map V.str).length < 1000000 := by
      have := ho.three so
      refine ⟨fun z => ?_, by rw [List.length_map, this]; decide⟩
      have z2 := congrArg List.length z
      rw [List.length_map, this] at z2
      cases z2
    obtain ⟨l, dg, hl⟩ := nm_get n1 so
    cases so
    case ref =>
      refine ⟨_, rfl, rfl, _, rfl, iteE false (by decide +kernel) (iteF (iteF ?_))⟩
      refine ⟨_, rfl, rfl, _, rfl, iteB true (by decide +kernel) (iteT ⟨_, rfl, rfl, _, rfl, ite2 (fun e => ?_) (fun e => ?_)⟩)⟩
      · refine ⟨(by decide), fun t nt => ?_⟩
        exact q _ _ .null (kk1.trans (Kt.new nt)) (src_keep0 (Kt.new nt) s1) (rm_keep (Kt.new (S := []) nt) (by simp) m1) ⟨t, rfl, upd_same⟩ .null (by show (0 : Int) ≤ deep; exact hd0)
      · refine ⟨_, rfl, _, _, rfl, rfl, _, rfl, ite2 (fun e2 => iteT ?_) (fun e2 => ⟨_, rfl, rfl, _, rfl, iteB true (by decide +kernel) (iteT ?_)⟩)⟩
        all_goals exact ⟨_, rfl, _, rfl, _, rfl, d, _, rfl, dg, p, l, _, rfl, s1, hl, xs3.1, xs3.2, ne3 l hl, fun v H2 hv s2 k2 => ⟨(by show 2 ≤ sizeLine; decide), fun t nt => named l v H2 t hl hv s2 k2 nt⟩⟩
    case num =>
      obtain ⟨r0, hq⟩ := id m1
      refine ⟨_, rfl, rfl, _, rfl, iteE true (by decide +kernel) (iteT ⟨_, rfl, _, _, rfl, rfl, _, rfl, ite2 (fun d1 => ⟨_, rfl, r, _, _, _, rfl, rfl, SqL.of hq, atI_nat (j := 0) rfl, _, _, rfl, rfl, _, rfl, ite2 (fun d2 => ⟨_, rfl, _, _, rfl, rfl, _, rfl, ite2 (fun d3 => ?go) (fun d3 => ?r1)⟩) (fun d2 => iteF ?r2)⟩) (fun d1 => iteF ?r3)⟩)⟩
      case go =>
        refine ⟨_, rfl, r, _, _, _, rfl, rfl, SqL.of hq, atI_nat (j := 0) rfl, _, _, rfl, rfl, _, rfl, r, _, _, 0, rfl, rfl, hq, rfl, ?_⟩
        have k2 : Kt [p, r] H1 (upd H1 r (.lst ([.int r0].set 0 (.int (r0 - 1))))) := Kt.at_ hq (fun _ z => nomatch z) (by simp)
        have m2 : Rm (upd H1 r (.lst ([.int r0].set 0 (.int (r0 - 1))))) r := ⟨r0 - 1, upd_same⟩
        have s2 := src_keep (Kt.at_ hq (fun _ z => nomatch z) (by simp) : Kt [r] H1 (upd H1 r (.lst ([.int r0].set 0 (.int (r0 - 1)))))) (by simpa using (rm_src m1 s1).symm) s1
        have n2 := nm_keep k2 (intl2 s1 m1) n1
        generalize upd H1 r (.lst ([.int r0].set 0 (.int (r0 - 1)))) = H2 at k2 m2 s2 n2 ⊢
        have kk2 := kk1.trans k2
        obtain ⟨w, ww, hw⟩ := word_num c
        refine ⟨(by decide), fun l3 nl3 => ⟨_, rfl, .inl ⟨_, rfl, _, _, rfl, rfl, (by show (0 : Int) < 3; decide), l3, _, _, _, rfl, rfl, SqL.of upd_same, hw, ?_⟩⟩⟩
        have k3 : Kt [] H2 (upd H2 l3 (.lst [.str "+", .str "-", .str "*"])) := Kt.new nl3
        generalize upd H2 l3 (.lst [.str "+", .str "-", .str "*"]) = H3 at k3 ⊢
        have kk3 := kk2.trans k3.nil
        have s3 := src_keep0 k3 s2
        have n3 := nm_keep0 k3 n2
        have m3 := rm_keep k3 (by simp) m2
        have dp : 0 < deep := of_decide_eq_true d1
        refine ⟨_, rfl, rfl, _, rfl, iteB false (by decide +kernel) (iteF ?_)⟩
        refine ⟨_, rfl, _, rfl, _, rfl, w.str, w.inner, rfl, .inr ⟨w, rfl, rfl⟩, fun H4 k4 => ⟨_, rfl, _, rfl, _, _, rfl, rfl, p, d, r, w.inner, nm, deep - 1, rfl, src_keep0 k4 s3, nm_keep0 k4 n3, ho, rm_keep k4 (by simp) m3, by omega, by omega, fun v1 H5 e1 k5 s5 m5 r5 t5 d5 => ?_⟩⟩
        have n5 := nm_keep k5 (intl2 (src_keep0 k4 s3) (rm_keep k4 (by simp) m3)) (nm_keep0 k4 n3)
        have kk5 := kk3.trans (k4.nil.trans k5)
        refine ⟨_, rfl, rfl, _, rfl, iteB false (by cases w <;> decide +kernel) (iteF ?_)⟩
        refine ⟨_, rfl, _, rfl, _, rfl, _, rfl, _, rfl, w.str, w.inner, rfl, .inr ⟨w, rfl, rfl⟩, fun H6 k6 => ⟨_, rfl, _, rfl, _, _, rfl, rfl, p, d, r, w.inner, nm, deep - 1, rfl, src_keep0 k6 s5, nm_keep0 k6 n5, ho, rm_keep k6 (by simp) m5, by omega, by omega, fun v2 H7 e2 k7 s7 m7 r7 t7 d7 => ⟨(by show 3 ≤ sizeLine; decide), fun t nt => ?_⟩⟩⟩
        have k8 : Kt [] H7 (upd H7 t (.tup [.str w.str, v1, v2])) := Kt.new nt
        have wt := Wt.bin (w := w) t5 t7
        rw [ww] at wt
        refine q _ _ (.bin w e1 e2) (kk5.trans (k6.nil.trans (k7.trans k8.nil))) (src_keep0 k8 s7) (rm_keep k8 (by simp) m7) ⟨t, v1, v2, rfl, upd_same, rep_keep (k6.nil.trans (k7.trans k8.nil)) r5, rep_keep k8 r7⟩ wt ?_
        show ((max e1.depth e2.depth + 1 : Nat) : Int) ≤ deep
        omega
      all_goals
        refine ⟨_, rfl, rfl, _, rfl, iteB false (by decide +kernel) (iteF (iteF ?_))⟩
        refine ⟨_, rfl, _, _, rfl, rfl, _, rfl, ite2 (fun e2 => iteT ?_) (fun e2 => ⟨_, rfl, rfl, _, rfl, iteB false (by decide +kernel) (iteF ?_)⟩)⟩
        · exact ⟨_, rfl, _, rfl, _, rfl, d, _, rfl, dg, p, l, _, rfl, s1, hl, xs3.1, xs3.2, ne3 l hl, fun v H2 hv s2 k2 => ⟨(by show 2 ≤ sizeLine; decide), fun t nt => named l v H2 t hl hv s2 k2 nt⟩⟩
        refine ⟨_, rfl, rfl, _, rfl, iteB false (by decide +kernel) (iteF ?_)⟩
        refine ⟨_, rfl, _, rfl, _, rfl, p, 9, rfl, s1, by decide, by decide, fun c2 H2 c3 c4 s2 k2 => ⟨_, _, rfl, rfl, _, _, rfl, rfl, ⟨by decide, by decide, by decide⟩, _, _, rfl, rfl, ⟨by decide, by decide, by decide⟩, _, _, rfl, rfl, (by show 7 ≤ sizeLine; decide), fun l2 nl => ?_⟩⟩
        refine ⟨p, l2, _, rfl, src_keep0 (Kt.new nl) s2, upd_same, (fun z => nomatch z), (by show 7 < 1000000; decide), src_fresh s2 nl, fun v H3 hv s3 k3 => ⟨(by show 2 ≤ sizeLine; decide), fun t nt => ?_⟩⟩
        obtain ⟨i, rfl, hi⟩ := nums_small c2 c3 c4 v hv
        have k4 : Kt [p, r] H2 H3 := (Kt.new nl).nil.trans (k12 k3)
        refine q _ _ (.num i) (kk1.trans ((k12 k2).trans (k4.trans (Kt.new nt)))) (src_keep0 (Kt.new nt) s3) ?_ ⟨t, rfl, upd_same⟩ (.num hi) (by show (0 : Int) ≤ deep; exact hd0)
        have m2 := rm_keep k2 (by simpa using rm_src m1 s1) m1
        have m4 : Rm H3 r := rm_keep ((Kt.new nl).nil.trans k3 : Kt [p] H2 H3) (by simpa using rm_src m2 s2) m2
        exact rm_keep (Kt.new (S := []) nt) (by simp) m4
    case flag =>
      obtain ⟨r0, hq⟩ := id m1
      refine ⟨_, rfl, rfl, _, rfl, iteE true (by decide +kernel) (iteT ⟨_, rfl, _, _, rfl, rfl, _, rfl, ite2 (fun d1 => ⟨_, rfl, r, _, _, _, rfl, rfl, SqL.of hq, atI_nat (j := 0) rfl, _, _, rfl, rfl, _, rfl, ite2 (fun d2 => ⟨_, rfl, _, _, rfl, rfl, _, rfl, ite2 (fun d3 => ?gof) (fun d3 => ?r4)⟩) (fun d2 => iteF ?r5)⟩) (fun d1 => iteF ?r6)⟩)⟩
      case gof =>
        refine ⟨_, rfl, r, _, _, _, rfl, rfl, SqL.of hq, atI_nat (j := 0) rfl, _, _, rfl, rfl, _, rfl, r, _, _, 0, rfl, rfl, hq, rfl, ?_⟩
        have k2 : Kt [p, r] H1 (upd H1 r (.lst ([.int r0].set 0 (.int (r0 - 1))))) := Kt.at_ hq (fun _ z => nomatch z) (by simp)
        have m2 : Rm (upd H1 r (.lst ([.int r0].set 0 (.int (r0 - 1))))) r := ⟨r0 - 1, upd_same⟩
        have s2 := src_keep (Kt.at_ hq (fun _ z => nomatch z) (by simp) : Kt [r] H1 (upd H1 r (.lst ([.int r0].set 0 (.int (r0 - 1)))))) (by simpa using (rm_src m1 s1).symm) s1
        have n2 := nm_keep k2 (intl2 s1 m1) n1
        generalize upd H1 r (.lst ([.int r0].set 0 (.int (r0 - 1)))) = H2 at k2 m2 s2 n2 ⊢
        have kk2 := kk1.trans k2
        obtain ⟨w0, _, hw⟩ := word_num c
        refine ⟨(by decide), fun l3 nl3 => ⟨_, rfl, .inl ⟨_, rfl, _, _, rfl, rfl, (by show (0 : Int) < 3; decide), l3, _, _, _, rfl, rfl, SqL.of upd_same, hw, ?_⟩⟩⟩
        have k3 : Kt [] H2 (upd H2 l3 (.lst [.str "+", .str "-", .str "*"])) := Kt.new nl3
        generalize upd H2 l3 (.lst [.str "+", .str "-", .str "*"]) = H3 at k3 ⊢
        have kk3 := kk2.trans k3.nil
        have s3 := src_keep0 k3 s2
        have n3 := nm_keep0 k3 n2
        have m3 := rm_keep k3 (by simp) m2
        have dp : 0 < deep := of_decide_eq_true d1
        refine ⟨_, rfl, rfl, _, rfl, iteB true (by decide +kernel) (iteT ?_)⟩
        have c3 : 2 < c := of_decide_eq_true d3
        obtain ⟨z, hz, hat⟩ := word_flag c c3 c1
        refine ⟨(by decide), fun l4 nl4 => ⟨_, rfl, _, _, rfl, rfl, l4, _, _, _, rfl, rfl, SqL.of upd_same, hat, ?_⟩⟩
        have k4' : Kt [] H3 (upd H3 l4 (.lst [.str "and", .str "or", .str "not", .str "<", .str "<=", .str "==", .str "!=", .str "same", .str "and"])) := Kt.new nl4
        generalize upd H3 l4 (.lst [.str "and", .str "or", .str "not", .str "<", .str "<=", .str "==", .str "!=", .str "same", .str "and"]) = H3' at k4' ⊢
        replace kk3 := kk3.trans k4'.nil
        replace s3 := src_keep0 k4' s3
        replace n3 := nm_keep0 k4' n3
        replace m3 := rm_keep k4' (by simp) m3
        rcases hz with rfl | ⟨w, rfl, ww⟩
        · refine ⟨_, rfl, _, rfl, _, rfl, "not", .flag, rfl, .inl ⟨rfl, rfl⟩, fun H4 k4 => ⟨_, rfl, _, rfl, _, _, rfl, rfl, p, d, r, .flag, nm, deep - 1, rfl, src_keep0 k4 s3, nm_keep0 k4 n3, ho, rm_keep k4 (by simp) m3, by omega, by omega, fun v1 H5 e1 k5 s5 m5 r5 t5 d5 => ?_⟩⟩
          have n5 := nm_keep k5 (intl2 (src_keep0 k4 s3) (rm_keep k4 (by simp) m3)) (nm_keep0 k4 n3)
          have kk5 := kk3.trans (k4.nil.trans k5)
          refine ⟨_, rfl, rfl, _, rfl, iteB true (by decide +kernel) (iteT ?_)⟩
          refine ⟨_, rfl, _, rfl, (by show 2 ≤ sizeLine; decide), fun t nt => ?_⟩
          have k8 : Kt [] H5 (upd H5 t (.tup [.str "not", v1])) := Kt.new nt
          refine q _ _ (.un e1) (kk5.trans k8.nil) (src_keep0 k8 s5) (rm_keep k8 (by simp) m5) ⟨t, v1, rfl, upd_same, rep_keep k8 r5⟩ (.un t5) ?_
          show ((e1.depth + 1 : Nat) : Int) ≤ deep
          omega
        · refine ⟨_, rfl, _, rfl, _, rfl, w.str, w.inner, rfl, .inr ⟨w, rfl, rfl⟩, fun H4 k4 => ⟨_, rfl, _, rfl, _, _, rfl, rfl, p, d, r, w.inner, nm, deep - 1, rfl, src_keep0 k4 s3, nm_keep0 k4 n3, ho, rm_keep k4 (by simp) m3, by omega, by omega, fun v1 H5 e1 k5 s5 m5 r5 t5 d5 => ?_⟩⟩
          have n5 := nm_keep k5 (intl2 (src_keep0 k4 s3) (rm_keep k4 (by simp) m3)) (nm_keep0 k4 n3)
          have kk5 := kk3.trans (k4.nil.trans k5)
          refine ⟨_, rfl, rfl, _, rfl, iteB false (by cases w <;> decide +kernel) (iteF ?_)⟩
          refine ⟨_, rfl, _, rfl, _, rfl, _, rfl, _, rfl, w.str, w.inner, rfl, .inr ⟨w, rfl, rfl⟩, fun H6 k6 => ⟨_, rfl, _, rfl, _, _, rfl, rfl, p, d, r, w.inner, nm, deep - 1, rfl, src_keep0 k6 s5, nm_keep0 k6 n5, ho, rm_keep k6 (by simp) m5, by omega, by omega, fun v2 H7 e2 k7 s7 m7 r7 t7 d7 => ⟨(by show 3 ≤ sizeLine; decide), fun t nt => ?_⟩⟩⟩
          have k8 : Kt [] H7 (upd H7 t (.tup [.str w.str, v1, v2])) := Kt.new nt
          have wt := Wt.bin (w := w) t5 t7
          rw [ww] at wt
          refine q _ _ (.bin w e1 e2) (kk5.trans (k6.nil.trans (k7.trans k8.nil))) (src_keep0 k8 s7) (rm_keep k8 (by simp) m7) ⟨t, v1, v2, rfl, upd_same, rep_keep (k6.nil.trans (k7.trans k8.nil)) r5, rep_keep k8 r7⟩ wt ?_
          show ((max e1.depth e2.depth + 1 : Nat) : Int) ≤ deep
          omega
      all_goals
        refine ⟨_, rfl, rfl, _, rfl, iteB false (by decide +kernel) (iteF (iteF ?_))⟩
        refine ⟨_, rfl, _, _, rfl, rfl, _, rfl, ite2 (fun e2 => iteT ?_) (fun e2 => ⟨_, rfl, rfl, _, rfl, iteB false (by decide +kernel) (iteF ?_)⟩)⟩
        · exact ⟨_, rfl, _, rfl, _, rfl, d, _, rfl, dg, p, l, _, rfl, s1, hl, xs3.1, xs3.2, ne3 l hl, fun v H2 hv s2 k2 => ⟨(by show 2 ≤ sizeLine; decide), fun t nt => named l v H2 t hl hv s2 k2 nt⟩⟩
        refine ⟨_, rfl, rfl, _, rfl, iteB true (by decide +kernel) (iteT ?_)⟩
        refine ⟨_, rfl, p, 2, rfl, s1, by decide, by decide, fun c2 H2 c3 c4 s2 k2 => ⟨rfl, (by show 2 ≤ sizeLine; decide), fun t nt => ?_⟩⟩
        exact q _ _ (.flag _) (kk1.trans ((k12 k2).trans (Kt.new nt))) (src_keep0 (Kt.new nt) s2) (rm_keep (Kt.new (S := []) nt) (by simp) (rm_keep k2 (by simpa using rm_src m1 s1) m1)) ⟨t, rfl, upd_same⟩ .flag (by show (0 : Int) ≤ deep; exact hd0)
end
end K80


set_option Elab.async false
set_option linter.all false
set_option maxRecDepth 100000
set_option maxHeartbeats 4000000
namespace K80
open PySem PySem.Spec PyProof.Rows L2 Lw
section
variable {P : Program} {w : World} {K : PySem.W.Frag} {mg : Str → Option Value} {base : Heap} (T : Facts K mg)
include T
def sp_around : Sp := fun vs H Q _ => ∃ (p : Addr) (v : V) (s : So) (nm : So → List Str) (e : Ex), vs = [.ref p, v, .str s.str] ∧ Src H p ∧ Rep H v e ∧ Wt nm s e ∧
  ∀ v' H' e', Kt [p] H H' → Src H' p → Rep H' v' e' → Wt nm s e' → e'.depth ≤ e.depth + 2 → Q v' H'
theorem ok_around : Df P w K mg base 3 "_law_around" ["source", "expression", "sort"] sp_around := by
  refine Lw.Df.mk (T.d__law_around) sc__law_around (fun _ _ _ _ _ _ us hl => match us, hl with | [_, _, _], _ => rfl) (fun vs H Q E h => ?_) (fun f cdv A outer s H vs Q E hr h => ?_)
  · obtain ⟨_, _, _, _, _, rfl, _⟩ := h
    rfl
  have sc := sc__law_around
  have D__law_one := ok_one2 (P := P) (w := w) (base := base) T
  obtain ⟨p, v, so, nm, e, rfl, hs, r, ht, q⟩ := h
  refine ⟨_, (pss_cons (ps_if (pt_cmpR op_eq (pv 2) pe_str (nomark _))
(pss_cons (ps_set (i := 3) sc.nd rfl (by first | exact Or.inl rfl | exact Or.inr rfl) (pe_lst (pa_cons (pe_tup (pa_cons pe_str (pa_cons (pv 1) (pa_cons (pe_tup (pa_cons pe_str (pa_cons pe_int pa_nil))) pa_nil)))) (pa_cons (pe_tup (pa_cons pe_str (pa_cons (pv 1) (pa_cons (pe_tup (pa_cons pe_str (pa_cons pe_int pa_nil))) pa_nil)))) (pa_cons (pe_tup (pa_cons pe_str (pa_cons (pe_tup (pa_cons pe_str (pa_cons pe_int pa_nil))) (pa_cons (pv 1) pa_nil)))) pa_nil)))))
(pss_one (ps_ret (Lw.pe_d D__law_one (hr.mono (by omega)) (pa_cons (pv 0) (pa_cons (pv 3) pa_nil))))))
pss_nil)
(pss_cons (ps_if (pt_cmpR op_eq (pv 2) pe_str (nomark _))
(pss_cons (ps_set (i := 3) sc.nd rfl (by first | exact Or.inl rfl | exact Or.inr rfl) (pe_lst (pa_cons (pe_tup (pa_cons pe_str (pa_cons (pe_tup (pa_cons pe_str (pa_cons (pv 1) pa_nil))) pa_nil))) (pa_cons (pe_tup (pa_cons pe_str (pa_cons (pv 1) (pa_cons (pe_tup (pa_cons pe_str (pa_cons pe_bl pa_nil))) pa_nil)))) (pa_cons (pe_tup (pa_cons pe_str (pa_cons (pe_tup (pa_cons pe_str (pa_cons pe_bl pa_nil))) (pa_cons (pv 1) pa_nil)))) pa_nil)))))
(pss_one (ps_ret (Lw.pe_d D__law_one (hr.mono (by omega)) (pa_cons (pv 0) (pa_cons (pv 3) pa_nil))))))
pss_nil)
(pss_one (ps_ret (pv 1))))), ?_⟩
  cases so
  case num =>
    refine ⟨_, rfl, rfl, _, rfl, iteB true (by decide +kernel) (iteT ?_)⟩
    refine ⟨_, rfl, (by show 2 ≤ sizeLine; decide), fun t1 n_t1 => ?_⟩
    have k_t1 : Kt [] H (upd H t1 (.tup [.str "num", .int 0])) := Kt.new n_t1
    have g_t1 : (upd H t1 (.tup [.str "num", .int 0])) t1 = some (.tup [.str "num", .int 0]) := upd_same
    generalize upd H t1 (.tup [.str "num", .int 0]) = H_t1 at k_t1 g_t1 ⊢
    refine ⟨(by show 3 ≤ sizeLine; decide), fun a1 n_a1 => ?_⟩
    have k_a1 : Kt [] H_t1 (upd H_t1 a1 (.tup [.str "+", v, .ref t1])) := Kt.new n_a1
    have g_a1 : (upd H_t1 a1 (.tup [.str "+", v, .ref t1])) a1 = some (.tup [.str "+", v, .ref t1]) := upd_same
    generalize upd H_t1 a1 (.tup [.str "+", v, .ref t1]) = H_a1 at k_a1 g_a1 ⊢
    replace g_t1 := k_a1.get0 g_t1
    refine ⟨_, rfl, (by show 2 ≤ sizeLine; decide), fun t2 n_t2 => ?_⟩
    have k_t2 : Kt [] H_a1 (upd H_a1 t2 (.tup [.str "num", .int 0])) := Kt.new n_t2
    have g_t2 : (upd H_a1 t2 (.tup [.str "num", .int 0])) t2 = some (.tup [.str "num", .int 0]) := upd_same
    generalize upd H_a1 t2 (.tup [.str "num", .int 0]) = H_t2 at k_t2 g_t2 ⊢
    replace g_t1 := k_t2.get0 g_t1
    replace g_a1 := k_t2.get0 g_a1
    refine ⟨(by show 3 ≤ sizeLine; decide), fun a2 n_a2 => ?_⟩
    have k_a2 : Kt [] H_t2 (upd H_t2 a2 (.tup [.str "-", v, .ref t2])) := Kt.new n_a2
    have g_a2 : (upd H_t2 a2 (.tup [.str "-", v, .ref t2])) a2 = some (.tup [.str "-", v, .ref t2]) := upd_same
    generalize upd H_t2 a2 (.tup [.str "-", v, .ref t2]) = H_a2 at k_a2 g_a2 ⊢
    replace g_t1 := k_a2.get0 g_t1
    replace g_a1 := k_a2.get0 g_a1
    replace g_t2 := k_a2.get0 g_t2
    refine ⟨(by show 2 ≤ sizeLine; decide), fun t3 n_t3 => ?_⟩
    have k_t3 : Kt [] H_a2 (upd H_a2 t3 (.tup [.str "num", .int 1])) := Kt.new n_t3
    have g_t3 : (upd H_a2 t3 (.tup [.str "num", .int 1])) t3 = some (.tup [.str "num", .int 1]) := upd_same
    generalize upd H_a2 t3 (.tup [.str "num", .int 1]) = H_t3 at k_t3 g_t3 ⊢
    replace g_t1 := k_t3.get0 g_t1
    replace g_a1 := k_t3.get0 g_a1
    replace g_t2 := k_t3.get0 g_t2
    replace g_a2 := k_t3.get0 g_a2
    refine ⟨_, rfl, (by show 3 ≤ sizeLine; decide), fun a3 n_a3 => ?_⟩
    have k_a3 : Kt [] H_t3 (upd H_t3 a3 (.tup [.str "*", .ref t3, v])) := Kt.new n_a3
    have g_a3 : (upd H_t3 a3 (.tup [.str "*", .ref t3, v])) a3 = some (.tup [.str "*", .ref t3, v]) := upd_same
    generalize upd H_t3 a3 (.tup [.str "*", .ref t3, v]) = H_a3 at k_a3 g_a3 ⊢
    replace g_t1 := k_a3.get0 g_t1
    replace g_a1 := k_a3.get0 g_a1
    replace g_t2 := k_a3.get0 g_t2
    replace g_a2 := k_a3.get0 g_a2
    replace g_t3 := k_a3.get0 g_t3
    refine ⟨(by show 3 ≤ sizeLine; decide), fun L n_L => ?_⟩
    have k_L : Kt [] H_a3 (upd H_a3 L (.lst [.ref a1, .ref a2, .ref a3])) := Kt.new n_L
    have g_L : (upd H_a3 L (.lst [.ref a1, .ref a2, .ref a3])) L = some (.lst [.ref a1, .ref a2, .ref a3]) := upd_same
    generalize upd H_a3 L (.lst [.ref a1, .ref a2, .ref a3]) = H_L at k_L g_L ⊢
    replace g_t1 := k_L.get0 g_t1
    replace g_a1 := k_L.get0 g_a1
    replace g_t2 := k_L.get0 g_t2
    replace g_a2 := k_L.get0 g_a2
    replace g_t3 := k_L.get0 g_t3
    replace g_a3 := k_L.get0 g_a3
    have kk : Kt [] H H_L := k_t1.trans (k_a1.trans (k_t2.trans (k_a2.trans (k_t3.trans (k_a3.trans (k_L))))))
    have hs2 := src_keep0 kk hs
    have r2 := rep_keep kk r
    refine ⟨_, rfl, _, rfl, p, L, _, rfl, hs2, g_L, (fun z => nomatch z), (by show 3 < 1000000; decide), src_ne hs2 g_L (fun _ _ z => nomatch z), fun v' H' hv s3 k3 => ?_⟩
    have w0 : Wt nm .num (.num 0) := .num (by decide)
    have w1 : Wt nm .num (.num 1) := .num (by decide)
    have hv2 : v' = .ref a1 ∨ v' = .ref a2 ∨ v' = .ref a3 := by simpa using hv
    have d0 : (Ex.num 0).depth = 0 := rfl
    have d1 : (Ex.num 1).depth = 0 := rfl
    have dd : ∀ w a b, (Ex.bin w a b).depth = max a.depth b.depth + 1 := fun _ _ _ => rfl
    rcases hv2 with rfl | rfl | rfl
    · exact q _ _ (.bin .add e (.num 0)) (kk.nil.trans k3) s3 ⟨a1, v, .ref t1, rfl, k3.tup g_a1, rep_keep k3 r2, t1, rfl, k3.tup g_t1⟩ (.bin (w := .add) ht w0) (by rw [dd, d0]; omega)
    · exact q _ _ (.bin .sub e (.num 0)) (kk.nil.trans k3) s3 ⟨a2, v, .ref t2, rfl, k3.tup g_a2, rep_keep k3 r2, t2, rfl, k3.tup g_t2⟩ (.bin (w := .sub) ht w0) (by rw [dd, d0]; omega)
    · exact q _ _ (.bin .mul (.num 1) e) (kk.nil.trans k3) s3 ⟨a3, .ref t3, v, rfl, k3.tup g_a3, ⟨t3, rfl, k3.tup g_t3⟩, rep_keep k3 r2⟩ (.bin (w := .mul) w1 ht) (by rw [dd, d1]; omega)
  case flag =>
    refine ⟨_, rfl, rfl, _, rfl, iteB false (by decide +kernel) (iteF ?_)⟩
    refine ⟨_, rfl, rfl, _, rfl, iteB true (by decide +kernel) (iteT ?_)⟩
    refine ⟨_, rfl, (by show 2 ≤ sizeLine; decide), fun t1 n_t1 => ?_⟩
    have k_t1 : Kt [] H (upd H t1 (.tup [.str "not", v])) := Kt.new n_t1
    have g_t1 : (upd H t1 (.tup [.str "not", v])) t1 = some (.tup [.str "not", v]) := upd_same
    generalize upd H t1 (.tup [.str "not", v]) = H_t1 at k_t1 g_t1 ⊢
    refine ⟨(by show 2 ≤ sizeLine; decide), fun a1 n_a1 => ?_⟩
    have k_a1 : Kt [] H_t1 (upd H_t1 a1 (.tup [.str "not", .ref t1])) := Kt.new n_a1
    have g_a1 : (upd H_t1 a1 (.tup [.str "not", .ref t1])) a1 = some (.tup [.str "not", .ref t1]) := upd_same
    generalize upd H_t1 a1 (.tup [.str "not", .ref t1]) = H_a1 at k_a1 g_a1 ⊢
    replace g_t1 := k_a1.get0 g_t1
    refine ⟨_, rfl, (by show 2 ≤ sizeLine; decide), fun t2 n_t2 => ?_⟩
    have k_t2 : Kt [] H_a1 (upd H_a1 t2 (.tup [.str "flag", .bl true])) := Kt.new n_t2
    have g_t2 : (upd H_a1 t2 (.tup [.str "flag", .bl true])) t2 = some (.tup [.str "flag", .bl true]) := upd_same
    generalize upd H_a1 t2 (.tup [.str "flag", .bl true]) = H_t2 at k_t2 g_t2 ⊢
    replace g_t1 := k_t2.get0 g_t1
    replace g_a1 := k_t2.get0 g_a1
    refine ⟨(by show 3 ≤ sizeLine; decide), fun a2 n_a2 => ?_⟩
    have k_a2 : Kt [] H_t2 (upd H_t2 a2 (.tup [.str "and", v, .ref t2])) := Kt.new n_a2
    have g_a2 : (upd H_t2 a2 (.tup [.str "and", v, .ref t2])) a2 = some (.tup [.str "and", v, .ref t2]) := upd_same
    generalize upd H_t2 a2 (.tup [.str "and", v, .ref t2]) = H_a2 at k_a2 g_a2 ⊢
    replace g_t1 := k_a2.get0 g_t1
    replace g_a1 := k_a2.get0 g_a1
    replace g_t2 := k_a2.get0 g_t2
    refine ⟨(by show 2 ≤ sizeLine; decide), fun t3 n_t3 => ?_⟩
    have k_t3 : Kt [] H_a2 (upd H_a2 t3 (.tup [.str "flag", .bl false])) := Kt.new n_t3
    have g_t3 : (upd H_a2 t3 (.tup [.str "flag", .bl false])) t3 = some (.tup [.str "flag", .bl false]) := upd_same
    generalize upd H_a2 t3 (.tup [.str "flag", .bl false]) = H_t3 at k_t3 g_t3 ⊢
    replace g_t1 := k_t3.get0 g_t1
    replace g_a1 := k_t3.get0 g_a1
    replace g_t2 := k_t3.get0 g_t2
    replace g_a2 := k_t3.get0 g_a2
    refine ⟨_, rfl, (by show 3 ≤ sizeLine; decide), fun a3 n_a3 => ?_⟩
    have k_a3 : Kt [] H_t3 (upd H_t3 a3 (.tup [.str "or", .ref t3, v])) := Kt.new n_a3
    have g_a3 : (upd H_t3 a3 (.tup [.str "or", .ref t3, v])) a3 = some (.tup [.str "or", .ref t3, v]) := upd_same
    generalize upd H_t3 a3 (.tup [.str "or", .ref t3, v]) = H_a3 at k_a3 g_a3 ⊢
    replace g_t1 := k_a3.get0 g_t1
    replace g_a1 := k_a3.get0 g_a1
    replace g_t2 := k_a3.get0 g_t2
    replace g_a2 := k_a3.get0 g_a2
    replace g_t3 := k_a3.get0 g_t3
    refine ⟨(by show 3 ≤ sizeLine; decide), fun L n_L => ?_⟩
    have k_L : Kt [] H_a3 (upd H_a3 L (.lst [.ref a1, .ref a2, .ref a3])) := Kt.new n_L
    have g_L : (upd H_a3 L (.lst [.ref a1, .ref a2, .ref a3])) L = some (.lst [.ref a1, .ref a2, .ref a3]) := upd_same
    generalize upd H_a3 L (.lst [.ref a1, .ref a2, .ref a3]) = H_L at k_L g_L ⊢
    replace g_t1 := k_L.get0 g_t1
    replace g_a1 := k_L.get0 g_a1
    replace g_t2 := k_L.get0 g_t2
    replace g_a2 := k_L.get0 g_a2
    replace g_t3 := k_L.get0 g_t3
    replace g_a3 := k_L.get0 g_a3
    have kk : Kt [] H H_L := k_t1.trans (k_a1.trans (k_t2.trans (k_a2.trans (k_t3.trans (k_a3.trans (k_L))))))
    have hs2 := src_keep0 kk hs
    have r2 := rep_keep kk r
    refine ⟨_, rfl, _, rfl, p, L, _, rfl, hs2, g_L, (fun z => nomatch z), (by show 3 < 1000000; decide), src_ne hs2 g_L (fun _ _ z => nomatch z), fun v' H' hv s3 k3 => ?_⟩
    have hv2 : v' = .ref a1 ∨ v' = .ref a2 ∨ v' = .ref a3 := by simpa using hv
    have d0 : (Ex.flag true).depth = 0 := rfl
    have d1 : (Ex.flag false).depth = 0 := rfl
    have dd : ∀ w a b, (Ex.bin w a b).depth = max a.depth b.depth + 1 := fun _ _ _ => rfl
    rcases hv2 with rfl | rfl | rfl
    · exact q _ _ (.un (.un e)) (kk.nil.trans k3) s3 ⟨a1, .ref t1, rfl, k3.tup g_a1, t1, v, rfl, k3.tup g_t1, rep_keep k3 r2⟩ (.un (.un ht)) (Nat.le_refl _)
    · exact q _ _ (.bin .and e (.flag true)) (kk.nil.trans k3) s3 ⟨a2, v, .ref t2, rfl, k3.tup g_a2, rep_keep k3 r2, t2, rfl, k3.tup g_t2⟩ (.bin (w := .and) ht .flag) (by rw [dd, d0]; omega)
    · exact q _ _ (.bin .or (.flag false) e) (kk.nil.trans k3) s3 ⟨a3, .ref t3, v, rfl, k3.tup g_a3, ⟨t3, rfl, k3.tup g_t3⟩, rep_keep k3 r2⟩ (.bin (w := .or) .flag ht) (by rw [dd, d1]; omega)
  case ref =>
    refine ⟨_, rfl, rfl, _, rfl, iteB false (by decide +kernel) (iteF ?_)⟩
    refine ⟨_, rfl, rfl, _, rfl, iteB false (by decide +kernel) (iteF ?_)⟩
    exact ⟨_, rfl, q _ _ e (Kt.refl _) hs r ht (by omega)⟩
end
end K80


set_option Elab.async false
set_option linter.all false
set_option maxRecDepth 100000
set_option maxHeartbeats 4000000
namespace Lw
open PySem PySem.Spec PyProof.Rows L2
theorem Kt.drop2 {H H' : Hp} {p l : Addr} (k : Kt [p, l] H H') (h : H l = none) : Kt [p] H H' := (k.mono (S' := [l, p]) fun b z => by simp_all [or_comm]).drop h
end Lw
namespace K80
open PySem PySem.Spec PyProof.Rows L2 Lw
theorem in_words {v : V} {p : Wd → Bool} {ws : List Wd} {xs : List V} (e : xs = ws.map fun w => V.str w.str) (hp : ∀ w ∈ ws, p w = true) (h : v ∈ xs) : ∃ u : Wd, v = .str u.str ∧ p u = true := by
  subst e
  obtain ⟨u, hu, rfl⟩ := List.mem_map.mp h
  exact ⟨u, rfl, hp u hu⟩
theorem arith_io {w u : Wd} (h : w.isArith = true) (h2 : u.isArith = true) : u.inner = w.inner ∧ u.outer = w.outer := by
  revert h h2
  cases w <;> cases u <;> decide
theorem cmp_io {w u : Wd} (h : w.isCmp = true) (h2 : u.isCmp = true) : u.inner = w.inner ∧ u.outer = w.outer := by
  revert h h2
  cases w <;> cases u <;> decide
theorem logic_io {w u : Wd} (h : w.isLogic = true) (h2 : u.isLogic = true) : u.inner = w.inner ∧ u.outer = w.outer := by
  revert h h2
  cases w <;> cases u <;> decide
section
variable {P : Program} {w : World} {K : PySem.W.Frag} {mg : Str → Option Value} {base : Heap} (T : Facts K mg)
include T
def sp_other : Sp := fun vs H Q _ => ∃ (p d : Addr) (v : V) (s : So) (nm : So → List Str) (e : Ex), vs = [.ref p, .ref d, v, .str s.str] ∧ Src H p ∧ NmAt H d nm ∧ NmOk nm ∧ Rep H v e ∧ Wt nm s e ∧
  ∀ v' H' e', Kt [p] H H' → Src H' p → Rep H' v' e' → Wt nm s e' → e'.depth ≤ e.depth + 2 → Q v' H'
theorem ok_other : Df P w K mg base 6 "_law_other" ["source", "names", "expression", "sort"] sp_other := by
  refine Lw.Df.mk (T.d__law_other) sc__law_other (fun _ _ _ _ _ _ us hl => match us, hl with | [_, _, _, _], _ => rfl) (fun vs H Q E h => ?_) (fun f cdv A outer s H vs Q E hr h => ?_)
  · obtain ⟨_, _, _, _, _, _, rfl, _⟩ := h
    rfl
  have sc := sc__law_other
  have D__law_one := ok_one2 (P := P) (w := w) (base := base) T
  have D__law_pick := ok_pick2 (P := P) (w := w) (base := base) T
  have D__law_around := ok_around (P := P) (w := w) (base := base) T
  have D__law_drawn := ok_drawn (P := P) (w := w) (base := base) T 2
  obtain ⟨p, d, v, so, nm, e, rfl, hs, hn, ho, r, ht, q⟩ := h
  refine ⟨_, (pss_cons (ps_set (i := 4) sc.nd rfl (by first | exact Or.inl rfl | exact Or.inr rfl) (Lw.pe_d D__law_pick (hr.mono (by omega)) (pa_cons (pv 0) (pa_cons pe_int pa_nil))))
(pss_cons (ps_set (i := 5) sc.nd rfl (by first | exact Or.inl rfl | exact Or.inr rfl) (pe_ix ix_tup (pv 2) pe_int (fun _ _ => rfl)))
(pss_cons (ps_if (PW.pt (pw_or (pt_cmpR op_eq (pv 4) pe_int (nomark _)) (pw_or1 (pt_cmpR op_eq (pv 3) pe_str (nomark _)))))
(pss_one (ps_ret (Lw.pe_d D__law_drawn (hr.mono (by omega)) (pa_cons (pv 0) (pa_cons (pv 1) (pa_cons (pv 3) (pa_cons (pe_lst (pa_cons pe_int pa_nil)) (pa_cons pe_int pa_nil))))))))
pss_nil)
(pss_cons (ps_if (pt_cmpR op_eq (pv 4) pe_int (nomark _))
(pss_one (ps_ret (Lw.pe_d D__law_around (hr.mono (by omega)) (pa_cons (pv 0) (pa_cons (pv 2) (pa_cons (pv 3) pa_nil))))))
pss_nil)
(pss_cons (ps_if (pt_cmpR op_lt (pe_callB call_len_seq (by rfl) T.z_len boot_len (pa_cons (pv 2) pa_nil)) pe_int (nomark _))
(pss_one (ps_ret (Lw.pe_d D__law_drawn (hr.mono (by omega)) (pa_cons (pv 0) (pa_cons (pv 1) (pa_cons (pv 3) (pa_cons (pe_lst (pa_cons pe_int pa_nil)) (pa_cons pe_int pa_nil))))))))
pss_nil)
(pss_cons (ps_if (pt_cmpR op_eq (pv 4) pe_int (nomark _))
(pss_one (ps_ret (pe_tup (pa_cons (pv 5) (pa_cons (pe_ix ix_tup (pv 2) pe_int (fun _ _ => rfl)) (pa_cons (pe_ix ix_tup (pv 2) pe_int (fun _ _ => rfl)) pa_nil))))))
pss_nil)
(pss_cons (ps_for PassesOwn.never rfl (pi_list (pe_lst (pa_cons (pe_lst (pa_cons pe_str (pa_cons pe_str (pa_cons pe_str pa_nil)))) (pa_cons (pe_lst (pa_cons pe_str (pa_cons pe_str (pa_cons pe_str (pa_cons pe_str pa_nil))))) (pa_cons (pe_lst (pa_cons pe_str (pa_cons pe_str pa_nil))) pa_nil))))) (pg_name (i := 6) sc.nd rfl (by first | exact Or.inl rfl | exact Or.inr rfl))
(pss_one (ps_if (pt_cmpR op_in_seq (pv 5) (pv 6) (by rfl))
(pss_one (ps_ret (pe_tup (pa_cons (Lw.pe_d D__law_one (hr.mono (by omega)) (pa_cons (pv 0) (pa_cons (pv 6) pa_nil))) (pa_cons (pe_ix ix_tup (pv 2) pe_int (fun _ _ => rfl)) (pa_cons (pe_ix ix_tup (pv 2) pe_int (fun _ _ => rfl)) pa_nil))))))
pss_nil)))
(pss_one (ps_ret (pv 2)))))))))), ?_⟩
  refine ⟨_, rfl, p, 5, rfl, hs, by decide, by decide, fun c H1 c0 c1 s1 k1 => ?_⟩
  have n1 := nm_keep k1 (intl1 hs) hn
  have r1 := rep_keep k1 r
  obtain ⟨pe, xs, rfl, he⟩ := rep_word r1
  -- a drawn one
  have dr : ∀ (l : Addr) (o : Int) (v' : V) (H' : Hp) (e' : Ex), H1 l = none → Kt [p, l] (upd H1 l (.lst [.int o])) H' → Src H' p → Rep H' v' e' → Wt nm so e' → e'.depth ≤ 2 → Q v' H' := fun l o v' H' e' nl k2 s2 r2 t2 d2 =>
    q v' H' e' (k1.trans (((Kt.new nl).trans k2).drop2 nl)) s2 r2 t2 (by omega)
  -- word = expression[0]
  refine ⟨_, rfl, pe, _, _, _, rfl, rfl, SqT.of he, atI_nat (j := 0) rfl, ?_⟩
  -- if way == 0 or sort == 'ref'
  have first : ∀ (l : Addr), H1 l = none → Src (upd H1 l (.lst [.int 1])) p ∧ NmAt (upd H1 l (.lst [.int 1])) d nm ∧ Rm (upd H1 l (.lst [.int 1])) l := fun l nl => ⟨src_keep0 (Kt.new nl) s1, nm_keep0 (Kt.new nl) n1, 1, upd_same⟩
  have second : ∀ (l : Addr), H1 l = none → Src (upd H1 l (.lst [.int 0])) p ∧ NmAt (upd H1 l (.lst [.int 0])) d nm ∧ Rm (upd H1 l (.lst [.int 0])) l := fun l nl => ⟨src_keep0 (Kt.new nl) s1, nm_keep0 (Kt.new nl) n1, 0, upd_same⟩
  refine ⟨_, rfl, rfl, _, rfl, ite2 (fun e0 => iteT ?_) (fun e0 => ⟨_, rfl, rfl, _, rfl, ite2 (fun e1 => ?_) (fun e1 => ?_)⟩)⟩
  · exact ⟨_, rfl, _, rfl, _, rfl, (by decide), fun l nl => ⟨p, d, l, so, nm, 1, rfl, (first l nl).1, (first l nl).2.1, ho, (first l nl).2.2, by decide, by decide, fun v' H' e' k2 s2 _ r2 t2 d2 => dr l 1 v' H' e' nl k2 s2 r2 t2 (by omega)⟩⟩
  · exact ⟨_, rfl, _, rfl, _, rfl, (by decide), fun l nl => ⟨p, d, l, so, nm, 1, rfl, (first l nl).1, (first l nl).2.1, ho, (first l nl).2.2, by decide, by decide, fun v' H' e' k2 s2 _ r2 t2 d2 => dr l 1 v' H' e' nl k2 s2 r2 t2 (by omega)⟩⟩
  -- if way == 1
  refine ⟨_, rfl, rfl, _, rfl, ite2 (fun e2 => ?_) (fun e2 => ?_)⟩
  · exact ⟨_, rfl, _, rfl, _, rfl, p, _, so, nm, e, rfl, s1, r1, ht, fun v' H' e' k2 s2 r2 t2 d2 => q v' H' e' (k1.trans k2) s2 r2 t2 d2⟩
  -- if len(expression) < 3
  refine ⟨_, rfl, pe, _, rfl, .inr (SqT.of he), _, _, rfl, rfl, _, rfl, ite2 (fun e3 => ?_) (fun e3 => ?_)⟩
  · exact ⟨_, rfl, _, rfl, _, rfl, (by decide), fun l nl => ⟨p, d, l, so, nm, 0, rfl, (second l nl).1, (second l nl).2.1, ho, (second l nl).2.2, by decide, by decide, fun v' H' e' k2 s2 _ r2 t2 d2 => dr l 0 v' H' e' nl k2 s2 r2 t2 (by omega)⟩⟩
  -- an operator of two
  obtain ⟨u, a, b, rfl⟩ : ∃ u a b, e = .bin u a b := by
    have e3' := of_decide_eq_false (Bool.eq_false_iff.mpr e3)
    cases e with
    | bin u a b => exact ⟨u, a, b, rfl⟩
    | un a =>
      obtain ⟨p2, va, g, h2, _⟩ := r1
      cases g
      rw [he] at h2
      cases h2
      exact absurd (show ((2 : Nat) : Int) < 3 by decide) e3'
    | null =>
      obtain ⟨p2, g, h2⟩ := r1
      cases g
      rw [he] at h2
      cases h2
      exact absurd (show ((1 : Nat) : Int) < 3 by decide) e3'
    | _ =>
      obtain ⟨p2, g, h2⟩ := r1
      cases g
      rw [he] at h2
      cases h2
      exact absurd (show ((2 : Nat) : Int) < 3 by decide) e3'
  obtain ⟨rfl, hta, htb⟩ := wt_bin ht
  obtain ⟨p2, va, vb, g, h2, ra, rb⟩ := r1
  cases g
  clear he
  -- if way == 2
  refine ⟨_, rfl, rfl, _, rfl, ite2 (fun e4 => ?_) (fun e4 => ?_)⟩
  · refine ⟨_, rfl, _, rfl, pe, _, _, _, rfl, rfl, SqT.of h2, atI_nat (j := 2) rfl, _, rfl, pe, _, _, _, rfl, rfl, SqT.of h2, atI_nat (j := 1) rfl, (by show 3 ≤ sizeLine; decide), fun t nt => ?_⟩
    exact q _ _ (.bin u b a) (k1.trans (Kt.new nt)) (src_keep0 (Kt.new nt) s1) ⟨t, vb, va, rfl, upd_same, rep_keep (Kt.new (S := []) nt) rb, rep_keep (Kt.new (S := []) nt) ra⟩ (.bin htb hta) (by show max b.depth a.depth + 1 ≤ max a.depth b.depth + 1 + 2; omega)
  -- the loop
  refine ⟨(by show 3 ≤ sizeLine; decide), fun t1 n_t1 => ?_⟩
  have k_t1 : Kt [] H1 (upd H1 t1 (.lst [.str "+", .str "-", .str "*"])) := Kt.new n_t1
  have g_t1 : (upd H1 t1 (.lst [.str "+", .str "-", .str "*"])) t1 = some (.lst [.str "+", .str "-", .str "*"]) := upd_same
  generalize upd H1 t1 (.lst [.str "+", .str "-", .str "*"]) = H_t1 at k_t1 g_t1 ⊢
  refine ⟨(by show 4 ≤ sizeLine; decide), fun t2 n_t2 => ?_⟩
  have k_t2 : Kt [] H_t1 (upd H_t1 t2 (.lst [.str "<", .str "<=", .str "==", .str "!="])) := Kt.new n_t2
  have g_t2 : (upd H_t1 t2 (.lst [.str "<", .str "<=", .str "==", .str "!="])) t2 = some (.lst [.str "<", .str "<=", .str "==", .str "!="]) := upd_same
  generalize upd H_t1 t2 (.lst [.str "<", .str "<=", .str "==", .str "!="]) = H_t2 at k_t2 g_t2 ⊢
  replace g_t1 := k_t2.get0 g_t1
  refine ⟨(by show 2 ≤ sizeLine; decide), fun t3 n_t3 => ?_⟩
  have k_t3 : Kt [] H_t2 (upd H_t2 t3 (.lst [.str "and", .str "or"])) := Kt.new n_t3
  have g_t3 : (upd H_t2 t3 (.lst [.str "and", .str "or"])) t3 = some (.lst [.str "and", .str "or"]) := upd_same
  generalize upd H_t2 t3 (.lst [.str "and", .str "or"]) = H_t3 at k_t3 g_t3 ⊢
  replace g_t1 := k_t3.get0 g_t1
  replace g_t2 := k_t3.get0 g_t2
  refine ⟨(by show 3 ≤ sizeLine; decide), fun L n_L => ?_⟩
  have k_L : Kt [] H_t3 (upd H_t3 L (.lst [.ref t1, .ref t2, .ref t3])) := Kt.new n_L
  have g_L : (upd H_t3 L (.lst [.ref t1, .ref t2, .ref t3])) L = some (.lst [.ref t1, .ref t2, .ref t3]) := upd_same
  generalize upd H_t3 L (.lst [.ref t1, .ref t2, .ref t3]) = H_L at k_L g_L ⊢
  replace g_t1 := k_L.get0 g_t1
  replace g_t2 := k_L.get0 g_t2
  replace g_t3 := k_L.get0 g_t3
  have kk : Kt [] H1 H_L := k_t1.trans (k_t2.trans (k_t3.trans (k_L)))
  have h3 := kk.tup h2
  have ra3 := rep_keep kk ra
  have rb3 := rep_keep kk rb
  have s3 := src_keep0 kk s1
  have end_ : ∀ (w' : Wd) (H' : Hp) (t : Addr), w'.inner = u.inner ∧ w'.outer = u.outer → Src H' p → Kt [p] H_L H' → H' t = none → Q (.ref t) (upd H' t (.tup [.str w'.str, va, vb])) := fun w' H' t io s4 k4 nt => by
    have wt := Wt.bin (w := w') (io.1 ▸ hta) (io.1 ▸ htb)
    rw [io.2] at wt
    exact q _ _ (.bin w' a b) (k1.trans (kk.nil.trans (k4.trans (Kt.new nt)))) (src_keep0 (Kt.new nt) s4) ⟨t, va, vb, rfl, upd_same, rep_keep (k4.trans (Kt.new nt)) ra3, rep_keep (k4.trans (Kt.new nt)) rb3⟩ wt (by show max a.depth b.depth + 1 ≤ max a.depth b.depth + 1 + 2; omega)
  have ne_ : ∀ {t : Addr} {x : Str} {xs : List V}, H_L t = some (.lst (.str x :: xs)) → t ≠ p := fun g => src_ne s3 g (fun _ _ z => nomatch z)
  refine ⟨L, rfl, ⟨_, SqL.of g_L⟩, for_listU (SqL.of g_L) ?_⟩
  refine ⟨_, rfl, _, rfl, t1, _, rfl, .inl (SqL.of g_t1), rfl, rfl, _, rfl, iteE u.isArith (in_arith (.bin u a b)) (ite2 (fun c5 => ?_) (fun c5 => ⟨SqL.of g_L, ?_⟩))⟩
  · refine ⟨_, rfl, _, rfl, p, t1, _, rfl, s3, g_t1, (fun z => nomatch z), (by show 3 < 1000000; decide), ne_ g_t1, fun v' H' hv s4 k4 => ?_⟩
    obtain ⟨w', rfl, hw⟩ := in_words (p := Wd.isArith) (ws := [.add, .sub, .mul]) rfl (by decide) hv
    exact ⟨_, rfl, pe, _, _, _, rfl, rfl, SqT.of (k4.tup h3), atI_nat (j := 1) rfl, _, rfl, pe, _, _, _, rfl, rfl, SqT.of (k4.tup h3), atI_nat (j := 2) rfl, (by show 3 ≤ sizeLine; decide), fun t nt => end_ w' H' t (arith_io c5 hw) s4 k4 nt⟩
  refine ⟨_, rfl, _, rfl, t2, _, rfl, .inl (SqL.of g_t2), rfl, rfl, _, rfl, iteE u.isCmp (in_cmp (.bin u a b)) (ite2 (fun c6 => ?_) (fun c6 => ⟨SqL.of g_L, ?_⟩))⟩
  · refine ⟨_, rfl, _, rfl, p, t2, _, rfl, s3, g_t2, (fun z => nomatch z), (by show 4 < 1000000; decide), ne_ g_t2, fun v' H' hv s4 k4 => ?_⟩
    obtain ⟨w', rfl, hw⟩ := in_words (p := Wd.isCmp) (ws := [.lt, .le, .eq, .ne]) rfl (by decide) hv
    exact ⟨_, rfl, pe, _, _, _, rfl, rfl, SqT.of (k4.tup h3), atI_nat (j := 1) rfl, _, rfl, pe, _, _, _, rfl, rfl, SqT.of (k4.tup h3), atI_nat (j := 2) rfl, (by show 3 ≤ sizeLine; decide), fun t nt => end_ w' H' t (cmp_io c6 hw) s4 k4 nt⟩
  refine ⟨_, rfl, _, rfl, t3, _, rfl, .inl (SqL.of g_t3), rfl, rfl, _, rfl, iteE u.isLogic (in_logic (.bin u a b)) (ite2 (fun c7 => ?_) (fun c7 => ⟨SqL.of g_L, ?_⟩))⟩
  · refine ⟨_, rfl, _, rfl, p, t3, _, rfl, s3, g_t3, (fun z => nomatch z), (by show 2 < 1000000; decide), ne_ g_t3, fun v' H' hv s4 k4 => ?_⟩
    obtain ⟨w', rfl, hw⟩ := in_words (p := Wd.isLogic) (ws := [.and, .or]) rfl (by decide) hv
    exact ⟨_, rfl, pe, _, _, _, rfl, rfl, SqT.of (k4.tup h3), atI_nat (j := 1) rfl, _, rfl, pe, _, _, _, rfl, rfl, SqT.of (k4.tup h3), atI_nat (j := 2) rfl, (by show 3 ≤ sizeLine; decide), fun t nt => end_ w' H' t (logic_io c7 hw) s4 k4 nt⟩
  exact ⟨_, rfl, q _ _ (.bin u a b) (k1.trans kk.nil) s3 ⟨pe, va, vb, rfl, h3, ra3, rb3⟩ (.bin hta htb) (by omega)⟩
end
end K80


set_option Elab.async false
set_option linter.all false
set_option maxRecDepth 100000
set_option maxHeartbeats 4000000
namespace K80
open PySem PySem.Spec PyProof.Rows L2 Lw
section
variable {P : Program} {w : World} {K : PySem.W.Frag} {mg : Str → Option Value} {base : Heap} (T : Facts K mg)
include T
def sp_changed (n : Nat) : Sp := fun vs H Q _ => ∃ (p d : Addr) (v : V) (s : So) (nm : So → List Str) (e : Ex) (at_ : Int), vs = [.ref p, .ref d, v, .str s.str, .int at_] ∧ Src H p ∧ NmAt H d nm ∧ NmOk nm ∧ Rep H v e ∧ Wt nm s e ∧ e.depth < n ∧
  ∀ v' H' e', Kt [p] H H' → Src H' p → Rep H' v' e' → Wt nm s e' → e'.depth ≤ e.depth + 2 → Q v' H'
theorem ok_changed : ∀ n : Nat, Df P w K mg base (n + 7) "_law_changed" ["source", "names", "expression", "sort", "at"] (sp_changed n)
  | 0 => Df.none (T.d__law_changed) (fun _ _ _ _ _ _ us hl => match us, hl with | [_, _, _, _, _], _ => rfl) fun vs H Q E ⟨_, _, _, _, _, _, _, _, _, _, _, _, _, h, _⟩ => absurd h (Nat.not_lt_zero _)
  | n + 1 => by
    have D__law_changed := ok_changed n
    have D__law_other := ok_other (P := P) (w := w) (base := base) T
    have D__law_parts := ok_parts (P := P) (w := w) (base := base) T n
    have D__law_inner_sort := ok_inner (P := P) (w := w) (base := base) T
    refine Lw.Df.mk (T.d__law_changed) sc__law_changed (fun _ _ _ _ _ _ us hl => match us, hl with | [_, _, _, _, _], _ => rfl) (fun vs H Q E h => ?_) (fun f cdv A outer s H vs Q E hr h => ?_)
    · obtain ⟨_, _, _, _, _, _, _, rfl, _⟩ := h
      rfl
    have sc := sc__law_changed
    obtain ⟨p, d, v, so, nm, e, at_, rfl, hs, hn, ho, r, ht, hd, q⟩ := h
    refine ⟨_, (pss_cons (ps_if (pt_cmpR op_eq (pv 4) pe_int (nomark _))
(pss_one (ps_ret (Lw.pe_d D__law_other (hr.mono (by omega)) (pa_cons (pv 0) (pa_cons (pv 1) (pa_cons (pv 2) (pa_cons (pv 3) pa_nil)))))))
pss_nil)
(pss_cons (ps_set (i := 5) sc.nd rfl (by first | exact Or.inl rfl | exact Or.inr rfl) (pe_slice sl_tupA (pv 2) po_none (po_some pe_int)))
(pss_cons (ps_set (i := 4) sc.nd rfl (by first | exact Or.inl rfl | exact Or.inr rfl) (pe_op op_sub (pv 4) pe_int))
(pss_cons (ps_for PassesOwn.never rfl (pi_tup (pe_slice sl_tupA (pv 2) (po_some pe_int) po_none)) (pg_name (i := 6) sc.nd rfl (by first | exact Or.inl rfl | exact Or.inr rfl))
(pss_cons (ps_set (i := 7) sc.nd rfl (by first | exact Or.inl rfl | exact Or.inr rfl) (pv 6))
(pss_cons (ps_if (pt_val (pe_callB call_isi (by rfl) T.z_isinstance boot_isinstance (pa_cons (pv 6) (pa_cons (pe_bltn (v := .ty "tuple") (by rfl) T.z_tuple boot_tuple rfl) pa_nil))))
(pss_cons (ps_set (i := 8) sc.nd rfl (by first | exact Or.inl rfl | exact Or.inr rfl) (Lw.pe_d D__law_parts (hr.mono (by omega)) (pa_cons (pv 6) pa_nil)))
(pss_cons (ps_if (pt_chain op_le op_lt pe_int (pv 4) (pv 8))
(pss_one (ps_set (i := 7) sc.nd rfl (by first | exact Or.inl rfl | exact Or.inr rfl) (Lw.pe_d D__law_changed (hr.mono (by omega)) (pa_cons (pv 0) (pa_cons (pv 1) (pa_cons (pv 6) (pa_cons (Lw.pe_d D__law_inner_sort (hr.mono (by omega)) (pa_cons (pe_ix ix_tup (pv 2) pe_int (fun _ _ => rfl)) pa_nil)) (pa_cons (pv 4) pa_nil))))))))
pss_nil)
(pss_one (ps_set (i := 4) sc.nd rfl (by first | exact Or.inl rfl | exact Or.inr rfl) (pe_op op_sub (pv 4) (pv 8))))))
pss_nil)
(pss_one (ps_set (i := 5) sc.nd rfl (by first | exact Or.inl rfl | exact Or.inr rfl) (pe_op op_catA (pv 5) (pe_tup (pa_cons (pv 7) pa_nil))))))))
(pss_one (ps_ret (pv 5))))))), ?_⟩
    have ty : ∀ {v : V} {a : Ex} {H1 : Hp}, Rep H1 v a → TyX K H1 v (.type "tuple") := fun r => (rep_is r).elim fun _ z => z.2
    -- if at == 0
    refine ⟨_, rfl, rfl, _, rfl, ite2 (fun _ => ?_) (fun _ => ?_)⟩
    · exact ⟨_, rfl, _, rfl, _, rfl, _, rfl, p, d, v, so, nm, e, rfl, hs, hn, ho, r, ht, q⟩
    cases e with
    | null =>
      obtain ⟨pe, rfl, h1⟩ := r
      refine tsl_head ⟨_, rfl, pe, _, _, rfl, h1, fun m H1 k1 hm => ?_⟩ var_mono
      refine ⟨_, rfl, _, _, rfl, rfl, ?_⟩
      refine tsl_tail ⟨_, rfl, pe, _, _, rfl, k1.tup h1, fun t H2 k2 ht2 => ⟨t, rfl, ⟨_, SqT.of ht2⟩, for_tupU (SqT.of ht2) ?_⟩⟩ var_mono
      exact ⟨_, rfl, q _ _ .null (k1.trans k2).nil (src_keep0 (k1.trans k2) hs) ⟨m, rfl, k2.tup hm⟩ ht (by omega)⟩
    | name x =>
      obtain ⟨pe, rfl, h1⟩ := r
      refine tsl_head ⟨_, rfl, pe, _, _, rfl, h1, fun m H1 k1 hm => ?_⟩ var_mono
      refine ⟨_, rfl, _, _, rfl, rfl, ?_⟩
      refine tsl_tail ⟨_, rfl, pe, _, _, rfl, k1.tup h1, fun t H2 k2 ht2 => ⟨t, rfl, ⟨_, SqT.of ht2⟩, for_tupU (SqT.of ht2) ?_⟩⟩ var_mono
      refine ⟨_, rfl, _, rfl, _, _, _, _, false, rfl, .ty _, .base (.str _), kit_ty (by decide +kernel), _, rfl, iteF ?_⟩
      refine ⟨_, rfl, _, rfl, (by show 1 ≤ sizeLine; decide), fun t3 n3 => ?_⟩
      have k3 : Kt [] H2 (upd H2 t3 (.tup [.str x])) := Kt.new n3
      refine cat_tup (k3.tup (k2.tup hm)) upd_same (by show 2 ≤ sizeLine; decide) fun t4 H4 k4 h4 => ⟨SqT.of (k4.tup (k3.tup ht2)), _, rfl, ?_⟩
      have kk := k1.trans (k2.trans (k3.trans k4))
      exact q _ _ (.name x) kk.nil (src_keep0 kk hs) ⟨t4, rfl, h4⟩ ht (by omega)
    | num i =>
      obtain ⟨pe, rfl, h1⟩ := r
      refine tsl_head ⟨_, rfl, pe, _, _, rfl, h1, fun m H1 k1 hm => ?_⟩ var_mono
      refine ⟨_, rfl, _, _, rfl, rfl, ?_⟩
      refine tsl_tail ⟨_, rfl, pe, _, _, rfl, k1.tup h1, fun t H2 k2 ht2 => ⟨t, rfl, ⟨_, SqT.of ht2⟩, for_tupU (SqT.of ht2) ?_⟩⟩ var_mono
      refine ⟨_, rfl, _, rfl, _, _, _, _, false, rfl, .ty _, .base (.int _), kit_ty (by decide +kernel), _, rfl, iteF ?_⟩
      refine ⟨_, rfl, _, rfl, (by show 1 ≤ sizeLine; decide), fun t3 n3 => ?_⟩
      have k3 : Kt [] H2 (upd H2 t3 (.tup [.int i])) := Kt.new n3
      refine cat_tup (k3.tup (k2.tup hm)) upd_same (by show 2 ≤ sizeLine; decide) fun t4 H4 k4 h4 => ⟨SqT.of (k4.tup (k3.tup ht2)), _, rfl, ?_⟩
      have kk := k1.trans (k2.trans (k3.trans k4))
      exact q _ _ (.num i) kk.nil (src_keep0 kk hs) ⟨t4, rfl, h4⟩ ht (by omega)
    | flag b =>
      obtain ⟨pe, rfl, h1⟩ := r
      refine tsl_head ⟨_, rfl, pe, _, _, rfl, h1, fun m H1 k1 hm => ?_⟩ var_mono
      refine ⟨_, rfl, _, _, rfl, rfl, ?_⟩
      refine tsl_tail ⟨_, rfl, pe, _, _, rfl, k1.tup h1, fun t H2 k2 ht2 => ⟨t, rfl, ⟨_, SqT.of ht2⟩, for_tupU (SqT.of ht2) ?_⟩⟩ var_mono
      refine ⟨_, rfl, _, rfl, _, _, _, _, false, rfl, .ty _, .base (.bl _), kit_ty (by decide +kernel), _, rfl, iteF ?_⟩
      refine ⟨_, rfl, _, rfl, (by show 1 ≤ sizeLine; decide), fun t3 n3 => ?_⟩
      have k3 : Kt [] H2 (upd H2 t3 (.tup [.bl b])) := Kt.new n3
      refine cat_tup (k3.tup (k2.tup hm)) upd_same (by show 2 ≤ sizeLine; decide) fun t4 H4 k4 h4 => ⟨SqT.of (k4.tup (k3.tup ht2)), _, rfl, ?_⟩
      have kk := k1.trans (k2.trans (k3.trans k4))
      exact q _ _ (.flag b) kk.nil (src_keep0 kk hs) ⟨t4, rfl, h4⟩ ht (by omega)
    | un a =>
      obtain ⟨pe, va, rfl, h1, ra⟩ := r
      obtain ⟨rfl, hta⟩ := wt_un ht
      have hda : a.depth < n := Nat.lt_of_succ_lt_succ hd
      refine tsl_head ⟨_, rfl, pe, _, _, rfl, h1, fun m H1 k1 hm => ?_⟩ var_mono
      refine ⟨_, rfl, _, _, rfl, rfl, ?_⟩
      refine tsl_tail ⟨_, rfl, pe, _, _, rfl, k1.tup h1, fun t H2 k2 ht2 => ⟨t, rfl, ⟨_, SqT.of ht2⟩, for_tupU (SqT.of ht2) ?_⟩⟩ var_mono
      have k12 := k1.trans k2
      have h1' := k12.tup h1
      have hm' := k2.tup hm
      have hs' := src_keep0 k12 hs
      have hn' := nm_keep0 k12 hn
      have ra2 := rep_keep k12 ra
      change forU _ _ _ _ _ [_, _, _, _, _, _, _, _, _] _
      refine ⟨_, rfl, _, rfl, _, _, _, _, true, rfl, .ty _, ty ra2, kit_ty (by decide +kernel), _, rfl, iteT ⟨_, rfl, va, a, rfl, ra2, hda, fun Hp1 kp1 => ?_⟩⟩
      refine ⟨_, rfl, _, _, rfl, rfl, _, rfl, ite2 (fun c1 => ⟨_, rfl, _, _, rfl, rfl, _, rfl, ite2 (fun c2 => ?_) (fun c2 => ?_)⟩) (fun c1 => ⟨_, rfl, iteF ?_⟩)⟩
      · refine ⟨_, rfl, _, rfl, _, rfl, _, rfl, pe, _, _, _, rfl, rfl, SqT.of (kp1.tup (h1')), atI_nat (j := 0) rfl, _, _, rfl, .inl ⟨rfl, rfl⟩, fun Hi1 ki1 => ⟨_, rfl, p, d, va, .flag, nm, a, _, rfl, src_keep0 (kp1.trans ki1) hs', nm_keep0 (kp1.trans ki1) hn', ho, rep_keep (kp1.trans ki1) ra2, hta, hda, fun vc1 Hc1 ec1 kc01 sc01 rc01 tc01 dc01 => ?_⟩⟩
        have nc01 := nm_keep kc01 (intl1 (src_keep0 (kp1.trans ki1) hs')) (nm_keep0 (kp1.trans ki1) hn')
        refine ⟨_, rfl, _, rfl, _, _, rfl, rfl, _, rfl, _, rfl, (by show 1 ≤ sizeLine; decide), fun tk1 nk1 => ?_⟩
        have kn1 : Kt [] Hc1 (upd Hc1 tk1 (.tup [vc1])) := Kt.new nk1
        refine cat_tup (kn1.tup (((kp1.trans ki1).nil.trans kc01).tup hm')) upd_same (by show 2 ≤ sizeLine; decide) fun tm1 Hm1 km1 hm1 => ⟨SqT.of (km1.tup (kn1.tup (((kp1.trans ki1).nil.trans kc01).tup ht2))), ?_⟩
        have kc1 := kn1.trans km1
        have kk1 : Kt [p] H2 Hm1 := ((kp1.trans ki1).nil.trans kc01).trans kc1.nil
        have ks1 := src_keep0 kc1 (sc01)
        have kd1 := nm_keep0 kc1 (nc01)
        have kr1 := rep_keep kc1 (rc01)
        have dd := dc01
        exact ⟨_, rfl, q _ _ (.un ec1) (k12.nil.trans kk1) ks1 ⟨tm1, vc1, rfl, hm1, kr1⟩ (.un tc01) (by show ec1.depth + 1 ≤ a.depth + 1 + 2; omega)⟩
      · refine ⟨_, rfl, _, rfl, _, _, rfl, rfl, _, rfl, _, rfl, (by show 1 ≤ sizeLine; decide), fun tk1 nk1 => ?_⟩
        have kn1 : Kt [] Hp1 (upd Hp1 tk1 (.tup [va])) := Kt.new nk1
        refine cat_tup (kn1.tup ((kp1.nil (S := [p])).tup hm')) upd_same (by show 2 ≤ sizeLine; decide) fun tm1 Hm1 km1 hm1 => ⟨SqT.of (km1.tup (kn1.tup ((kp1.nil (S := [p])).tup ht2))), ?_⟩
        have kc1 := kn1.trans km1
        have kk1 : Kt [p] H2 Hm1 := (kp1.nil (S := [p])).trans kc1.nil
        have ks1 := src_keep0 kc1 (src_keep0 kp1 hs')
        have kd1 := nm_keep0 kc1 (nm_keep0 kp1 hn')
        have kr1 := rep_keep kc1 (rep_keep kp1 ra2)
        have dd := (by omega : a.depth ≤ a.depth + 2)
        exact ⟨_, rfl, q _ _ (.un a) (k12.nil.trans kk1) ks1 ⟨tm1, va, rfl, hm1, kr1⟩ (.un hta) (by show a.depth + 1 ≤ a.depth + 1 + 2; omega)⟩
      · refine ⟨_, rfl, _, rfl, _, _, rfl, rfl, _, rfl, _, rfl, (by show 1 ≤ sizeLine; decide), fun tk1 nk1 => ?_⟩
        have kn1 : Kt [] Hp1 (upd Hp1 tk1 (.tup [va])) := Kt.new nk1
        refine cat_tup (kn1.tup ((kp1.nil (S := [p])).tup hm')) upd_same (by show 2 ≤ sizeLine; decide) fun tm1 Hm1 km1 hm1 => ⟨SqT.of (km1.tup (kn1.tup ((kp1.nil (S := [p])).tup ht2))), ?_⟩
        have kc1 := kn1.trans km1
        have kk1 : Kt [p] H2 Hm1 := (kp1.nil (S := [p])).trans kc1.nil
        have ks1 := src_keep0 kc1 (src_keep0 kp1 hs')
        have kd1 := nm_keep0 kc1 (nm_keep0 kp1 hn')
        have kr1 := rep_keep kc1 (rep_keep kp1 ra2)
        have dd := (by omega : a.depth ≤ a.depth + 2)
        exact ⟨_, rfl, q _ _ (.un a) (k12.nil.trans kk1) ks1 ⟨tm1, va, rfl, hm1, kr1⟩ (.un hta) (by show a.depth + 1 ≤ a.depth + 1 + 2; omega)⟩
    | bin u a b =>
      obtain ⟨pe, va, vb, rfl, h1, ra, rb⟩ := r
      obtain ⟨rfl, hta, htb⟩ := wt_bin ht
      have hda : a.depth < n ∧ b.depth < n := by
        have : max a.depth b.depth + 1 < n + 1 := hd
        omega
      refine tsl_head ⟨_, rfl, pe, _, _, rfl, h1, fun m H1 k1 hm => ?_⟩ var_mono
      refine ⟨_, rfl, _, _, rfl, rfl, ?_⟩
      refine tsl_tail ⟨_, rfl, pe, _, _, rfl, k1.tup h1, fun t H2 k2 ht2 => ⟨t, rfl, ⟨_, SqT.of ht2⟩, for_tupU (SqT.of ht2) ?_⟩⟩ var_mono
      have k12 := k1.trans k2
      have h1' := k12.tup h1
      have hm' := k2.tup hm
      have hs' := src_keep0 k12 hs
      have hn' := nm_keep0 k12 hn
      have ra2 := rep_keep k12 ra
      have rb2 := rep_keep k12 rb
      change forU _ _ _ _ _ [_, _, _, _, _, _, _, _, _] _
      refine ⟨_, rfl, _, rfl, _, _, _, _, true, rfl, .ty _, ty ra2, kit_ty (by decide +kernel), _, rfl, iteT ⟨_, rfl, va, a, rfl, ra2, hda.1, fun Hp2 kp2 => ?_⟩⟩
      refine ⟨_, rfl, _, _, rfl, rfl, _, rfl, ite2 (fun c1 => ⟨_, rfl, _, _, rfl, rfl, _, rfl, ite2 (fun c2 => ?_) (fun c2 => ?_)⟩) (fun c1 => ⟨_, rfl, iteF ?_⟩)⟩
      · refine ⟨_, rfl, _, rfl, _, rfl, _, rfl, pe, _, _, _, rfl, rfl, SqT.of (kp2.tup (h1')), atI_nat (j := 0) rfl, _, _, rfl, .inr ⟨u, rfl, rfl⟩, fun Hi2 ki2 => ⟨_, rfl, p, d, va, u.inner, nm, a, _, rfl, src_keep0 (kp2.trans ki2) hs', nm_keep0 (kp2.trans ki2) hn', ho, rep_keep (kp2.trans ki2) ra2, hta, hda.1, fun vc2 Hc2 ec2 kc02 sc02 rc02 tc02 dc02 => ?_⟩⟩
        have nc02 := nm_keep kc02 (intl1 (src_keep0 (kp2.trans ki2) hs')) (nm_keep0 (kp2.trans ki2) hn')
        refine ⟨_, rfl, _, rfl, _, _, rfl, rfl, _, rfl, _, rfl, (by show 1 ≤ sizeLine; decide), fun tk2 nk2 => ?_⟩
        have kn2 : Kt [] Hc2 (upd Hc2 tk2 (.tup [vc2])) := Kt.new nk2
        refine cat_tup (kn2.tup (((kp2.trans ki2).nil.trans kc02).tup hm')) upd_same (by show 2 ≤ sizeLine; decide) fun tm2 Hm2 km2 hm2 => ⟨SqT.of (km2.tup (kn2.tup (((kp2.trans ki2).nil.trans kc02).tup ht2))), ?_⟩
        have kc2 := kn2.trans km2
        have kk2 : Kt [p] H2 Hm2 := ((kp2.trans ki2).nil.trans kc02).trans kc2.nil
        have ks2 := src_keep0 kc2 (sc02)
        have kd2 := nm_keep0 kc2 (nc02)
        have kr2 := rep_keep kc2 (rc02)
        have rb3 := rep_keep kk2 rb2
        have ht3 := kk2.tup ht2
        have h13 := kk2.tup h1'
        change forU _ _ _ _ _ [_, _, _, _, _, _, _, _, _] _
        refine ⟨_, rfl, _, rfl, _, _, _, _, true, rfl, .ty _, ty rb3, kit_ty (by decide +kernel), _, rfl, iteT ⟨_, rfl, vb, b, rfl, rb3, hda.2, fun Hp3 kp3 => ?_⟩⟩
        refine ⟨_, rfl, _, _, rfl, rfl, _, rfl, ite2 (fun c1 => ⟨_, rfl, _, _, rfl, rfl, _, rfl, ite2 (fun c2 => ?_) (fun c2 => ?_)⟩) (fun c1 => ⟨_, rfl, iteF ?_⟩)⟩
        · refine ⟨_, rfl, _, rfl, _, rfl, _, rfl, pe, _, _, _, rfl, rfl, SqT.of (kp3.tup (h13)), atI_nat (j := 0) rfl, _, _, rfl, .inr ⟨u, rfl, rfl⟩, fun Hi3 ki3 => ⟨_, rfl, p, d, vb, u.inner, nm, b, _, rfl, src_keep0 (kp3.trans ki3) ks2, nm_keep0 (kp3.trans ki3) kd2, ho, rep_keep (kp3.trans ki3) rb3, htb, hda.2, fun vc3 Hc3 ec3 kc03 sc03 rc03 tc03 dc03 => ?_⟩⟩
          have nc03 := nm_keep kc03 (intl1 (src_keep0 (kp3.trans ki3) ks2)) (nm_keep0 (kp3.trans ki3) kd2)
          refine ⟨_, rfl, _, rfl, _, _, rfl, rfl, _, rfl, _, rfl, (by show 1 ≤ sizeLine; decide), fun tk3 nk3 => ?_⟩
          have kn3 : Kt [] Hc3 (upd Hc3 tk3 (.tup [vc3])) := Kt.new nk3
          refine cat_tup (kn3.tup (((kp3.trans ki3).nil.trans kc03).tup hm2)) upd_same (by show 3 ≤ sizeLine; decide) fun tm3 Hm3 km3 hm3 => ⟨SqT.of (km3.tup (kn3.tup (((kp3.trans ki3).nil.trans kc03).tup ht3))), ?_⟩
          have kc3 := kn3.trans km3
          have kk3 : Kt [p] Hm2 Hm3 := ((kp3.trans ki3).nil.trans kc03).trans kc3.nil
          have ks3 := src_keep0 kc3 (sc03)
          have kd3 := nm_keep0 kc3 (nc03)
          have kr3 := rep_keep kc3 (rc03)
          have dd := dc02
          have dd2 := dc03
          exact ⟨_, rfl, q _ _ (.bin u ec2 ec3) (k12.nil.trans (kk2.trans kk3)) ks3 ⟨tm3, vc2, vc3, rfl, hm3, rep_keep kk3 kr2, kr3⟩ (.bin tc02 tc03) (by show max ec2.depth ec3.depth + 1 ≤ max a.depth b.depth + 1 + 2; omega)⟩
        · refine ⟨_, rfl, _, rfl, _, _, rfl, rfl, _, rfl, _, rfl, (by show 1 ≤ sizeLine; decide), fun tk3 nk3 => ?_⟩
          have kn3 : Kt [] Hp3 (upd Hp3 tk3 (.tup [vb])) := Kt.new nk3
          refine cat_tup (kn3.tup ((kp3.nil (S := [p])).tup hm2)) upd_same (by show 3 ≤ sizeLine; decide) fun tm3 Hm3 km3 hm3 => ⟨SqT.of (km3.tup (kn3.tup ((kp3.nil (S := [p])).tup ht3))), ?_⟩
          have kc3 := kn3.trans km3
          have kk3 : Kt [p] Hm2 Hm3 := (kp3.nil (S := [p])).trans kc3.nil
          have ks3 := src_keep0 kc3 (src_keep0 kp3 ks2)
          have kd3 := nm_keep0 kc3 (nm_keep0 kp3 kd2)
          have kr3 := rep_keep kc3 (rep_keep kp3 rb3)
          have dd := dc02
          have dd2 := (by omega : b.depth ≤ b.depth + 2)
          exact ⟨_, rfl, q _ _ (.bin u ec2 b) (k12.nil.trans (kk2.trans kk3)) ks3 ⟨tm3, vc2, vb, rfl, hm3, rep_keep kk3 kr2, kr3⟩ (.bin tc02 htb) (by show max ec2.depth b.depth + 1 ≤ max a.depth b.depth + 1 + 2; omega)⟩
        · refine ⟨_, rfl, _, rfl, _, _, rfl, rfl, _, rfl, _, rfl, (by show 1 ≤ sizeLine; decide), fun tk3 nk3 => ?_⟩
          have kn3 : Kt [] Hp3 (upd Hp3 tk3 (.tup [vb])) := Kt.new nk3
          refine cat_tup (kn3.tup ((kp3.nil (S := [p])).tup hm2)) upd_same (by show 3 ≤ sizeLine; decide) fun tm3 Hm3 km3 hm3 => ⟨SqT.of (km3.tup (kn3.tup ((kp3.nil (S := [p])).tup ht3))), ?_⟩
          have kc3 := kn3.trans km3
          have kk3 : Kt [p] Hm2 Hm3 := (kp3.nil (S := [p])).trans kc3.nil
          have ks3 := src_keep0 kc3 (src_keep0 kp3 ks2)
          have kd3 := nm_keep0 kc3 (nm_keep0 kp3 kd2)
          have kr3 := rep_keep kc3 (rep_keep kp3 rb3)
          have dd := dc02
          have dd2 := (by omega : b.depth ≤ b.depth + 2)
          exact ⟨_, rfl, q _ _ (.bin u ec2 b) (k12.nil.trans (kk2.trans kk3)) ks3 ⟨tm3, vc2, vb, rfl, hm3, rep_keep kk3 kr2, kr3⟩ (.bin tc02 htb) (by show max ec2.depth b.depth + 1 ≤ max a.depth b.depth + 1 + 2; omega)⟩
      · refine ⟨_, rfl, _, rfl, _, _, rfl, rfl, _, rfl, _, rfl, (by show 1 ≤ sizeLine; decide), fun tk2 nk2 => ?_⟩
        have kn2 : Kt [] Hp2 (upd Hp2 tk2 (.tup [va])) := Kt.new nk2
        refine cat_tup (kn2.tup ((kp2.nil (S := [p])).tup hm')) upd_same (by show 2 ≤ sizeLine; decide) fun tm2 Hm2 km2 hm2 => ⟨SqT.of (km2.tup (kn2.tup ((kp2.nil (S := [p])).tup ht2))), ?_⟩
        have kc2 := kn2.trans km2
        have kk2 : Kt [p] H2 Hm2 := (kp2.nil (S := [p])).trans kc2.nil
        have ks2 := src_keep0 kc2 (src_keep0 kp2 hs')
        have kd2 := nm_keep0 kc2 (nm_keep0 kp2 hn')
        have kr2 := rep_keep kc2 (rep_keep kp2 ra2)
        have rb3 := rep_keep kk2 rb2
        have ht3 := kk2.tup ht2
        have h13 := kk2.tup h1'
        change forU _ _ _ _ _ [_, _, _, _, _, _, _, _, _] _
        refine ⟨_, rfl, _, rfl, _, _, _, _, true, rfl, .ty _, ty rb3, kit_ty (by decide +kernel), _, rfl, iteT ⟨_, rfl, vb, b, rfl, rb3, hda.2, fun Hp4 kp4 => ?_⟩⟩
        refine ⟨_, rfl, _, _, rfl, rfl, _, rfl, ite2 (fun c1 => ⟨_, rfl, _, _, rfl, rfl, _, rfl, ite2 (fun c2 => ?_) (fun c2 => ?_)⟩) (fun c1 => ⟨_, rfl, iteF ?_⟩)⟩
        · refine ⟨_, rfl, _, rfl, _, rfl, _, rfl, pe, _, _, _, rfl, rfl, SqT.of (kp4.tup (h13)), atI_nat (j := 0) rfl, _, _, rfl, .inr ⟨u, rfl, rfl⟩, fun Hi4 ki4 => ⟨_, rfl, p, d, vb, u.inner, nm, b, _, rfl, src_keep0 (kp4.trans ki4) ks2, nm_keep0 (kp4.trans ki4) kd2, ho, rep_keep (kp4.trans ki4) rb3, htb, hda.2, fun vc4 Hc4 ec4 kc04 sc04 rc04 tc04 dc04 => ?_⟩⟩
          have nc04 := nm_keep kc04 (intl1 (src_keep0 (kp4.trans ki4) ks2)) (nm_keep0 (kp4.trans ki4) kd2)
          refine ⟨_, rfl, _, rfl, _, _, rfl, rfl, _, rfl, _, rfl, (by show 1 ≤ sizeLine; decide), fun tk4 nk4 => ?_⟩
          have kn4 : Kt [] Hc4 (upd Hc4 tk4 (.tup [vc4])) := Kt.new nk4
          refine cat_tup (kn4.tup (((kp4.trans ki4).nil.trans kc04).tup hm2)) upd_same (by show 3 ≤ sizeLine; decide) fun tm4 Hm4 km4 hm4 => ⟨SqT.of (km4.tup (kn4.tup (((kp4.trans ki4).nil.trans kc04).tup ht3))), ?_⟩
          have kc4 := kn4.trans km4
          have kk4 : Kt [p] Hm2 Hm4 := ((kp4.trans ki4).nil.trans kc04).trans kc4.nil
          have ks4 := src_keep0 kc4 (sc04)
          have kd4 := nm_keep0 kc4 (nc04)
          have kr4 := rep_keep kc4 (rc04)
          have dd := (by omega : a.depth ≤ a.depth + 2)
          have dd2 := dc04
          exact ⟨_, rfl, q _ _ (.bin u a ec4) (k12.nil.trans (kk2.trans kk4)) ks4 ⟨tm4, va, vc4, rfl, hm4, rep_keep kk4 kr2, kr4⟩ (.bin hta tc04) (by show max a.depth ec4.depth + 1 ≤ max a.depth b.depth + 1 + 2; omega)⟩
        · refine ⟨_, rfl, _, rfl, _, _, rfl, rfl, _, rfl, _, rfl, (by show 1 ≤ sizeLine; decide), fun tk4 nk4 => ?_⟩
          have kn4 : Kt [] Hp4 (upd Hp4 tk4 (.tup [vb])) := Kt.new nk4
          refine cat_tup (kn4.tup ((kp4.nil (S := [p])).tup hm2)) upd_same (by show 3 ≤ sizeLine; decide) fun tm4 Hm4 km4 hm4 => ⟨SqT.of (km4.tup (kn4.tup ((kp4.nil (S := [p])).tup ht3))), ?_⟩
          have kc4 := kn4.trans km4
          have kk4 : Kt [p] Hm2 Hm4 := (kp4.nil (S := [p])).trans kc4.nil
          have ks4 := src_keep0 kc4 (src_keep0 kp4 ks2)
          have kd4 := nm_keep0 kc4 (nm_keep0 kp4 kd2)
          have kr4 := rep_keep kc4 (rep_keep kp4 rb3)
          have dd := (by omega : a.depth ≤ a.depth + 2)
          have dd2 := (by omega : b.depth ≤ b.depth + 2)
          exact ⟨_, rfl, q _ _ (.bin u a b) (k12.nil.trans (kk2.trans kk4)) ks4 ⟨tm4, va, vb, rfl, hm4, rep_keep kk4 kr2, kr4⟩ (.bin hta htb) (by show max a.depth b.depth + 1 ≤ max a.depth b.depth + 1 + 2; omega)⟩
        · refine ⟨_, rfl, _, rfl, _, _, rfl, rfl, _, rfl, _, rfl, (by show 1 ≤ sizeLine; decide), fun tk4 nk4 => ?_⟩
          have kn4 : Kt [] Hp4 (upd Hp4 tk4 (.tup [vb])) := Kt.new nk4
          refine cat_tup (kn4.tup ((kp4.nil (S := [p])).tup hm2)) upd_same (by show 3 ≤ sizeLine; decide) fun tm4 Hm4 km4 hm4 => ⟨SqT.of (km4.tup (kn4.tup ((kp4.nil (S := [p])).tup ht3))), ?_⟩
          have kc4 := kn4.trans km4
          have kk4 : Kt [p] Hm2 Hm4 := (kp4.nil (S := [p])).trans kc4.nil
          have ks4 := src_keep0 kc4 (src_keep0 kp4 ks2)
          have kd4 := nm_keep0 kc4 (nm_keep0 kp4 kd2)
          have kr4 := rep_keep kc4 (rep_keep kp4 rb3)
          have dd := (by omega : a.depth ≤ a.depth + 2)
          have dd2 := (by omega : b.depth ≤ b.depth + 2)
          exact ⟨_, rfl, q _ _ (.bin u a b) (k12.nil.trans (kk2.trans kk4)) ks4 ⟨tm4, va, vb, rfl, hm4, rep_keep kk4 kr2, kr4⟩ (.bin hta htb) (by show max a.depth b.depth + 1 ≤ max a.depth b.depth + 1 + 2; omega)⟩
      · refine ⟨_, rfl, _, rfl, _, _, rfl, rfl, _, rfl, _, rfl, (by show 1 ≤ sizeLine; decide), fun tk2 nk2 => ?_⟩
        have kn2 : Kt [] Hp2 (upd Hp2 tk2 (.tup [va])) := Kt.new nk2
        refine cat_tup (kn2.tup ((kp2.nil (S := [p])).tup hm')) upd_same (by show 2 ≤ sizeLine; decide) fun tm2 Hm2 km2 hm2 => ⟨SqT.of (km2.tup (kn2.tup ((kp2.nil (S := [p])).tup ht2))), ?_⟩
        have kc2 := kn2.trans km2
        have kk2 : Kt [p] H2 Hm2 := (kp2.nil (S := [p])).trans kc2.nil
        have ks2 := src_keep0 kc2 (src_keep0 kp2 hs')
        have kd2 := nm_keep0 kc2 (nm_keep0 kp2 hn')
        have kr2 := rep_keep kc2 (rep_keep kp2 ra2)
        have rb3 := rep_keep kk2 rb2
        have ht3 := kk2.tup ht2
        have h13 := kk2.tup h1'
        change forU _ _ _ _ _ [_, _, _, _, _, _, _, _, _] _
        refine ⟨_, rfl, _, rfl, _, _, _, _, true, rfl, .ty _, ty rb3, kit_ty (by decide +kernel), _, rfl, iteT ⟨_, rfl, vb, b, rfl, rb3, hda.2, fun Hp5 kp5 => ?_⟩⟩
        refine ⟨_, rfl, _, _, rfl, rfl, _, rfl, ite2 (fun c1 => ⟨_, rfl, _, _, rfl, rfl, _, rfl, ite2 (fun c2 => ?_) (fun c2 => ?_)⟩) (fun c1 => ⟨_, rfl, iteF ?_⟩)⟩
        · refine ⟨_, rfl, _, rfl, _, rfl, _, rfl, pe, _, _, _, rfl, rfl, SqT.of (kp5.tup (h13)), atI_nat (j := 0) rfl, _, _, rfl, .inr ⟨u, rfl, rfl⟩, fun Hi5 ki5 => ⟨_, rfl, p, d, vb, u.inner, nm, b, _, rfl, src_keep0 (kp5.trans ki5) ks2, nm_keep0 (kp5.trans ki5) kd2, ho, rep_keep (kp5.trans ki5) rb3, htb, hda.2, fun vc5 Hc5 ec5 kc05 sc05 rc05 tc05 dc05 => ?_⟩⟩
          have nc05 := nm_keep kc05 (intl1 (src_keep0 (kp5.trans ki5) ks2)) (nm_keep0 (kp5.trans ki5) kd2)
          refine ⟨_, rfl, _, rfl, _, _, rfl, rfl, _, rfl, _, rfl, (by show 1 ≤ sizeLine; decide), fun tk5 nk5 => ?_⟩
          have kn5 : Kt [] Hc5 (upd Hc5 tk5 (.tup [vc5])) := Kt.new nk5
          refine cat_tup (kn5.tup (((kp5.trans ki5).nil.trans kc05).tup hm2)) upd_same (by show 3 ≤ sizeLine; decide) fun tm5 Hm5 km5 hm5 => ⟨SqT.of (km5.tup (kn5.tup (((kp5.trans ki5).nil.trans kc05).tup ht3))), ?_⟩
          have kc5 := kn5.trans km5
          have kk5 : Kt [p] Hm2 Hm5 := ((kp5.trans ki5).nil.trans kc05).trans kc5.nil
          have ks5 := src_keep0 kc5 (sc05)
          have kd5 := nm_keep0 kc5 (nc05)
          have kr5 := rep_keep kc5 (rc05)
          have dd := (by omega : a.depth ≤ a.depth + 2)
          have dd2 := dc05
          exact ⟨_, rfl, q _ _ (.bin u a ec5) (k12.nil.trans (kk2.trans kk5)) ks5 ⟨tm5, va, vc5, rfl, hm5, rep_keep kk5 kr2, kr5⟩ (.bin hta tc05) (by show max a.depth ec5.depth + 1 ≤ max a.depth b.depth + 1 + 2; omega)⟩
        · refine ⟨_, rfl, _, rfl, _, _, rfl, rfl, _, rfl, _, rfl, (by show 1 ≤ sizeLine; decide), fun tk5 nk5 => ?_⟩
          have kn5 : Kt [] Hp5 (upd Hp5 tk5 (.tup [vb])) := Kt.new nk5
          refine cat_tup (kn5.tup ((kp5.nil (S := [p])).tup hm2)) upd_same (by show 3 ≤ sizeLine; decide) fun tm5 Hm5 km5 hm5 => ⟨SqT.of (km5.tup (kn5.tup ((kp5.nil (S := [p])).tup ht3))), ?_⟩
          have kc5 := kn5.trans km5
          have kk5 : Kt [p] Hm2 Hm5 := (kp5.nil (S := [p])).trans kc5.nil
          have ks5 := src_keep0 kc5 (src_keep0 kp5 ks2)
          have kd5 := nm_keep0 kc5 (nm_keep0 kp5 kd2)
          have kr5 := rep_keep kc5 (rep_keep kp5 rb3)
          have dd := (by omega : a.depth ≤ a.depth + 2)
          have dd2 := (by omega : b.depth ≤ b.depth + 2)
          exact ⟨_, rfl, q _ _ (.bin u a b) (k12.nil.trans (kk2.trans kk5)) ks5 ⟨tm5, va, vb, rfl, hm5, rep_keep kk5 kr2, kr5⟩ (.bin hta htb) (by show max a.depth b.depth + 1 ≤ max a.depth b.depth + 1 + 2; omega)⟩
        · refine ⟨_, rfl, _, rfl, _, _, rfl, rfl, _, rfl, _, rfl, (by show 1 ≤ sizeLine; decide), fun tk5 nk5 => ?_⟩
          have kn5 : Kt [] Hp5 (upd Hp5 tk5 (.tup [vb])) := Kt.new nk5
          refine cat_tup (kn5.tup ((kp5.nil (S := [p])).tup hm2)) upd_same (by show 3 ≤ sizeLine; decide) fun tm5 Hm5 km5 hm5 => ⟨SqT.of (km5.tup (kn5.tup ((kp5.nil (S := [p])).tup ht3))), ?_⟩
          have kc5 := kn5.trans km5
          have kk5 : Kt [p] Hm2 Hm5 := (kp5.nil (S := [p])).trans kc5.nil
          have ks5 := src_keep0 kc5 (src_keep0 kp5 ks2)
          have kd5 := nm_keep0 kc5 (nm_keep0 kp5 kd2)
          have kr5 := rep_keep kc5 (rep_keep kp5 rb3)
          have dd := (by omega : a.depth ≤ a.depth + 2)
          have dd2 := (by omega : b.depth ≤ b.depth + 2)
          exact ⟨_, rfl, q _ _ (.bin u a b) (k12.nil.trans (kk2.trans kk5)) ks5 ⟨tm5, va, vb, rfl, hm5, rep_keep kk5 kr2, kr5⟩ (.bin hta htb) (by show max a.depth b.depth + 1 ≤ max a.depth b.depth + 1 + 2; omega)⟩
end
end K80


set_option Elab.async false
set_option linter.all false
set_option maxRecDepth 100000
set_option maxHeartbeats 4000000
namespace K80
open PySem PySem.Spec PyProof.Rows L2 Lw
theorem eqV_str {x y : Str} : eqV (.str y) (.str x) = decide (y = x) := rfl
theorem inV_strs {x : Str} : ∀ xs : List Str, inV (.str x) (xs.map V.str) = decide (x ∈ xs)
  | [] => by simp [inV]
  | y :: r => by
    have ih := inV_strs (x := x) r
    show (eqV (.str y) (.str x) || inV (.str x) (r.map V.str)) = _
    rw [ih, eqV_str]
    by_cases h : y = x
    · simp [h]
    · by_cases h2 : x ∈ r
      · simp [h2]
      · simp [h, h2, Ne.symm h]
theorem flat_strs : ∀ xs : List Str, (xs.map V.str).all flatV = true
  | [] => rfl
  | _ :: r => flat_strs r
section
variable {P : Program} {w : World} {K : PySem.W.Frag} {mg : Str → Option Value} {base : Heap} (T : Facts K mg)
include T
def sp_exch (n : Nat) : Sp := fun vs H Q _ => ∃ (d : Addr) (v : V) (s : So) (nm : So → List Str) (e : Ex), vs = [.ref d, v] ∧ NmAt H d nm ∧ NmOk nm ∧ Rep H v e ∧ Wt nm s e ∧ e.depth < n ∧
  ∀ v' H' e', Kt [] H H' → Rep H' v' e' → Wt nm s e' → e'.depth ≤ e.depth → Q v' H'
theorem ok_exch : ∀ n : Nat, Df P w K mg base (n + 1) "_law_exchanged" ["names", "expression"] (sp_exch n)
  | 0 => Df.none (T.d__law_exchanged) (fun _ _ _ _ _ _ us hl => match us, hl with | [_, _], _ => rfl) fun vs H Q E ⟨_, _, _, _, _, _, _, _, _, _, h, _⟩ => absurd h (Nat.not_lt_zero _)
  | n + 1 => by
    have D__law_exchanged := ok_exch n
    refine Lw.Df.mk (T.d__law_exchanged) sc__law_exchanged (fun _ _ _ _ _ _ us hl => match us, hl with | [_, _], _ => rfl) (fun vs H Q E h => ?_) (fun f cdv A outer s H vs Q E hr h => ?_)
    · obtain ⟨_, _, _, _, _, rfl, _⟩ := h
      rfl
    have sc := sc__law_exchanged
    obtain ⟨d, v, so, nm, e, rfl, hn, ho, r, ht, hd, q⟩ := h
    refine ⟨_, (pss_cons (ps_if (pt_cmpR op_eq (pe_ix ix_tup (pv 1) pe_int (fun _ _ => rfl)) pe_str (nomark _))
(pss_one (ps_for PassesOwn.never rfl (pi_list (pe_lst (pa_cons pe_str (pa_cons pe_str (pa_cons pe_str pa_nil))))) (pg_name (i := 2) sc.nd rfl (by first | exact Or.inl rfl | exact Or.inr rfl))
(pss_cons (ps_set (i := 3) sc.nd rfl (by first | exact Or.inl rfl | exact Or.inr rfl) (pe_dget (hu_of hr) (pv 0) (pv 2) (fun _ _ => rfl)))
(pss_one (ps_if (pt_cmpR op_in_seq (pe_ix ix_tup (pv 1) pe_int (fun _ _ => rfl)) (pv 3) (by rfl))
(pss_one (ps_ret (pe_tup (pa_cons pe_str (pa_cons (pe_ix ix_list (pv 3) (pe_op op_mod (pe_callTy call_int1 (by rfl) T.z_int boot_int (pa_cons (pe_op op_add (pe_bm PySem.F.plainAttrs_list PySem.F.slot_list_index PySem.F.type_list_index mt_index (pv 3) (pa_cons (pe_ix ix_tup (pv 1) pe_int (fun _ _ => rfl)) pa_nil)) pe_int) pa_nil)) (pe_callB call_len_seq (by rfl) T.z_len boot_len (pa_cons (pv 3) pa_nil))) (fun _ _ => rfl)) pa_nil)))))
pss_nil)))))
pss_nil)
(pss_cons (ps_set (i := 4) sc.nd rfl (by first | exact Or.inl rfl | exact Or.inr rfl) (pe_slice sl_tupA (pv 1) po_none (po_some pe_int)))
(pss_cons (ps_for PassesOwn.never rfl (pi_tup (pe_slice sl_tupA (pv 1) (po_some pe_int) po_none)) (pg_name (i := 5) sc.nd rfl (by first | exact Or.inl rfl | exact Or.inr rfl))
(pss_cons (ps_set (i := 6) sc.nd rfl (by first | exact Or.inl rfl | exact Or.inr rfl) (pv 5))
(pss_cons (ps_if (pt_val (pe_callB call_isi (by rfl) T.z_isinstance boot_isinstance (pa_cons (pv 5) (pa_cons (pe_bltn (v := .ty "tuple") (by rfl) T.z_tuple boot_tuple rfl) pa_nil))))
(pss_one (ps_set (i := 6) sc.nd rfl (by first | exact Or.inl rfl | exact Or.inr rfl) (Lw.pe_d D__law_exchanged (hr.mono (by omega)) (pa_cons (pv 0) (pa_cons (pv 5) pa_nil)))))
pss_nil)
(pss_one (ps_set (i := 4) sc.nd rfl (by first | exact Or.inl rfl | exact Or.inr rfl) (pe_op op_catA (pv 4) (pe_tup (pa_cons (pv 6) pa_nil))))))))
(pss_one (ps_ret (pv 4)))))), ?_⟩
    have ty : ∀ {v : V} {a : Ex} {H1 : Hp}, Rep H1 v a → TyX K H1 v (.type "tuple") := fun r => (rep_is r).elim fun _ z => z.2
    cases e with
    | null =>
      obtain ⟨pe, rfl, h1⟩ := r
      refine ⟨_, rfl, pe, _, _, _, rfl, rfl, SqT.of h1, atI_nat (j := 0) rfl, rfl, _, rfl, iteB false (by decide +kernel) (iteF ?_)⟩
      refine tsl_head ⟨_, rfl, pe, _, _, rfl, h1, fun m H1 k1 hm => ?_⟩ var_mono
      refine tsl_tail ⟨_, rfl, pe, _, _, rfl, k1.tup h1, fun t H2 k2 ht2 => ⟨t, rfl, ⟨_, SqT.of ht2⟩, for_tupU (SqT.of ht2) ?_⟩⟩ var_mono
      have k12 := k1.trans k2
      have h1' := k12.tup h1
      have hm' := k2.tup hm
      have hn' := nm_keep0 k12 hn
      exact ⟨_, rfl, q _ _ .null k12 ⟨m, rfl, hm'⟩ ht (Nat.le_refl _)⟩
    | num i =>
      obtain ⟨pe, rfl, h1⟩ := r
      refine ⟨_, rfl, pe, _, _, _, rfl, rfl, SqT.of h1, atI_nat (j := 0) rfl, rfl, _, rfl, iteB false (by decide +kernel) (iteF ?_)⟩
      refine tsl_head ⟨_, rfl, pe, _, _, rfl, h1, fun m H1 k1 hm => ?_⟩ var_mono
      refine tsl_tail ⟨_, rfl, pe, _, _, rfl, k1.tup h1, fun t H2 k2 ht2 => ⟨t, rfl, ⟨_, SqT.of ht2⟩, for_tupU (SqT.of ht2) ?_⟩⟩ var_mono
      have k12 := k1.trans k2
      have h1' := k12.tup h1
      have hm' := k2.tup hm
      have hn' := nm_keep0 k12 hn
      change forU _ _ _ _ _ [_, _, _, _, _, _, _] _
      refine ⟨_, rfl, _, rfl, _, _, _, _, false, rfl, .ty _, .base (.int _), kit_ty (by decide +kernel), _, rfl, iteF ?_⟩
      refine ⟨_, rfl, _, rfl, (by show 1 ≤ sizeLine; decide), fun t3 n3 => ?_⟩
      have k3 : Kt [] H2 (upd H2 t3 (.tup [.int i])) := Kt.new n3
      refine cat_tup (k3.tup hm') upd_same (by show 2 ≤ sizeLine; decide) fun t4 H4 k4 h4 => ⟨SqT.of (k4.tup (k3.tup ht2)), _, rfl, ?_⟩
      have kk := k12.trans (k3.trans k4)
      exact q _ _ (.num i) kk ⟨t4, rfl, h4⟩ ht (Nat.le_refl _)
    | flag b =>
      obtain ⟨pe, rfl, h1⟩ := r
      refine ⟨_, rfl, pe, _, _, _, rfl, rfl, SqT.of h1, atI_nat (j := 0) rfl, rfl, _, rfl, iteB false (by decide +kernel) (iteF ?_)⟩
      refine tsl_head ⟨_, rfl, pe, _, _, rfl, h1, fun m H1 k1 hm => ?_⟩ var_mono
      refine tsl_tail ⟨_, rfl, pe, _, _, rfl, k1.tup h1, fun t H2 k2 ht2 => ⟨t, rfl, ⟨_, SqT.of ht2⟩, for_tupU (SqT.of ht2) ?_⟩⟩ var_mono
      have k12 := k1.trans k2
      have h1' := k12.tup h1
      have hm' := k2.tup hm
      have hn' := nm_keep0 k12 hn
      change forU _ _ _ _ _ [_, _, _, _, _, _, _] _
      refine ⟨_, rfl, _, rfl, _, _, _, _, false, rfl, .ty _, .base (.bl _), kit_ty (by decide +kernel), _, rfl, iteF ?_⟩
      refine ⟨_, rfl, _, rfl, (by show 1 ≤ sizeLine; decide), fun t3 n3 => ?_⟩
      have k3 : Kt [] H2 (upd H2 t3 (.tup [.bl b])) := Kt.new n3
      refine cat_tup (k3.tup hm') upd_same (by show 2 ≤ sizeLine; decide) fun t4 H4 k4 h4 => ⟨SqT.of (k4.tup (k3.tup ht2)), _, rfl, ?_⟩
      have kk := k12.trans (k3.trans k4)
      exact q _ _ (.flag b) kk ⟨t4, rfl, h4⟩ ht (Nat.le_refl _)
    | name x =>
      obtain ⟨pe, rfl, h1⟩ := r
      have hx : x ∈ nm so := by cases ht; assumption
      refine ⟨_, rfl, pe, _, _, _, rfl, rfl, SqT.of h1, atI_nat (j := 0) rfl, rfl, _, rfl, iteB true (by decide +kernel) (iteT ?_)⟩
      refine ⟨(by decide), fun L nL => ⟨L, rfl, ⟨_, SqL.of upd_same⟩, for_listU (SqL.of upd_same) ?_⟩⟩
      have k1 : Kt [] H (upd H L (.lst [.str "num", .str "flag", .str "ref"])) := Kt.new nL
      have gL : (upd H L (.lst [.str "num", .str "flag", .str "ref"])) L = some (.lst [.str "num", .str "flag", .str "ref"]) := upd_same
      generalize upd H L (.lst [.str "num", .str "flag", .str "ref"]) = H1 at k1 gL ⊢
      have n1 := nm_keep0 k1 hn
      have h2 := k1.tup h1
      obtain ⟨lnum, dgnum, hlnum⟩ := nm_get n1 .num
      refine ⟨_, rfl, _, rfl, d, _, rfl, dgnum, ?_⟩
      refine ⟨_, rfl, pe, _, _, _, rfl, rfl, SqT.of h2, atI_nat (j := 1) rfl, _, rfl, lnum, _, rfl, .inl (SqL.of hlnum), rfl, flat_strs _, _, rfl, iteE (decide (x ∈ nm .num)) (inV_strs _) (ite2 (fun c => ?_) (fun c => ⟨SqL.of gL, ?_⟩))⟩
      · have hx2 := of_decide_eq_true c
        have es := ho.apart _ _ _ hx hx2
        subst es
        obtain ⟨j, hj, ej⟩ := List.mem_iff_getElem.mp hx2
        have h3 := ho.three .num
        have gj : ((nm .num).map V.str)[j]? = some (.str x) := by rw [List.getElem?_map, List.getElem?_eq_getElem hj, ej]; rfl
        refine ⟨_, rfl, _, rfl, .inl ⟨rfl, _, SqL.of hlnum⟩, _, rfl, pe, _, _, _, rfl, rfl, SqT.of h2, atI_nat (j := 1) rfl, lnum, _, _, j, _, rfl, rfl, SqL.of hlnum, rfl, flat_strs _, gj, (by rw [eqV_str]; exact decide_eq_true rfl), fun m z hm hz => ?_, ?_⟩
        · rw [List.getElem?_map, List.getElem?_eq_getElem (by omega)] at hz
          cases hz
          rw [eqV_str]
          refine decide_eq_false fun z => ?_
          have e2 := (List.getElem_inj (ho.nodup .num)).mp (z.trans ej.symm)
          omega
        · refine ⟨_, _, rfl, rfl, .inl ⟨_, rfl, _, rfl, lnum, _, rfl, .inl (SqL.of hlnum), _, _, rfl, rfl, ?_⟩⟩
          rw [List.length_map, h3]
          have hb : (((j : Nat) : Int) + 1) % ((3 : Nat) : Int) = (((j + 1) % 3 : Nat) : Int) := by omega
          have hb2 : (j + 1) % 3 < (nm .num).length := by omega
          refine ⟨(by show (0 : Int) < 3; decide), lnum, _, _, .str ((nm .num)[(j + 1) % 3]), rfl, rfl, SqL.of hlnum, ?_, (by show 2 ≤ sizeLine; decide), fun t nt => ?_⟩
          · rw [hb]
            exact atI_nat (by rw [List.getElem?_map, List.getElem?_eq_getElem hb2]; rfl)
          · exact q _ _ (.name ((nm .num)[(j + 1) % 3])) (k1.trans (Kt.new nt)) ⟨t, rfl, upd_same⟩ (.name (List.getElem_mem hb2)) (Nat.le_refl _)
      obtain ⟨lflag, dgflag, hlflag⟩ := nm_get n1 .flag
      refine ⟨_, rfl, _, rfl, d, _, rfl, dgflag, ?_⟩
      refine ⟨_, rfl, pe, _, _, _, rfl, rfl, SqT.of h2, atI_nat (j := 1) rfl, _, rfl, lflag, _, rfl, .inl (SqL.of hlflag), rfl, flat_strs _, _, rfl, iteE (decide (x ∈ nm .flag)) (inV_strs _) (ite2 (fun c => ?_) (fun c => ⟨SqL.of gL, ?_⟩))⟩
      · have hx2 := of_decide_eq_true c
        have es := ho.apart _ _ _ hx hx2
        subst es
        obtain ⟨j, hj, ej⟩ := List.mem_iff_getElem.mp hx2
        have h3 := ho.three .flag
        have gj : ((nm .flag).map V.str)[j]? = some (.str x) := by rw [List.getElem?_map, List.getElem?_eq_getElem hj, ej]; rfl
        refine ⟨_, rfl, _, rfl, .inl ⟨rfl, _, SqL.of hlflag⟩, _, rfl, pe, _, _, _, rfl, rfl, SqT.of h2, atI_nat (j := 1) rfl, lflag, _, _, j, _, rfl, rfl, SqL.of hlflag, rfl, flat_strs _, gj, (by rw [eqV_str]; exact decide_eq_true rfl), fun m z hm hz => ?_, ?_⟩
        · rw [List.getElem?_map, List.getElem?_eq_getElem (by omega)] at hz
          cases hz
          rw [eqV_str]
          refine decide_eq_false fun z => ?_
          have e2 := (List.getElem_inj (ho.nodup .flag)).mp (z.trans ej.symm)
          omega
        · refine ⟨_, _, rfl, rfl, .inl ⟨_, rfl, _, rfl, lflag, _, rfl, .inl (SqL.of hlflag), _, _, rfl, rfl, ?_⟩⟩
          rw [List.length_map, h3]
          have hb : (((j : Nat) : Int) + 1) % ((3 : Nat) : Int) = (((j + 1) % 3 : Nat) : Int) := by omega
          have hb2 : (j + 1) % 3 < (nm .flag).length := by omega
          refine ⟨(by show (0 : Int) < 3; decide), lflag, _, _, .str ((nm .flag)[(j + 1) % 3]), rfl, rfl, SqL.of hlflag, ?_, (by show 2 ≤ sizeLine; decide), fun t nt => ?_⟩
          · rw [hb]
            exact atI_nat (by rw [List.getElem?_map, List.getElem?_eq_getElem hb2]; rfl)
          · exact q _ _ (.name ((nm .flag)[(j + 1) % 3])) (k1.trans (Kt.new nt)) ⟨t, rfl, upd_same⟩ (.name (List.getElem_mem hb2)) (Nat.le_refl _)
      obtain ⟨lref, dgref, hlref⟩ := nm_get n1 .ref
      refine ⟨_, rfl, _, rfl, d, _, rfl, dgref, ?_⟩
      refine ⟨_, rfl, pe, _, _, _, rfl, rfl, SqT.of h2, atI_nat (j := 1) rfl, _, rfl, lref, _, rfl, .inl (SqL.of hlref), rfl, flat_strs _, _, rfl, iteE (decide (x ∈ nm .ref)) (inV_strs _) (ite2 (fun c => ?_) (fun c => ⟨SqL.of gL, ?_⟩))⟩
      · have hx2 := of_decide_eq_true c
        have es := ho.apart _ _ _ hx hx2
        subst es
        obtain ⟨j, hj, ej⟩ := List.mem_iff_getElem.mp hx2
        have h3 := ho.three .ref
        have gj : ((nm .ref).map V.str)[j]? = some (.str x) := by rw [List.getElem?_map, List.getElem?_eq_getElem hj, ej]; rfl
        refine ⟨_, rfl, _, rfl, .inl ⟨rfl, _, SqL.of hlref⟩, _, rfl, pe, _, _, _, rfl, rfl, SqT.of h2, atI_nat (j := 1) rfl, lref, _, _, j, _, rfl, rfl, SqL.of hlref, rfl, flat_strs _, gj, (by rw [eqV_str]; exact decide_eq_true rfl), fun m z hm hz => ?_, ?_⟩
        · rw [List.getElem?_map, List.getElem?_eq_getElem (by omega)] at hz
          cases hz
          rw [eqV_str]
          refine decide_eq_false fun z => ?_
          have e2 := (List.getElem_inj (ho.nodup .ref)).mp (z.trans ej.symm)
          omega
        · refine ⟨_, _, rfl, rfl, .inl ⟨_, rfl, _, rfl, lref, _, rfl, .inl (SqL.of hlref), _, _, rfl, rfl, ?_⟩⟩
          rw [List.length_map, h3]
          have hb : (((j : Nat) : Int) + 1) % ((3 : Nat) : Int) = (((j + 1) % 3 : Nat) : Int) := by omega
          have hb2 : (j + 1) % 3 < (nm .ref).length := by omega
          refine ⟨(by show (0 : Int) < 3; decide), lref, _, _, .str ((nm .ref)[(j + 1) % 3]), rfl, rfl, SqL.of hlref, ?_, (by show 2 ≤ sizeLine; decide), fun t nt => ?_⟩
          · rw [hb]
            exact atI_nat (by rw [List.getElem?_map, List.getElem?_eq_getElem hb2]; rfl)
          · exact q _ _ (.name ((nm .ref)[(j + 1) % 3])) (k1.trans (Kt.new nt)) ⟨t, rfl, upd_same⟩ (.name (List.getElem_mem hb2)) (Nat.le_refl _)
      exfalso
      cases so <;> simp_all
    | un a =>
      obtain ⟨pe, va, rfl, h1, ra⟩ := r
      obtain ⟨rfl, hta⟩ := wt_un ht
      have hda : a.depth < n := Nat.lt_of_succ_lt_succ hd
      refine ⟨_, rfl, pe, _, _, _, rfl, rfl, SqT.of h1, atI_nat (j := 0) rfl, rfl, _, rfl, iteB false (by decide +kernel) (iteF ?_)⟩
      refine tsl_head ⟨_, rfl, pe, _, _, rfl, h1, fun m H1 k1 hm => ?_⟩ var_mono
      refine tsl_tail ⟨_, rfl, pe, _, _, rfl, k1.tup h1, fun t H2 k2 ht2 => ⟨t, rfl, ⟨_, SqT.of ht2⟩, for_tupU (SqT.of ht2) ?_⟩⟩ var_mono
      have k12 := k1.trans k2
      have h1' := k12.tup h1
      have hm' := k2.tup hm
      have hn' := nm_keep0 k12 hn
      have ra2 := rep_keep k12 ra
      change forU _ _ _ _ _ [_, _, _, _, _, _, _] _
      refine ⟨_, rfl, _, rfl, _, _, _, _, true, rfl, .ty _, ty ra2, kit_ty (by decide +kernel), _, rfl, iteT ⟨_, rfl, _, rfl, d, va, _, nm, a, rfl, hn', ho, ra2, hta, hda, fun v1 Hp1 e1 kp1 r1 t1 d1 => ?_⟩⟩
      refine ⟨_, rfl, _, rfl, (by show 1 ≤ sizeLine; decide), fun tk1 nk1 => ?_⟩
      have kn1 : Kt [] Hp1 (upd Hp1 tk1 (.tup [v1])) := Kt.new nk1
      refine cat_tup (kn1.tup (kp1.tup hm')) upd_same (by show 2 ≤ sizeLine; decide) fun tm1 Hm1 km1 hm1 => ⟨SqT.of (km1.tup (kn1.tup (kp1.tup ht2))), ?_⟩
      have kc1 := kn1.trans km1
      have kk1 := kp1.trans kc1
      have kr1 := rep_keep kc1 r1
      exact ⟨_, rfl, q _ _ (.un e1) (k12.trans kk1) ⟨tm1, v1, rfl, hm1, kr1⟩ (.un t1) (Nat.succ_le_succ d1)⟩
    | bin u a b =>
      obtain ⟨pe, va, vb, rfl, h1, ra, rb⟩ := r
      obtain ⟨rfl, hta, htb⟩ := wt_bin ht
      have hda : a.depth < n ∧ b.depth < n := by
        have : max a.depth b.depth + 1 < n + 1 := hd
        omega
      refine ⟨_, rfl, pe, _, _, _, rfl, rfl, SqT.of h1, atI_nat (j := 0) rfl, rfl, _, rfl, iteB false (by cases u <;> decide +kernel) (iteF ?_)⟩
      refine tsl_head ⟨_, rfl, pe, _, _, rfl, h1, fun m H1 k1 hm => ?_⟩ var_mono
      refine tsl_tail ⟨_, rfl, pe, _, _, rfl, k1.tup h1, fun t H2 k2 ht2 => ⟨t, rfl, ⟨_, SqT.of ht2⟩, for_tupU (SqT.of ht2) ?_⟩⟩ var_mono
      have k12 := k1.trans k2
      have h1' := k12.tup h1
      have hm' := k2.tup hm
      have hn' := nm_keep0 k12 hn
      have ra2 := rep_keep k12 ra
      have rb2 := rep_keep k12 rb
      change forU _ _ _ _ _ [_, _, _, _, _, _, _] _
      refine ⟨_, rfl, _, rfl, _, _, _, _, true, rfl, .ty _, ty ra2, kit_ty (by decide +kernel), _, rfl, iteT ⟨_, rfl, _, rfl, d, va, _, nm, a, rfl, hn', ho, ra2, hta, hda.1, fun v1 Hp1 e1 kp1 r1 t1 d1 => ?_⟩⟩
      refine ⟨_, rfl, _, rfl, (by show 1 ≤ sizeLine; decide), fun tk1 nk1 => ?_⟩
      have kn1 : Kt [] Hp1 (upd Hp1 tk1 (.tup [v1])) := Kt.new nk1
      refine cat_tup (kn1.tup (kp1.tup hm')) upd_same (by show 2 ≤ sizeLine; decide) fun tm1 Hm1 km1 hm1 => ⟨SqT.of (km1.tup (kn1.tup (kp1.tup ht2))), ?_⟩
      have kc1 := kn1.trans km1
      have kk1 := kp1.trans kc1
      have kr1 := rep_keep kc1 r1
      have rb3 := rep_keep kk1 rb2
      have ht3 := kk1.tup ht2
      have hn3 := nm_keep0 kk1 hn'
      change forU _ _ _ _ _ [_, _, _, _, _, _, _] _
      refine ⟨_, rfl, _, rfl, _, _, _, _, true, rfl, .ty _, ty rb3, kit_ty (by decide +kernel), _, rfl, iteT ⟨_, rfl, _, rfl, d, vb, _, nm, b, rfl, hn3, ho, rb3, htb, hda.2, fun v2 Hp2 e2 kp2 r2 t2 d2 => ?_⟩⟩
      refine ⟨_, rfl, _, rfl, (by show 1 ≤ sizeLine; decide), fun tk2 nk2 => ?_⟩
      have kn2 : Kt [] Hp2 (upd Hp2 tk2 (.tup [v2])) := Kt.new nk2
      refine cat_tup (kn2.tup (kp2.tup hm1)) upd_same (by show 3 ≤ sizeLine; decide) fun tm2 Hm2 km2 hm2 => ⟨SqT.of (km2.tup (kn2.tup (kp2.tup ht3))), ?_⟩
      have kc2 := kn2.trans km2
      have kk2 := kp2.trans kc2
      have kr2 := rep_keep kc2 r2
      exact ⟨_, rfl, q _ _ (.bin u e1 e2) (k12.trans (kk1.trans kk2)) ⟨tm2, v1, v2, rfl, hm2, rep_keep kk2 kr1, kr2⟩ (.bin t1 t2) (by show max e1.depth e2.depth + 1 ≤ max a.depth b.depth + 1; omega)⟩
end
end K80


set_option Elab.async false
set_option linter.all false
set_option maxRecDepth 100000
set_option maxHeartbeats 4000000
namespace K80
open PySem PySem.Spec PyProof.Rows L2 Lw
theorem size_pos0 (e : Ex) : 1 ≤ e.size := by cases e <;> (unfold Ex.size; omega)
theorem size_pos (e : Ex) : (1 : Int) ≤ (e.size : Int) := by have := size_pos0 e; omega
theorem size_le : ∀ e : Ex, e.size + 1 ≤ 2 ^ (e.depth + 1)
  | .null => (by decide : 1 + 1 ≤ 2 ^ (0 + 1))
  | .name _ => (by decide : 1 + 1 ≤ 2 ^ (0 + 1))
  | .num _ => (by decide : 1 + 1 ≤ 2 ^ (0 + 1))
  | .flag _ => (by decide : 1 + 1 ≤ 2 ^ (0 + 1))
  | .un a => by
    have h := size_le a
    have e : 2 ^ (a.depth + 1 + 1) = 2 ^ (a.depth + 1) * 2 := Nat.pow_succ ..
    show 1 + a.size + 1 ≤ 2 ^ (a.depth + 1 + 1)
    omega
  | .bin w a b => by
    have h1 := size_le a
    have h2 := size_le b
    have e : 2 ^ (max a.depth b.depth + 1 + 1) = 2 ^ (max a.depth b.depth + 1) * 2 := Nat.pow_succ ..
    have e1 : 2 ^ (a.depth + 1) ≤ 2 ^ (max a.depth b.depth + 1) := pow_le (by omega)
    have e2 : 2 ^ (b.depth + 1) ≤ 2 ^ (max a.depth b.depth + 1) := pow_le (by omega)
    show 1 + (a.size + b.size) + 1 ≤ 2 ^ (max a.depth b.depth + 1 + 1)
    omega
theorem size_lt (e : Ex) (h : e.depth ≤ 6) : (e.size : Int) < 2 ^ 60 := by
  have h1 := size_le e
  have e1 : 2 ^ (e.depth + 1) ≤ 2 ^ 7 := pow_le (by omega)
  have e2 : (2 : Nat) ^ 7 = 128 := by decide
  omega
theorem bb : ∀ a b : Bool, -(2 ^ 62) ≤ ((if a = true then (1 : Int) else 0) + (if b = true then 1 else 0)) ∧ ((if a = true then (1 : Int) else 0) + (if b = true then 1 else 0)) < 2 ^ 62 := by decide
section
variable {P : Program} {w : World} {K : PySem.W.Frag} {mg : Str → Option Value} {base : Heap} (T : Facts K mg)
include T
def sp_two : Sp := fun vs H Q _ => ∃ (p d : Addr) (s : So) (nm : So → List Str) (large : Bool), vs = [.ref p, .ref d, .str s.str, .bl large] ∧ Src H p ∧ NmAt H d nm ∧ NmOk nm ∧
  ∀ t H' v1 v2 e f, Kt [p] H H' → Src H' p → H' t = some (.tup [v1, v2]) → Rep H' v1 e → Rep H' v2 f → Wt nm s e → Wt nm s f → e.depth ≤ 6 → f.depth ≤ 6 → Q (.ref t) H'
theorem ok_two : Df P w K mg base 15 "_law_two" ["source", "names", "sort", "large"] sp_two := by
  have D__law_one := ok_one2 (P := P) (w := w) (base := base) T
  have D__law_pick := ok_pick2 (P := P) (w := w) (base := base) T
  have D__law_drawn := ok_drawn (P := P) (w := w) (base := base) T 7
  have D__law_changed := ok_changed (P := P) (w := w) (base := base) T 7
  have D__law_exchanged := ok_exch (P := P) (w := w) (base := base) T 7
  have D__law_deep := ok_deep (P := P) (w := w) (base := base) T 9
  have D__law_parts := ok_parts (P := P) (w := w) (base := base) T 7
  refine Lw.Df.mk (T.d__law_two) sc__law_two (fun _ _ _ _ _ _ us hl => match us, hl with | [_, _, _, _], _ => rfl) (fun vs H Q E h => ?_) (fun f cdv A outer s H vs Q E hr h => ?_)
  · obtain ⟨_, _, _, _, _, rfl, _⟩ := h
    rfl
  have sc := sc__law_two
  obtain ⟨p, d, so, nm, large, rfl, hs, hn, ho, q⟩ := h
  refine ⟨_, (pss_cons (ps_set (i := 4) sc.nd rfl (by first | exact Or.inl rfl | exact Or.inr rfl) (pe_ix ix_list (pe_lst (pa_cons (Lw.pe_d D__law_one (hr.mono (by omega)) (pa_cons (pv 0) (pa_cons (pe_lst (pa_cons pe_int (pa_cons pe_int (pa_cons pe_int (pa_cons pe_int (pa_cons pe_int (pa_cons pe_int pa_nil))))))) pa_nil))) (pa_cons pe_int pa_nil))) (pe_callTy call_int1 (by rfl) T.z_int boot_int (pa_cons (pv 3) pa_nil)) (fun _ _ => rfl)))
(pss_cons (ps_set (i := 5) sc.nd rfl (by first | exact Or.inl rfl | exact Or.inr rfl) (Lw.pe_d D__law_drawn (hr.mono (by omega)) (pa_cons (pv 0) (pa_cons (pv 1) (pa_cons (pv 2) (pa_cons (pe_lst (pa_cons (pe_op op_add (pe_op op_add pe_int (Lw.pe_d D__law_pick (hr.mono (by omega)) (pa_cons (pv 0) (pa_cons pe_int pa_nil)))) (pe_op op_mul pe_int (pe_callTy call_int1 (by rfl) T.z_int boot_int (pa_cons (pv 3) pa_nil)))) pa_nil)) (pa_cons (pv 4) pa_nil)))))))
(pss_cons (ps_set (i := 6) sc.nd rfl (by first | exact Or.inl rfl | exact Or.inr rfl) (Lw.pe_d D__law_pick (hr.mono (by omega)) (pa_cons (pv 0) (pa_cons pe_int pa_nil))))
(pss_cons (ps_if (pt_cmpR op_eq (pv 6) pe_int (nomark _))
(pss_one (ps_ret (pe_tup (pa_cons (pv 5) (pa_cons (pv 5) pa_nil)))))
pss_nil)
(pss_cons (ps_if (pt_cmpR op_eq (pv 6) pe_int (nomark _))
(pss_one (ps_ret (pe_tup (pa_cons (pv 5) (pa_cons (Lw.pe_d D__law_drawn (hr.mono (by omega)) (pa_cons (pv 0) (pa_cons (pv 1) (pa_cons (pv 2) (pa_cons (pe_lst (pa_cons pe_int pa_nil)) (pa_cons pe_int pa_nil)))))) pa_nil)))))
pss_nil)
(pss_cons (ps_if (pt_cmpR op_eq (pv 6) pe_int (nomark _))
(pss_one (ps_ret (pe_tup (pa_cons (pv 5) (pa_cons (pe_tup (pa_cons pe_str (pa_cons (Lw.pe_d D__law_one (hr.mono (by omega)) (pa_cons (pv 0) (pa_cons (pe_dget (hu_of hr) (pv 1) (pv 2) (fun _ _ => rfl)) pa_nil))) pa_nil))) pa_nil)))))
pss_nil)
(pss_cons (ps_set (i := 7) sc.nd rfl (by first | exact Or.inl rfl | exact Or.inr rfl) (pv 5))
(pss_cons (ps_if (pt_cmpR op_lt (pv 6) pe_int (nomark _))
(pss_one (ps_set (i := 7) sc.nd rfl (by first | exact Or.inl rfl | exact Or.inr rfl) (Lw.pe_d D__law_exchanged (hr.mono (by omega)) (pa_cons (pv 1) (pa_cons (pv 5) pa_nil)))))
pss_nil)
(pss_cons (ps_for PassesOwn.never rfl (pi_range1 rfl T.z_range (pa_cons (pe_op op_add (pe_callTy call_int1 (by rfl) T.z_int boot_int (pa_cons (pe_cmpR op_gt (pv 6) pe_int (nomark _)) pa_nil)) (pe_callTy call_int1 (by rfl) T.z_int boot_int (pa_cons (pe_cmpR op_gt (pv 6) pe_int (nomark _)) pa_nil))) pa_nil)) (pg_name (i := 8) sc.nd rfl (by first | exact Or.inl rfl | exact Or.inr rfl))
(pss_cons (ps_set (i := 9) sc.nd rfl (by first | exact Or.inl rfl | exact Or.inr rfl) (Lw.pe_d D__law_changed (hr.mono (by omega)) (pa_cons (pv 0) (pa_cons (pv 1) (pa_cons (pv 7) (pa_cons (pv 2) (pa_cons (Lw.pe_d D__law_pick (hr.mono (by omega)) (pa_cons (pv 0) (pa_cons (Lw.pe_d D__law_parts (hr.mono (by omega)) (pa_cons (pv 7) pa_nil)) pa_nil))) pa_nil)))))))
(pss_one (ps_if (pt_cmpR op_lt (Lw.pe_d D__law_deep (hr.mono (by omega)) (pa_cons (pv 9) pa_nil)) pe_int (nomark _))
(pss_one (ps_set (i := 7) sc.nd rfl (by first | exact Or.inl rfl | exact Or.inr rfl) (pv 9)))
pss_nil))))
(pss_one (ps_ret (pe_tup (pa_cons (pv 5) (pa_cons (pv 7) pa_nil)))))))))))))), ?_⟩
  -- deep
  refine ⟨_, rfl, (by decide), fun l nl => ?_⟩
  have k1 : Kt [] H (upd H l (.lst [.int 1, .int 2, .int 2, .int 3, .int 3, .int 4])) := Kt.new nl
  have g1 : (upd H l (.lst [.int 1, .int 2, .int 2, .int 3, .int 3, .int 4])) l = some (.lst [.int 1, .int 2, .int 2, .int 3, .int 3, .int 4]) := upd_same
  have lp : l ≠ p := src_fresh hs nl
  generalize upd H l (.lst [.int 1, .int 2, .int 2, .int 3, .int 3, .int 4]) = H1 at k1 g1 ⊢
  have s1 := src_keep0 k1 hs
  refine ⟨p, l, _, rfl, s1, g1, (fun z => nomatch z), (by decide), lp, fun v0 H2 hv0 s2 k2 => ?_⟩
  obtain ⟨i0, rfl, i1, i2⟩ : ∃ i : Int, v0 = .int i ∧ 0 ≤ i ∧ i < 7 := by
    simp only [List.mem_cons, List.not_mem_nil, or_false] at hv0
    rcases hv0 with rfl | rfl | rfl | rfl | rfl | rfl <;> exact ⟨_, rfl, by decide, by decide⟩
  refine ⟨(by show 2 ≤ sizeLine; decide), fun l2 n2 => ?_⟩
  have k3 : Kt [] H2 (upd H2 l2 (.lst [.int i0, .int 6])) := Kt.new n2
  have g3 : (upd H2 l2 (.lst [.int i0, .int 6])) l2 = some (.lst [.int i0, .int 6]) := upd_same
  generalize upd H2 l2 (.lst [.int i0, .int 6]) = H3 at k3 g3 ⊢
  obtain ⟨dp, hat, dp0, dp1⟩ : ∃ dp : Int, atI [V.int i0, .int 6] (if large = true then 1 else 0) = some (.int dp) ∧ 0 ≤ dp ∧ dp < 7 := by
    cases large
    · exact ⟨i0, rfl, i1, i2⟩
    · exact ⟨6, rfl, by decide, by decide⟩
  refine ⟨_, rfl, .inr ⟨_, rfl, l2, _, _, _, rfl, rfl, SqL.of g3, hat, ?_⟩⟩
  have s3 := src_keep0 k3 s2
  have kk3 : Kt [p] H H3 := k1.nil.trans (k2.trans k3.nil)
  have n3 := nm_keep kk3 (intl1 hs) hn
  -- first
  refine ⟨_, rfl, _, rfl, _, rfl, _, rfl, p, 9, rfl, s3, by decide, by decide, fun r1 H4 _ _ s4 k4 => ?_⟩
  refine ⟨_, _, rfl, rfl, _, rfl, .inr ⟨_, rfl, _, _, rfl, rfl, .inl ⟨by decide, by decide⟩, _, _, rfl, rfl, (by show 1 ≤ sizeLine; decide), fun l3 nl3 => ⟨_, rfl, ?_⟩⟩⟩
  have s5 := src_keep0 (Kt.new (S := []) nl3 (o := .lst [.int (2 + r1 + 12 * (if large = true then 1 else 0))])) s4
  refine ⟨p, d, l3, so, nm, dp, rfl, src_keep0 (Kt.new nl3) s4, nm_keep0 (Kt.new nl3) (nm_keep k4 (intl1 s3) n3), ho, ⟨_, upd_same⟩, dp0, dp1, fun v1 H5 e k5 s5 _ r5 te d5 => ?_⟩
  have kk5 : Kt [p] H H5 := kk3.trans (k4.trans (((Kt.new nl3).trans k5).drop2 nl3))
  have n5 := nm_keep kk5 (intl1 hs) hn
  have de : e.depth ≤ 6 := by omega
  -- choice
  refine ⟨_, rfl, p, 9, rfl, s5, by decide, by decide, fun c H6 _ _ s6 k6 => ?_⟩
  have kk6 := kk5.trans k6
  have n6 := nm_keep k6 (intl1 s5) n5
  have r6 := rep_keep k6 r5
  change tSeq _ _ _ [_, _, _, _, _, _, _, _, _, _] _
  refine ⟨_, rfl, rfl, _, rfl, ite2 (fun c0 => ?_) (fun c0 => ?_)⟩
  · refine ⟨_, rfl, _, rfl, (by show 2 ≤ sizeLine; decide), fun t nt => ?_⟩
    exact q t _ v1 v1 e e (kk6.trans (Kt.new nt)) (src_keep0 (Kt.new nt) s6) upd_same (rep_keep (Kt.new (S := []) nt) r6) (rep_keep (Kt.new (S := []) nt) r6) te te de de
  refine ⟨_, rfl, rfl, _, rfl, ite2 (fun c1 => ?_) (fun c1 => ?_)⟩
  · refine ⟨_, rfl, _, rfl, _, rfl, _, rfl, (by decide), fun l4 nl4 => ?_⟩
    refine ⟨p, d, l4, so, nm, 4, rfl, src_keep0 (Kt.new nl4) s6, nm_keep0 (Kt.new nl4) n6, ho, ⟨_, upd_same⟩, by decide, by decide, fun v2 H7 f k7 s7 _ r7 tf df => ⟨(by show 2 ≤ sizeLine; decide), fun t nt => ?_⟩⟩
    have k8 : Kt [p] H6 H7 := ((Kt.new nl4).trans k7).drop2 nl4
    exact q t _ v1 v2 e f (kk6.trans (k8.trans (Kt.new nt))) (src_keep0 (Kt.new nt) s7) upd_same (rep_keep (k8.trans (Kt.new nt)) r6) (rep_keep (Kt.new (S := []) nt) r7) te tf de (by omega)
  refine ⟨_, rfl, rfl, _, rfl, ite2 (fun c2 => ?_) (fun c2 => ?_)⟩
  · obtain ⟨ln, dg, hl⟩ := nm_get n6 so
    have h3 := ho.three so
    refine ⟨_, rfl, _, rfl, _, rfl, _, rfl, d, _, rfl, dg, p, ln, _, rfl, s6, hl, (fun z => by have z2 := congrArg List.length z; rw [List.length_map, h3] at z2; cases z2), (by rw [List.length_map, h3]; decide), src_ne s6 hl (fun _ _ => (strs_no).elim id fun z => z.elim), fun v2 H7 hv s7 k7 => ?_⟩
    obtain ⟨x, hx, rfl⟩ := List.mem_map.mp hv
    refine ⟨(by show 2 ≤ sizeLine; decide), fun t0 nt0 => ⟨(by show 2 ≤ sizeLine; decide), fun t nt => ?_⟩⟩
    have ka : Kt [] H7 (upd H7 t0 (.tup [.str "name", .str x])) := Kt.new nt0
    have kb := ka.trans (Kt.new (o := .tup [v1, .ref t0]) nt)
    exact q t _ v1 (.ref t0) e (.name x) (kk6.trans (k7.trans kb.nil)) (src_keep0 kb s7) upd_same (rep_keep (k7.trans kb.nil) r6) ⟨t0, rfl, (Kt.new (S := []) nt).tup upd_same⟩ te (.name hx) de (Nat.zero_le _)
  -- other
  refine ⟨_, rfl, _, rfl, _, _, rfl, rfl, _, rfl, ite2 (fun c3 => ?_) (fun c3 => ?_)⟩
  · refine ⟨_, rfl, _, rfl, d, v1, so, nm, e, rfl, n6, ho, r6, te, (by omega), fun v2 H7 f k7 r7 tf df => ?_⟩
    change tSeq _ _ _ [_, _, _, _, _, _, _, _, _, _] _
    refine ⟨_, rfl, _, _, rfl, rfl, .inr ⟨_, rfl, _, rfl, _, _, rfl, rfl, .inr ⟨_, rfl, _, _, rfl, rfl, _, rfl, (bb _ _).1, (bb _ _).2, ?_⟩⟩⟩
    refine for_range (fun i σ Ha => ∃ vo fo z1 z2, σ = [some (.ref p), some (.ref d), some (.str so.str), some (.bl large), some (.int dp), some v1, some (.int c), some vo, z1, z2] ∧ Kt [p] H7 Ha ∧ Src Ha p ∧ Rep Ha vo fo ∧ Wt nm so fo ∧ fo.depth ≤ 6) ⟨v2, f, none, none, rfl, Kt.refl _, (src_keep0 k7 s6), r7, tf, (by omega)⟩ ?_ ?_
    · rintro i σ Ha hi ⟨vo, fo, z1, z2, rfl, ka, sa, ra, ta, da⟩
      have na := nm_keep ka (intl1 ((src_keep0 k7 s6))) (nm_keep0 k7 n6)
      refine ⟨_, rfl, _, rfl, _, rfl, _, rfl, _, rfl, _, rfl, vo, fo, rfl, ra, (by omega), fun H7 k7 => ⟨p, _, rfl, src_keep0 k7 sa, (size_pos fo), (size_lt fo da), fun rr H8 _ _ s8 k8 => ?_⟩⟩
      have n8 := nm_keep k8 (intl1 (src_keep0 k7 sa)) (nm_keep0 k7 na)
      refine ⟨p, d, vo, so, nm, fo, _, rfl, s8, n8, ho, rep_keep (k7.nil.trans k8) ra, ta, (by omega), fun v' H9 e' k9 s9 r9 t9 d9 => ?_⟩
      refine ⟨_, rfl, v', e', rfl, r9, (by omega), fun H10 k10 => ⟨_, _, rfl, rfl, _, rfl, ite2 (fun c9 => ?_) (fun c9 => ?_)⟩⟩
      · have d7 : e'.depth ≤ 6 := by
          have z := of_decide_eq_true c9
          omega
        exact ⟨_, rfl, v', e', _, _, rfl, ka.trans (k7.nil.trans (k8.trans (k9.trans k10.nil))), src_keep0 k10 s9, rep_keep k10 r9, t9, d7⟩
      · exact ⟨vo, fo, _, _, rfl, ka.trans (k7.nil.trans (k8.trans (k9.trans k10.nil))), src_keep0 k10 s9, rep_keep (k7.nil.trans (k8.trans (k9.trans k10.nil))) ra, ta, da⟩
    · rintro σ Ha ⟨vo, fo, z1, z2, rfl, ka, sa, ra, ta, da⟩
      refine ⟨_, rfl, _, rfl, (by show 2 ≤ sizeLine; decide), fun t nt => ?_⟩
      exact q t _ v1 vo e fo ((kk6.trans k7.nil).trans (ka.trans (Kt.new nt))) (src_keep0 (Kt.new nt) sa) upd_same (rep_keep (ka.trans (Kt.new nt)) (rep_keep k7 r6)) (rep_keep (Kt.new (S := []) nt) ra) te ta de da
  · change tSeq _ _ _ [_, _, _, _, _, _, _, _, _, _] _
    refine ⟨_, rfl, _, _, rfl, rfl, .inr ⟨_, rfl, _, rfl, _, _, rfl, rfl, .inr ⟨_, rfl, _, _, rfl, rfl, _, rfl, (bb _ _).1, (bb _ _).2, ?_⟩⟩⟩
    refine for_range (fun i σ Ha => ∃ vo fo z1 z2, σ = [some (.ref p), some (.ref d), some (.str so.str), some (.bl large), some (.int dp), some v1, some (.int c), some vo, z1, z2] ∧ Kt [p] H6 Ha ∧ Src Ha p ∧ Rep Ha vo fo ∧ Wt nm so fo ∧ fo.depth ≤ 6) ⟨v1, e, none, none, rfl, Kt.refl _, s6, r6, te, de⟩ ?_ ?_
    · rintro i σ Ha hi ⟨vo, fo, z1, z2, rfl, ka, sa, ra, ta, da⟩
      have na := nm_keep ka (intl1 (s6)) (n6)
      refine ⟨_, rfl, _, rfl, _, rfl, _, rfl, _, rfl, _, rfl, vo, fo, rfl, ra, (by omega), fun H7 k7 => ⟨p, _, rfl, src_keep0 k7 sa, (size_pos fo), (size_lt fo da), fun rr H8 _ _ s8 k8 => ?_⟩⟩
      have n8 := nm_keep k8 (intl1 (src_keep0 k7 sa)) (nm_keep0 k7 na)
      refine ⟨p, d, vo, so, nm, fo, _, rfl, s8, n8, ho, rep_keep (k7.nil.trans k8) ra, ta, (by omega), fun v' H9 e' k9 s9 r9 t9 d9 => ?_⟩
      refine ⟨_, rfl, v', e', rfl, r9, (by omega), fun H10 k10 => ⟨_, _, rfl, rfl, _, rfl, ite2 (fun c9 => ?_) (fun c9 => ?_)⟩⟩
      · have d7 : e'.depth ≤ 6 := by
          have z := of_decide_eq_true c9
          omega
        exact ⟨_, rfl, v', e', _, _, rfl, ka.trans (k7.nil.trans (k8.trans (k9.trans k10.nil))), src_keep0 k10 s9, rep_keep k10 r9, t9, d7⟩
      · exact ⟨vo, fo, _, _, rfl, ka.trans (k7.nil.trans (k8.trans (k9.trans k10.nil))), src_keep0 k10 s9, rep_keep (k7.nil.trans (k8.trans (k9.trans k10.nil))) ra, ta, da⟩
    · rintro σ Ha ⟨vo, fo, z1, z2, rfl, ka, sa, ra, ta, da⟩
      refine ⟨_, rfl, _, rfl, (by show 2 ≤ sizeLine; decide), fun t nt => ?_⟩
      exact q t _ v1 vo e fo ((kk6).trans (ka.trans (Kt.new nt))) (src_keep0 (Kt.new nt) sa) upd_same (rep_keep (ka.trans (Kt.new nt)) (r6)) (rep_keep (Kt.new (S := []) nt) ra) te ta de da
end
end K80


set_option Elab.async false
set_option linter.all false
set_option maxRecDepth 100000
set_option maxHeartbeats 4000000
namespace K80
open PySem PySem.Spec PyProof.Rows L2 Lw
/-- the names that are done have values of their sorts -/
def Dn (nm : So → List Str) (kvs : List (Key × V)) (done : So → Str → Prop) : Prop := ∀ s n, n ∈ nm s → done s n → ∃ v, valV kvs (Sum.inr n : Key) = some v ∧ Ok s 31 v
theorem dn_put {nm : So → List Str} {kvs : List (Key × V)} {done : So → Str → Prop} {t : So} {x : Str} {v : V} (ho : NmOk nm) (h : Dn nm kvs done) (hx : x ∈ nm t) (hv : Ok t 31 v) : Dn nm (putK kvs (Sum.inr x) v) (fun s n => done s n ∨ (s = t ∧ n = x)) := fun s n hn hd => by
  rw [valV_put]
  by_cases e : n = x
  · subst e
    have := ho.apart _ _ _ hn hx
    subst this
    exact ⟨v, by rw [if_pos rfl], hv⟩
  · rw [if_neg fun z => e (Sum.inr.inj z)]
    rcases hd with hd | hd
    · exact h s n hn hd
    · exact absurd hd.2 e
structure StI (H1 H : Hp) (p d D : Addr) (nm : So → List Str) (done : So → Str → Prop) (m : Nat) : Prop where
  kt : Kt [p, D] H1 H
  src : Src H p
  nms : NmAt H d nm
  env : ∃ kvs, H D = some (.dK kvs) ∧ Clean kvs ∧ kvs.length ≤ m ∧ Dn nm kvs done
section
variable {H1 H H' : Hp} {p d D : Addr} {nm : So → List Str} {done done' : So → Str → Prop} {m m' : Nat}
theorem StI.pick (I : StI H1 H p d D nm done m) (k : Kt [p] H H') (s : Src H' p) : StI H1 H' p d D nm done m := by
  obtain ⟨kvs, h1, h0, h2, h3⟩ := I.env
  refine ⟨I.kt.trans (k12 k), s, nm_keep k (intl1 I.src) I.nms, kvs, k.get h1 ?_, h0, h2, h3⟩
  simpa using src_ne I.src h1 (fun _ _ z => nomatch z)
theorem StI.new (I : StI H1 H p d D nm done m) (k : Kt [] H H') : StI H1 H' p d D nm done m := I.pick k.nil (src_keep0 k I.src)
theorem StI.mono (I : StI H1 H p d D nm done m) (h : ∀ s n, n ∈ nm s → done' s n → done s n) (hm : m ≤ m') : StI H1 H p d D nm done' m' := by
  obtain ⟨kvs, h1, h0, h2, h3⟩ := I.env
  exact ⟨I.kt, I.src, I.nms, kvs, h1, h0, by omega, fun s n hn hd => h3 s n hn (h s n hn hd)⟩
theorem StI.put {kvs : List (Key × V)} {t : So} {x : Str} {v : V} (I : StI H1 H p d D nm done m) (ho : NmOk nm) (hD : H D = some (.dK kvs)) (ne : D ≠ d) (hx : x ∈ nm t) (hv : Ok t 31 v) :
    StI H1 (upd H D (.dK (putK kvs (Sum.inr x) v))) p d D nm (fun s n => done s n ∨ (s = t ∧ n = x)) (m + 1) := by
  obtain ⟨kvs', h1, h0, h2, h3⟩ := I.env
  rw [hD] at h1
  cases h1
  have k : Kt [D] H (upd H D (.dK (putK kvs (Sum.inr x) v))) := Kt.at_ hD (fun _ z => nomatch z) (by simp)
  refine ⟨I.kt.trans (k.mono fun b z => by simp_all), src_keep k (by simpa using (src_ne I.src hD (fun _ _ z => nomatch z)).symm) I.src, ?_, _, upd_same, clean_put h0 (ok_flat hv), ?_, dn_put ho h3 hx hv⟩
  · obtain ⟨l, g1, g2⟩ := I.nms
    exact ⟨l, k.get g1 (by simpa using ne.symm), fun s => k.get (g2 s) (by simpa using ne_of (g2 s) hD (fun z => nomatch z))⟩
  · have := length_putK kvs (Sum.inr x) v
    omega
end
theorem mem_take {α : Type} {l : List α} {i : Nat} {n x : α} (h : l[i]? = some n) (hx : x ∈ l.take (i + 1)) : x ∈ l.take i ∨ x = n := by
  rw [List.take_add_one, h] at hx
  simpa using hx
theorem str_at {xs : List Str} {i : Nat} {v : V} (h : (xs.map V.str)[i]? = some v) : ∃ n, v = .str n ∧ xs[i]? = some n ∧ n ∈ xs := by
  rw [List.getElem?_map] at h
  cases e : xs[i]? with
  | none => rw [e] at h; cases h
  | some n => rw [e] at h; cases h; exact ⟨n, rfl, rfl, List.mem_of_getElem? e⟩
section
variable {P : Program} {w : World} {K : PySem.W.Frag} {mg : Str → Option Value} {base : Heap} (T : Facts K mg)
include T
def sp_state : Sp := fun vs H Q _ => ∃ (p d : Addr) (nm : So → List Str), vs = [.ref p, .ref d] ∧ Src H p ∧ NmAt H d nm ∧ NmOk nm ∧
  ∀ D H' ρ, H D = none → Kt [p] H H' → Src H' p → EnvAt H' D nm ρ → EnvOk nm ρ → (∃ kvs, H' D = some (.dK kvs) ∧ kvs.length ≤ 100) → Q (.ref D) H'
theorem ok_state : Df P w K mg base 3 "_law_state" ["source", "names"] sp_state := by
  have D__law_one := ok_one2 (P := P) (w := w) (base := base) T
  have D__law_pick := ok_pick2 (P := P) (w := w) (base := base) T
  refine Lw.Df.mk (T.d__law_state) sc__law_state (fun _ _ _ _ _ _ us hl => match us, hl with | [_, _], _ => rfl) (fun vs H Q E h => ?_) (fun f cdv A outer s H vs Q E hr h => ?_)
  · obtain ⟨_, _, _, rfl, _⟩ := h
    rfl
  have sc := sc__law_state
  obtain ⟨p, d, nm, rfl, hs, hn, ho, q⟩ := h
  refine ⟨_, (pss_cons (ps_set (i := 2) sc.nd rfl (by first | exact Or.inl rfl | exact Or.inr rfl) pe_dnewK)
(pss_cons (ps_set (i := 3) sc.nd rfl (by first | exact Or.inl rfl | exact Or.inr rfl) (pe_op op_sub (Lw.pe_d D__law_pick (hr.mono (by omega)) (pa_cons (pv 0) (pa_cons pe_int pa_nil))) pe_int))
(pss_cons (ps_set (i := 4) sc.nd rfl (by first | exact Or.inl rfl | exact Or.inr rfl) (pe_cmpR op_eq (Lw.pe_d D__law_pick (hr.mono (by omega)) (pa_cons (pv 0) (pa_cons pe_int pa_nil))) pe_int (nomark _)))
(pss_cons (ps_for PassesOwn.never rfl (pi_list (pe_dget (hu_of hr) (pv 1) pe_str (fun _ _ => rfl))) (pg_name (i := 5) sc.nd rfl (by first | exact Or.inl rfl | exact Or.inr rfl))
(pss_cons (ps_set (i := 6) sc.nd rfl (by first | exact Or.inl rfl | exact Or.inr rfl) (pe_op op_add (pv 3) (Lw.pe_d D__law_pick (hr.mono (by omega)) (pa_cons (pv 0) (pa_cons pe_int pa_nil)))))
(pss_one (ps_dput (hu_of hr) (pv 2) (pv 5) (Lw.pe_d D__law_one (hr.mono (by omega)) (pa_cons (pv 0) (pa_cons (pe_lst (pa_cons (pv 6) (pa_cons (pv 6) (pa_cons (pv 6) (pa_cons (pv 6) (pa_cons (Lw.pe_d D__law_one (hr.mono (by omega)) (pa_cons (pv 0) (pa_cons (pe_lst (pa_cons (pe_op op_pow pe_int pe_int) (pa_cons (pe_op op_sub pe_int (pe_op op_pow pe_int pe_int)) (pa_cons pe_int pa_nil)))) pa_nil))) pa_nil)))))) pa_nil))) rfl))))
(pss_cons (ps_for PassesOwn.never rfl (pi_list (pe_dget (hu_of hr) (pv 1) pe_str (fun _ _ => rfl))) (pg_name (i := 5) sc.nd rfl (by first | exact Or.inl rfl | exact Or.inr rfl))
(pss_one (ps_dput (hu_of hr) (pv 2) (pv 5) (pe_cmpR op_eq (Lw.pe_d D__law_pick (hr.mono (by omega)) (pa_cons (pv 0) (pa_cons pe_int pa_nil))) pe_int (nomark _)) rfl)))
(pss_cons (ps_for PassesOwn.never rfl (pi_list (pe_dget (hu_of hr) (pv 1) pe_str (fun _ _ => rfl))) (pg_name (i := 5) sc.nd rfl (by first | exact Or.inl rfl | exact Or.inr rfl))
(pss_one (ps_dput (hu_of hr) (pv 2) (pv 5) (Lw.pe_d D__law_one (hr.mono (by omega)) (pa_cons (pv 0) (pa_cons (pe_lst (pa_cons pe_non (pa_cons pe_int (pa_cons pe_int (pa_cons pe_int pa_nil))))) pa_nil))) rfl)))
(pss_cons (ps_for PassesOwn.never rfl (pi_list (pe_lst (pa_cons pe_str (pa_cons pe_str (pa_cons pe_str pa_nil))))) (pg_name (i := 7) sc.nd rfl (by first | exact Or.inl rfl | exact Or.inr rfl))
(pss_one (ps_for PassesOwn.never rfl (pi_list (pe_slice sl_list (pe_dget (hu_of hr) (pv 1) (pv 7) (fun _ _ => rfl)) (po_some pe_int) po_none)) (pg_name (i := 5) sc.nd rfl (by first | exact Or.inl rfl | exact Or.inr rfl))
(pss_one (ps_if (pt_val (pv 4))
(pss_one (ps_dput (hu_of hr) (pv 2) (pv 5) (pe_dget (hu_of hr) (pv 2) (pe_ix ix_list (pe_dget (hu_of hr) (pv 1) (pv 7) (fun _ _ => rfl)) pe_int (fun _ _ => rfl)) (fun _ _ => rfl)) rfl))
pss_nil)))))
(pss_one (ps_ret (pv 2)))))))))), ?_⟩
  -- env = {}
  refine fun D nD => ?_
  have ne : D ≠ d := fun e => by
    obtain ⟨l, h1, _⟩ := hn
    rw [e, h1] at nD
    cases nD
  have I0 : StI (upd H D (.dK [])) (upd H D (.dK [])) p d D nm (fun _ _ => False) 0 := ⟨Kt.refl _, src_keep0 (Kt.new nD) hs, nm_keep0 (Kt.new nD) hn, [], upd_same, ⟨List.nodup_nil, fun _ z => nomatch z⟩, Nat.le_refl _, fun _ _ _ z => z.elim⟩
  have k0 : Kt [] H (upd H D (.dK [])) := Kt.new nD
  generalize upd H D (.dK []) = H0 at k0 I0 ⊢
  -- low, alike
  refine ⟨_, rfl, p, 5, rfl, I0.src, by decide, by decide, fun c1 H1 a1 a2 s1 k1 => ⟨_, _, rfl, rfl, ?_⟩⟩
  have I1 := I0.pick k1 s1
  refine ⟨_, rfl, p, 3, rfl, I1.src, by decide, by decide, fun c2 H2 _ _ s2 k2 => ⟨rfl, ?_⟩⟩
  have I2 := I1.pick k2 s2
  generalize hal : decide (V.int c2 = V.int 0) = alike
  change tSeq _ _ _ [_, _, _, _, _, _, _, _] _
  -- the numbers
  obtain ⟨l, dg, hl⟩ := nm_get I2.nms .num
  refine ⟨_, rfl, d, _, rfl, dg, l, rfl, ⟨_, SqL.of hl⟩, ?_⟩
  refine for_list (xs := (nm .num).map V.str) (fun i σ Hx => ∃ z1 z2, σ = [some (.ref p), some (.ref d), some (.ref D), some (.int (c1 - 3)), some (.bl alike), z1, z2, none] ∧ Hx l = some (.lst ((nm .num).map V.str)) ∧ StI H0 Hx p d D nm (fun s n => s = .num ∧ n ∈ (nm .num).take i) i) ⟨none, none, rfl, hl, I2.mono (fun _ _ _ z => by simp at z) (Nat.zero_le _)⟩ (fun i σ Hx _ ⟨_, _, _, h, _⟩ => SqL.of h) ?_ ?_
  · rintro i x σ Hx hi ⟨z1, z2, rfl, hl, I⟩
    obtain ⟨n, rfl, hn1, hn2⟩ := str_at hi
    have lp : ∀ {Hy}, Src Hy p → Hy l = some (.lst ((nm .num).map V.str)) → l ≠ p := fun s h => src_ne s h (fun _ _ => (strs_no).elim id fun z => z.elim)
    change tSeq _ _ _ [_, _, _, _, _, _, _, _] _
    refine ⟨_, rfl, _, rfl, p, 3, rfl, I.src, by decide, by decide, fun c3 H3 b1 b2 s3 k3 => ⟨_, _, rfl, rfl, ?_⟩⟩
    have hl3 := k3.get hl (by simpa using lp I.src hl)
    have I3 := I.pick k3 s3
    change tSeq _ _ _ [_, _, _, _, _, _, _, _] _
    refine ⟨_, rfl, _, rfl, _, rfl, _, rfl, _, rfl, _, rfl, _, _, rfl, rfl, ⟨by decide, by decide, by decide⟩, _, _, rfl, rfl, ⟨by decide, by decide, by decide⟩, _, _, rfl, rfl, (by show 3 ≤ sizeLine; decide), fun la na => ?_⟩
    have ka : Kt [] H3 (upd H3 la (.lst [.int (10 ^ (9 : Int).toNat), .int (1 - 10 ^ (9 : Int).toNat), .int 999999937])) := Kt.new na
    have ga : (upd H3 la (.lst [.int (10 ^ (9 : Int).toNat), .int (1 - 10 ^ (9 : Int).toNat), .int 999999937])) la = some (.lst [.int (10 ^ (9 : Int).toNat), .int (1 - 10 ^ (9 : Int).toNat), .int 999999937]) := upd_same
    have lap : la ≠ p := src_fresh I3.src na
    generalize upd H3 la _ = H4 at ka ga ⊢
    have I4 := I3.new ka
    refine ⟨p, la, _, rfl, I4.src, ga, (fun z => nomatch z), (by show 3 < 1000000; decide), lap, fun v5 H5 hv5 s5 k5 => ?_⟩
    have I5 := I4.pick k5 s5
    have hl5 := k5.get (ka.get0 hl3) (by simpa using lp I4.src (ka.get0 hl3))
    refine ⟨(by show 5 ≤ sizeLine; decide), fun lb nb => ?_⟩
    have kb : Kt [] H5 (upd H5 lb (.lst [.int (c1 - 3 + c3), .int (c1 - 3 + c3), .int (c1 - 3 + c3), .int (c1 - 3 + c3), v5])) := Kt.new nb
    have gb : (upd H5 lb (.lst [.int (c1 - 3 + c3), .int (c1 - 3 + c3), .int (c1 - 3 + c3), .int (c1 - 3 + c3), v5])) lb = some (.lst [.int (c1 - 3 + c3), .int (c1 - 3 + c3), .int (c1 - 3 + c3), .int (c1 - 3 + c3), v5]) := upd_same
    have lbp : lb ≠ p := src_fresh I5.src nb
    generalize upd H5 lb _ = H6 at kb gb ⊢
    have I6 := I5.new kb
    refine ⟨p, lb, _, rfl, I6.src, gb, (fun z => nomatch z), (by show 5 < 1000000; decide), lbp, fun v7 H7 hv7 s7 k7 => ?_⟩
    have I7 := I6.pick k7 s7
    have hl7 := k7.get (kb.get0 hl5) (by simpa using lp I6.src (kb.get0 hl5))
    have ok5 : Ok .num 31 v5 := by
      have e : (10 : Int) ^ (9 : Int).toNat = 1000000000 := by decide
      rw [e] at hv5
      simp only [List.mem_cons, List.not_mem_nil, or_false] at hv5
      rcases hv5 with rfl | rfl | rfl
      all_goals exact ⟨_, rfl, by decide⟩
    have ok7 : Ok .num 31 v7 := by
      simp only [List.mem_cons, List.not_mem_nil, or_false] at hv7
      rcases hv7 with rfl | rfl | rfl | rfl | rfl
      all_goals first | exact ok5 | exact ⟨_, rfl, by omega⟩
    obtain ⟨kvs, hD, _, hz, _⟩ := id I7.env
    have lD : l ≠ D := ne_of hl7 hD (fun z => nomatch z)
    have hi3 : i < 3 := by
      have z := (List.getElem?_eq_some_iff.mp hn1).1
      rw [ho.three] at z
      exact z
    refine ⟨_, rfl, _, rfl, D, _, rfl, DPut.k (k := Sum.inr n) hD (small1000 (by omega)), _, _, rfl, ?_, ?_⟩
    · rw [upd_ne lD]
      exact hl7
    · refine (I7.put ho hD ne hn2 ok7).mono (fun s n' hn' hd => ?_) (Nat.le_refl _)
      rcases mem_take hn1 hd.2 with z | z
      · exact .inl ⟨hd.1, z⟩
      · exact .inr ⟨hd.1, z⟩
  rintro σ H3 ⟨z1, z2, rfl, _, I3⟩
  -- the flags
  obtain ⟨l2, dg2, hl2⟩ := nm_get I3.nms .flag
  change tSeq _ _ _ [_, _, _, _, _, _, _, _] _
  refine ⟨_, rfl, d, _, rfl, dg2, l2, rfl, ⟨_, SqL.of hl2⟩, ?_⟩
  refine for_list (xs := (nm .flag).map V.str) (fun i σ Hx => ∃ z1 z2, σ = [some (.ref p), some (.ref d), some (.ref D), some (.int (c1 - 3)), some (.bl alike), z1, z2, none] ∧ Hx l2 = some (.lst ((nm .flag).map V.str)) ∧ StI H0 Hx p d D nm (fun s n => s = .num ∨ s = .flag ∧ n ∈ (nm .flag).take i) (3 + i)) ⟨_, _, rfl, hl2, I3.mono (fun s n hn z => ?_) ?_⟩ (fun i σ Hx _ ⟨_, _, _, h, _⟩ => SqL.of h) ?_ ?_
  · rcases z with rfl | z
    · refine ⟨rfl, ?_⟩
      rw [List.length_map, List.take_length]
      exact hn
    · simp at z
  · rw [List.length_map, ho.three]
    exact Nat.le_refl _
  · rintro i x σ Hx hi ⟨z1, z2, rfl, hl, I⟩
    obtain ⟨n, rfl, hn1, hn2⟩ := str_at hi
    have lp : l2 ≠ p := src_ne I.src hl (fun _ _ => (strs_no).elim id fun z => z.elim)
    refine ⟨_, rfl, p, 2, rfl, I.src, by decide, by decide, fun c3 H4 _ _ s4 k4 => ⟨rfl, ?_⟩⟩
    have I4 := I.pick k4 s4
    have hl4 := k4.get hl (by simpa using lp)
    obtain ⟨kvs, hD, _, hz, _⟩ := id I4.env
    have hi3 : i < 3 := by
      have z := (List.getElem?_eq_some_iff.mp hn1).1
      rw [ho.three] at z
      exact z
    refine ⟨_, rfl, _, rfl, D, _, rfl, DPut.k (k := Sum.inr n) hD (small1000 (by omega)), _, _, rfl, ?_, ?_⟩
    · rw [upd_ne (ne_of hl4 hD (fun z => nomatch z))]
      exact hl4
    · refine (I4.put (t := .flag) ho hD ne hn2 ⟨_, rfl⟩).mono (fun s n' hn' hd => ?_) (by omega)
      rcases hd with hd | hd
      · exact .inl (.inl hd)
      · rcases mem_take hn1 hd.2 with z | z
        · exact .inl (.inr ⟨hd.1, z⟩)
        · exact .inr ⟨hd.1, z⟩
  rintro σ H4 ⟨z1, z2, rfl, _, I4⟩
  -- the references
  obtain ⟨l3, dg3, hl3⟩ := nm_get I4.nms .ref
  change tSeq _ _ _ [_, _, _, _, _, _, _, _] _
  refine ⟨_, rfl, d, _, rfl, dg3, l3, rfl, ⟨_, SqL.of hl3⟩, ?_⟩
  refine for_list (xs := (nm .ref).map V.str) (fun i σ Hx => ∃ z1 z2, σ = [some (.ref p), some (.ref d), some (.ref D), some (.int (c1 - 3)), some (.bl alike), z1, z2, none] ∧ Hx l3 = some (.lst ((nm .ref).map V.str)) ∧ StI H0 Hx p d D nm (fun s n => s = .num ∨ s = .flag ∨ s = .ref ∧ n ∈ (nm .ref).take i) (6 + i)) ⟨_, _, rfl, hl3, I4.mono (fun s n hn z => ?_) ?_⟩ (fun i σ Hx _ ⟨_, _, _, h, _⟩ => SqL.of h) ?_ ?_
  · rcases z with rfl | rfl | z
    · exact .inl rfl
    · refine .inr ⟨rfl, ?_⟩
      rw [List.length_map, List.take_length]
      exact hn
    · simp at z
  · rw [List.length_map, ho.three]
    exact Nat.le_refl _
  · rintro i x σ Hx hi ⟨z1, z2, rfl, hl, I⟩
    obtain ⟨n, rfl, hn1, hn2⟩ := str_at hi
    have lp : ∀ {Hy}, Src Hy p → Hy l3 = some (.lst ((nm .ref).map V.str)) → l3 ≠ p := fun s h => src_ne s h (fun _ _ => (strs_no).elim id fun z => z.elim)
    refine ⟨_, rfl, (by decide), fun la na => ?_⟩
    have ka : Kt [] Hx (upd Hx la (.lst [.non, .int 0, .int 1, .int 1])) := Kt.new na
    have ga : (upd Hx la (.lst [.non, .int 0, .int 1, .int 1])) la = some (.lst [.non, .int 0, .int 1, .int 1]) := upd_same
    have lap : la ≠ p := src_fresh I.src na
    generalize upd Hx la _ = H5 at ka ga ⊢
    have I5 := I.new ka
    refine ⟨p, la, _, rfl, I5.src, ga, (fun z => nomatch z), (by decide), lap, fun v5 H6 hv5 s5 k5 => ?_⟩
    have I6 := I5.pick k5 s5
    have hl6 := k5.get (ka.get0 hl) (by simpa using lp I5.src (ka.get0 hl))
    have ok5 : Ok .ref 31 v5 := by
      simp only [List.mem_cons, List.not_mem_nil, or_false] at hv5
      rcases hv5 with rfl | rfl | rfl | rfl
      · exact .inl rfl
      all_goals exact .inr ⟨_, rfl⟩
    obtain ⟨kvs, hD, _, hz, _⟩ := id I6.env
    have hi3 : i < 3 := by
      have z := (List.getElem?_eq_some_iff.mp hn1).1
      rw [ho.three] at z
      exact z
    refine ⟨_, rfl, _, rfl, D, _, rfl, DPut.k (k := Sum.inr n) hD (small1000 (by omega)), _, _, rfl, ?_, ?_⟩
    · rw [upd_ne (ne_of hl6 hD (fun z => nomatch z))]
      exact hl6
    · refine (I6.put ho hD ne hn2 ok5).mono (fun s n' hn' hd => ?_) (by omega)
      rcases hd with hd | hd | hd
      · exact .inl (.inl hd)
      · exact .inl (.inr (.inl hd))
      · rcases mem_take hn1 hd.2 with z | z
        · exact .inl (.inr (.inr ⟨hd.1, z⟩))
        · exact .inr ⟨hd.1, z⟩
  rintro σ H5 ⟨z1, z2, rfl, _, I5⟩
  -- alike
  have I5' : StI H0 H5 p d D nm (fun _ _ => True) 9 := I5.mono (fun s n hn _ => by
    cases s
    · exact .inl rfl
    · exact .inr (.inl rfl)
    · refine .inr (.inr ⟨rfl, ?_⟩)
      rw [List.length_map, List.take_length]
      exact hn) (by rw [List.length_map, ho.three]; exact Nat.le_refl _)
  change tSeq _ _ _ [_, _, _, _, _, _, _, _] _
  refine ⟨(by decide), fun L nL => ⟨L, rfl, ⟨_, SqL.of upd_same⟩, ?_⟩⟩
  have kL : Kt [] H5 (upd H5 L (.lst [.str "num", .str "flag", .str "ref"])) := Kt.new nL
  have gL : (upd H5 L (.lst [.str "num", .str "flag", .str "ref"])) L = some (.lst [.str "num", .str "flag", .str "ref"]) := upd_same
  generalize upd H5 L _ = H6 at kL gL ⊢
  have I6 := I5'.new kL
  have lnp : ∀ {Hy : Hp} {t : Addr} {xs : List Str}, Src Hy p → Hy t = some (.lst (xs.map V.str)) → t ≠ p := fun s h => src_ne s h (fun _ _ => (strs_no).elim id fun z => z.elim)
  have sorts : ∀ (i : Nat) (x : V), ([V.str "num", .str "flag", .str "ref"] : List V)[i]? = some x → ∃ so : So, x = .str so.str := fun i x h => by
    match i, h with
    | 0, h => cases h; exact ⟨.num, rfl⟩
    | 1, h => cases h; exact ⟨.flag, rfl⟩
    | 2, h => cases h; exact ⟨.ref, rfl⟩
  refine for_list (xs := [V.str "num", .str "flag", .str "ref"]) (fun i σ Hx => ∃ z1 z2 z3, σ = [some (.ref p), some (.ref d), some (.ref D), some (.int (c1 - 3)), some (.bl alike), z1, z2, z3] ∧ Hx L = some (.lst (([("num" : Str), "flag", "ref"] : List Str).map V.str)) ∧ StI H0 Hx p d D nm (fun _ _ => True) (9 + 3 * i)) ⟨_, _, _, rfl, gL, I6⟩ (fun i σ Hx _ ⟨_, _, _, _, h, _⟩ => SqL.of h) ?_ ?_
  · rintro i x σ Hx hi ⟨z1, z2, z3, rfl, hL, I⟩
    obtain ⟨so, rfl⟩ := sorts i x hi
    have hi3 : i < 3 := (List.getElem?_eq_some_iff.mp hi).1
    obtain ⟨ls, dgs, hls⟩ := nm_get I.nms so
    change tFor _ _ _ _ [_, _, _, _, _, _, _, _] _
    refine ⟨_, rfl, _, rfl, d, _, rfl, dgs, 1, rfl, ls, _, rfl, SqL.of hls, fun l4 n4 => ⟨l4, rfl, ⟨_, SqL.of upd_same⟩, ?_⟩⟩
    have k4 : Kt [] Hx (upd Hx l4 (.lst (cutV ((nm so).map V.str) (some 1) none))) := Kt.new n4
    have g4 : (upd Hx l4 (.lst (cutV ((nm so).map V.str) (some 1) none))) l4 = some (.lst (cutV ((nm so).map V.str) (some 1) none)) := upd_same
    have len4 : (cutV ((nm so).map V.str) (some 1) none).length ≤ 3 := by
      have := cutV_length ((nm so).map V.str) (some 1) none
      rw [List.length_map, ho.three] at this
      exact this
    have mem4 : ∀ (j : Nat) (x : V), (cutV ((nm so).map V.str) (some 1) none)[j]? = some x → ∃ n : Str, x = V.str n ∧ n ∈ nm so := fun j x h => by
      have h1 := List.mem_of_mem_drop (List.mem_of_mem_take (List.mem_of_getElem? h))
      obtain ⟨n, hn, rfl⟩ := List.mem_map.mp h1
      exact ⟨n, rfl, hn⟩
    have str4 : ∃ ys : List Str, cutV ((nm so).map V.str) (some 1) none = ys.map V.str := ⟨((nm so).drop (HT.sIx ((nm so).map V.str).length 0 (some 1))).take (HT.sIx ((nm so).map V.str).length ((nm so).map V.str).length none - HT.sIx ((nm so).map V.str).length 0 (some 1)), by
      unfold cutV
      rw [List.map_take, List.map_drop]⟩
    generalize cutV ((nm so).map V.str) (some 1) none = cs at k4 g4 len4 mem4 str4 ⊢
    obtain ⟨ys, rfl⟩ := str4
    generalize upd Hx l4 (.lst (ys.map V.str)) = H7 at k4 g4 ⊢
    have I7 := I.new k4
    have hL7 := k4.get0 hL
    refine for_list (xs := ys.map V.str) (fun j σ Hy => ∃ z1 z2, σ = [some (.ref p), some (.ref d), some (.ref D), some (.int (c1 - 3)), some (.bl alike), z1, z2, some (V.str (So.str so))] ∧ Hy L = some (.lst (([("num" : Str), "flag", "ref"] : List Str).map V.str)) ∧ Hy l4 = some (.lst (ys.map V.str)) ∧ StI H0 Hy p d D nm (fun _ _ => True) (9 + 3 * i + j)) ⟨_, _, rfl, hL7, g4, I7⟩ (fun j σ Hy _ ⟨_, _, _, _, h, _⟩ => SqL.of h) ?_ ?_
    · rintro j y σ Hy hj ⟨y1, y2, rfl, hL, h4, I⟩
      obtain ⟨n, rfl, hn⟩ := mem4 j y hj
      have hj3 : j < 3 := Nat.lt_of_lt_of_le (List.getElem?_eq_some_iff.mp hj).1 len4
      cases alike with
      | false => exact ⟨_, rfl, _, rfl, iteF ⟨_, _, rfl, hL, h4, I.mono (fun _ _ _ z => z) (by omega)⟩⟩
      | true =>
        refine ⟨_, rfl, _, rfl, iteT ?_⟩
        obtain ⟨lz, dgz, hlz⟩ := nm_get I.nms so
        obtain ⟨kvs, hD, _, hz, hDn⟩ := id I.env
        obtain ⟨n0, hn0, at0⟩ : ∃ n0, n0 ∈ nm so ∧ atI ((nm so).map V.str) 0 = some (.str n0) := by
          have h3 := ho.three so
          have hlt : 0 < (nm so).length := by omega
          exact ⟨(nm so)[0], List.getElem_mem hlt, atI_nat (j := 0) (by rw [List.getElem?_map, List.getElem?_eq_getElem hlt]; rfl)⟩
        obtain ⟨v0, hv0, ok0⟩ := hDn so n0 hn0 trivial
        have dg0 : DGet Hy D (.str n0) (some v0) := by
          rw [← hv0]
          exact DGet.k (k := Sum.inr n0) hD
        refine ⟨_, rfl, _, rfl, _, rfl, d, _, rfl, dgz, lz, _, _, _, rfl, rfl, SqL.of hlz, at0, D, _, rfl, dg0, ?_⟩
        refine ⟨_, rfl, _, rfl, D, _, rfl, DPut.k (k := Sum.inr n) hD (small1000 (by omega)), _, _, rfl, ?_, ?_, ?_⟩
        · rw [upd_ne (ne_of hL hD (fun z => nomatch z))]
          exact hL
        · rw [upd_ne (ne_of h4 hD (fun z => nomatch z))]
          exact h4
        · exact (I.put ho hD ne hn ok0).mono (fun _ _ _ _ => .inl trivial) (by omega)
    · rintro σ Hy ⟨y1, y2, rfl, hL, h4, I⟩
      exact ⟨_, _, _, rfl, hL, I.mono (fun _ _ _ z => z) (by rw [List.length_map] at *; omega)⟩
  · rintro σ Hx ⟨z1, z2, z3, rfl, hL, I⟩
    obtain ⟨kvs, hD, hcl, hz, hDn⟩ := id I.env
    refine ⟨_, rfl, q D Hx (fun n => (valV kvs (Sum.inr n : Key)).getD .non) nD ((k0.nil.trans I.kt).drop2 nD) I.src ⟨kvs, hD, hcl, fun s n hn => ?_⟩ (fun s n hn => ?_) ⟨kvs, hD, Nat.le_trans hz (by show 9 + 3 * 3 ≤ 100; decide)⟩⟩
    · obtain ⟨v, e, _⟩ := hDn s n hn trivial
      show valV kvs (Sum.inr n : Key) = some ((valV kvs (Sum.inr n : Key)).getD .non)
      rw [e]
      rfl
    · obtain ⟨v, e, o⟩ := hDn s n hn trivial
      show Ok s 31 ((valV kvs (Sum.inr n : Key)).getD .non)
      rw [e]
      exact o
end
end K80


set_option Elab.async false
set_option linter.all false
set_option maxRecDepth 100000
set_option maxHeartbeats 4000000
namespace Lw
open PySem PySem.Spec PyProof.Rows L2 PySem.Calls
/-! abs of an int, of a bool -/
section
variable {prog : Program} {w : World} {A : Around} {E : Value → Shared → Prop} {s : Shared} {b : Bool}
theorem call_abs_bool {Q : Value → Shared → Prop} (h : ∀ u tk, Q (.int (if b then 1 else 0) u) { s with toks := tk }) :
    wpAny (model prog w) A (call (.builtin "abs") [.bool b]) Q E s := by
  refine call_function_entry kind_abs plain_abs entry_abs (args_abs _) ?_
  unfold Builtin.«abs»
  refine wpAny_bind (m := oneArg "abs" _) (wpAny_pure ?_)
  refine wpAny_bind (m := callSpecial? (.bool b) (Str.ofString "__abs__")) (wpAny_callSpecial?_slot (name := Str.ofString "__abs__") (PySem.typeIs_bool s b) PySem.F.slot_bool_abs
    (wpAny_call_entry PySem.F.slot_bool_abs (PySem.typeIs_bool s b) entry_int_abs ?_ (args_int_abs _)))
  have h' := h s.toks (s.toks + 1)
  cases b with
  | true =>
    show wpAny _ _ (do ret (← mkInt 1)) _ _ s
    exact wpAny_ret_mkInt (wpAny_pure ⟨_, rfl, h'⟩)
  | false =>
    show wpAny _ _ (do ret (← mkInt 0)) _ _ s
    exact wpAny_ret_mkInt (wpAny_pure ⟨_, rfl, h'⟩)
end
theorem call_absN {X : Cx} : CallR X (.builtin "abs") (fun xs H Q => (∃ i, xs = [.int i] ∧ Q (.int (if i < 0 then -i else i)) H) ∨ ∃ b : Bool, xs = [.bl b] ∧ Q (.int (if b then 1 else 0)) H) := by
  intro pins s σ H xs us Q I r h
  rcases h with ⟨i, rfl, q⟩ | ⟨b, rfl, q⟩
  · obtain ⟨u, rfl, t, rfl⟩ := vals1 r
    exact call_abs_int fun u tk => ⟨.int (if i < 0 then -i else i), H, I.tok _, ⟨_, rfl⟩, q⟩
  · obtain ⟨u, rfl, r1⟩ := vals1 r
    cases r1
    exact call_abs_bool fun u tk => ⟨.int (if b then 1 else 0), H, I.tok _, ⟨_, rfl⟩, q⟩
end Lw
namespace K80
open PySem PySem.Spec PyProof.Rows L2 Lw
theorem scal_of {s : So} {m n : Nat} {x y : V} (h : s = .num ∨ s = .flag) (hx : Ok s m x) (hy : Ok s n y) : scal x y = true := by
  rcases h with rfl | rfl
  · obtain ⟨i, rfl, _⟩ := hx
    obtain ⟨j, rfl, _⟩ := hy
    rfl
  · obtain ⟨i, rfl⟩ := hx
    obtain ⟨j, rfl⟩ := hy
    rfl
theorem none_src {H H' : Hp} {p D : Addr} (k : Kt [p] H H') (s : Src H' p) (n : H' D = none) : H D = none := by
  cases e : H D with
  | none => rfl
  | some o =>
    have ne : D ≠ p := src_fresh s n
    rw [k.get e (by simpa using ne)] at n
    cases n
theorem env_put {H : Hp} {D : Addr} {nm : So → List Str} {ρ : Str → V} {kvs : List (Key × V)} {so : So} {x : Str} {v : V} (ho : NmOk nm) (hE : EnvAt H D nm ρ) (hO : EnvOk nm ρ) (hD : H D = some (.dK kvs)) (hx : x ∈ nm so) (hv : Ok so 31 v) :
    EnvAt (upd H D (.dK (putK kvs (Sum.inr x) v))) D nm (fun n => if n = x then v else ρ n) ∧ EnvOk nm (fun n => if n = x then v else ρ n) := by
  obtain ⟨kvs', h1, h0, h2⟩ := hE
  rw [hD] at h1
  cases h1
  refine ⟨⟨_, upd_same, clean_put h0 (ok_flat hv), fun s n hn => ?_⟩, fun s n hn => ?_⟩
  · rw [valV_put]
    show _ = some (if n = x then v else ρ n)
    by_cases e : n = x
    · rw [if_pos (congrArg Sum.inr e), if_pos e]
    · rw [if_neg fun z => e (Sum.inr.inj z), if_neg e]
      exact h2 s n hn
  · show Ok s 31 (if n = x then v else ρ n)
    by_cases e : n = x
    · rw [if_pos e]
      subst e
      have := ho.apart _ _ _ hn hx
      subst this
      exact hv
    · rw [if_neg e]
      exact hO s n hn
section
variable {P : Program} {w : World} {K : PySem.W.Frag} {mg : Str → Option Value} {base : Heap} (T : Facts K mg)
include T
def sp_found : Sp := fun vs H Q _ => ∃ (p d : Addr) (v1 v2 : V) (eq : Bool) (s : So) (nm : So → List Str) (e f : Ex), vs = [.ref p, .ref d, v1, v2, .bl eq] ∧ Src H p ∧ NmAt H d nm ∧ NmOk nm ∧ (s = .num ∨ s = .flag) ∧ Rep H v1 e ∧ Rep H v2 f ∧ Wt nm s e ∧ Wt nm s f ∧ e.depth ≤ 6 ∧ f.depth ≤ 6 ∧
  ∀ D H' ρ, H D = none → Kt [p] H H' → Src H' p → EnvAt H' D nm ρ → EnvOk nm ρ → Q (.ref D) H'
theorem ok_found : Df P w K mg base 9 "_law_found" ["source", "names", "e", "f", "equal"] sp_found := by
  have D__law_state := ok_state (P := P) (w := w) (base := base) T
  have D__law_value := ok_lval (P := P) (w := w) (base := base) T 7
  refine Lw.Df.mk (T.d__law_found) sc__law_found (fun _ _ _ _ _ _ us hl => match us, hl with | [_, _, _, _, _], _ => rfl) (fun vs H Q E h => ?_) (fun f cdv A outer s H vs Q E hr h => ?_)
  · obtain ⟨_, _, _, _, _, _, _, _, _, rfl, _⟩ := h
    rfl
  have sc := sc__law_found
  obtain ⟨p, d, v1, v2, eq, so, nm, e, f, rfl, hs, hn, ho, hso, r1, r2, te, tf, de, df, q⟩ := h
  refine ⟨_, (pss_cons (ps_set (i := 5) sc.nd rfl (by first | exact Or.inl rfl | exact Or.inr rfl) pe_dnewK)
(pss_cons (ps_for PassesOwn.never rfl (pi_range1 rfl T.z_range (pa_cons pe_int pa_nil)) (pg_name (i := 6) sc.nd rfl (by first | exact Or.inl rfl | exact Or.inr rfl))
(pss_cons (ps_set (i := 5) sc.nd rfl (by first | exact Or.inl rfl | exact Or.inr rfl) (Lw.pe_d D__law_state (hr.mono (by omega)) (pa_cons (pv 0) (pa_cons (pv 1) pa_nil))))
(pss_cons (ps_set (i := 7) sc.nd rfl (by first | exact Or.inl rfl | exact Or.inr rfl) (Lw.pe_d D__law_value (hr.mono (by omega)) (pa_cons (pv 2) (pa_cons (pv 5) pa_nil))))
(pss_cons (ps_if (PW.pt (pw_and (pt_cmpR op_eq (pe_ix ix_tup (pv 3) pe_int (fun _ _ => rfl)) pe_str (nomark _)) (pw_and (pt_cmpR op_eq (pv 6) pe_int (nomark _)) (pw_and (pt_val (pv 4)) (pw_and1 (pt_cmpR op_le (pe_callB Lw.call_absN (by rfl) T.z_abs boot_abs (pa_cons (pv 7) pa_nil)) (pe_op op_pow pe_int pe_int) (nomark _)))))))
(pss_one (ps_dput (hu_of hr) (pv 5) (pe_ix ix_tup (pv 3) pe_int (fun _ _ => rfl)) (pv 7) rfl))
pss_nil)
(pss_one (ps_if (pt_cmpR op_eq (pe_cmpR op_eq (Lw.pe_d D__law_value (hr.mono (by omega)) (pa_cons (pv 2) (pa_cons (pv 5) pa_nil))) (Lw.pe_d D__law_value (hr.mono (by omega)) (pa_cons (pv 3) (pa_cons (pv 5) pa_nil))) (nomark _)) (pv 4) (nomark _))
(pss_one (ps_ret (pv 5)))
pss_nil))))))
(pss_one (ps_ret (pv 5))))), ?_⟩
  have sm1 := sm_of e (by omega)
  have sm2 := sm_of f (by omega)
  refine fun D0 nD0 => ⟨5, rfl, by decide, by decide, ?_⟩
  have k0 : Kt [] H (upd H D0 (.dK [])) := Kt.new nD0
  refine for_range (lo := 0) (n := 5) (fun i σ Ha => ∃ D z1 z2, σ = [some (.ref p), some (.ref d), some v1, some v2, some (.bl eq), some (.ref D), z1, z2] ∧ Kt [p] H Ha ∧ Src Ha p ∧ (i = 0 ∨ H D = none ∧ ∃ ρ, EnvAt Ha D nm ρ ∧ EnvOk nm ρ)) ⟨D0, none, none, rfl, k0.nil, src_keep0 k0 hs, .inl rfl⟩ ?_ ?_
  · rintro i σ Ha hi ⟨Dz, z1, z2, rfl, ka, sa, _⟩
    have na := nm_keep ka (intl1 hs) hn
    have ra1 := rep_keep ka r1
    have ra2 := rep_keep ka r2
    change tSeq _ _ _ [_, _, _, _, _, _, _, _] _
    refine ⟨_, rfl, _, rfl, p, d, nm, rfl, sa, na, ho, fun D H2 ρ nD k2 s2 hE hO hk => ?_⟩
    have nD0 := none_src ka sa nD
    obtain ⟨kvs, hD, hz⟩ := hk
    refine ⟨_, rfl, _, rfl, v1, D, e, so, nm, ρ, rfl, rep_keep k2 ra1, te, hE, hO, sm1, (by omega), fun H3 k3 => ?_⟩
    change tSeq _ _ _ [_, _, _, _, _, _, _, _] _
    have r3 := rep_keep (k2.trans k3.nil) ra2
    obtain ⟨pf, xs, ev, hf⟩ := rep_word r3
    refine ⟨_, rfl, pf, _, _, _, ev, rfl, SqT.of hf, atI_nat (j := 0) rfl, rfl, _, rfl, ite2 (fun c1 => ⟨_, rfl, rfl, _, rfl, ite2 (fun c2 => ⟨_, rfl, _, rfl, ite2 (fun c3 => ?_) (fun _ => iteF ?r1)⟩) (fun _ => iteF ?r2)⟩) (fun _ => iteF ?r3)⟩
    case r1 =>
      refine ⟨_, rfl, _, rfl, v1, D, _, _, nm, ρ, rfl, rep_keep (k2.trans k3.nil) ra1, te, env_keep k3 (by simp) hE, hO, sm1, (by omega), fun H6 k6 => ⟨_, rfl, _, rfl, v2, D, _, _, nm, ρ, rfl, rep_keep ((k2.trans k3.nil).trans k6.nil) ra2, tf, env_keep k6 (by simp) (env_keep k3 (by simp) hE), hO, sm2, (by omega), fun H7 k7 => ?_⟩⟩
      refine ⟨scal_of hso (val_ok (hO) te) (val_ok (hO) tf), _, rfl, rfl, _, rfl, ite2 (fun _ => ?_) (fun _ => ?_)⟩
      · exact ⟨_, rfl, q D H7 (ρ) nD0 (ka.trans ((k2.trans k3.nil).trans (k6.trans k7).nil)) (src_keep0 (k6.trans k7) (src_keep0 k3 s2)) (env_keep (k6.trans k7) (by simp) (env_keep k3 (by simp) hE)) (hO)⟩
      · exact ⟨D, _, _, rfl, ka.trans ((k2.trans k3.nil).trans (k6.trans k7).nil), src_keep0 (k6.trans k7) (src_keep0 k3 s2), .inr ⟨nD0, ρ, env_keep (k6.trans k7) (by simp) (env_keep k3 (by simp) hE), hO⟩⟩
    case r2 =>
      refine ⟨_, rfl, _, rfl, v1, D, _, _, nm, ρ, rfl, rep_keep (k2.trans k3.nil) ra1, te, env_keep k3 (by simp) hE, hO, sm1, (by omega), fun H6 k6 => ⟨_, rfl, _, rfl, v2, D, _, _, nm, ρ, rfl, rep_keep ((k2.trans k3.nil).trans k6.nil) ra2, tf, env_keep k6 (by simp) (env_keep k3 (by simp) hE), hO, sm2, (by omega), fun H7 k7 => ?_⟩⟩
      refine ⟨scal_of hso (val_ok (hO) te) (val_ok (hO) tf), _, rfl, rfl, _, rfl, ite2 (fun _ => ?_) (fun _ => ?_)⟩
      · exact ⟨_, rfl, q D H7 (ρ) nD0 (ka.trans ((k2.trans k3.nil).trans (k6.trans k7).nil)) (src_keep0 (k6.trans k7) (src_keep0 k3 s2)) (env_keep (k6.trans k7) (by simp) (env_keep k3 (by simp) hE)) (hO)⟩
      · exact ⟨D, _, _, rfl, ka.trans ((k2.trans k3.nil).trans (k6.trans k7).nil), src_keep0 (k6.trans k7) (src_keep0 k3 s2), .inr ⟨nD0, ρ, env_keep (k6.trans k7) (by simp) (env_keep k3 (by simp) hE), hO⟩⟩
    case r3 =>
      refine ⟨_, rfl, _, rfl, v1, D, _, _, nm, ρ, rfl, rep_keep (k2.trans k3.nil) ra1, te, env_keep k3 (by simp) hE, hO, sm1, (by omega), fun H6 k6 => ⟨_, rfl, _, rfl, v2, D, _, _, nm, ρ, rfl, rep_keep ((k2.trans k3.nil).trans k6.nil) ra2, tf, env_keep k6 (by simp) (env_keep k3 (by simp) hE), hO, sm2, (by omega), fun H7 k7 => ?_⟩⟩
      refine ⟨scal_of hso (val_ok (hO) te) (val_ok (hO) tf), _, rfl, rfl, _, rfl, ite2 (fun _ => ?_) (fun _ => ?_)⟩
      · exact ⟨_, rfl, q D H7 (ρ) nD0 (ka.trans ((k2.trans k3.nil).trans (k6.trans k7).nil)) (src_keep0 (k6.trans k7) (src_keep0 k3 s2)) (env_keep (k6.trans k7) (by simp) (env_keep k3 (by simp) hE)) (hO)⟩
      · exact ⟨D, _, _, rfl, ka.trans ((k2.trans k3.nil).trans (k6.trans k7).nil), src_keep0 (k6.trans k7) (src_keep0 k3 s2), .inr ⟨nD0, ρ, env_keep (k6.trans k7) (by simp) (env_keep k3 (by simp) hE), hO⟩⟩
    obtain ⟨x, rfl⟩ : ∃ x, f = .name x := by
      have z : f.word = "name" := V.str.inj (of_decide_eq_true c1)
      cases f with
      | name x => exact ⟨x, rfl⟩
      | bin u a b => exact absurd z (wd_name u)
      | null => exact absurd z (by decide +kernel : ¬ ("null" : Str) = "name")
      | num _ => exact absurd z (by decide +kernel : ¬ ("num" : Str) = "name")
      | flag _ => exact absurd z (by decide +kernel : ¬ ("flag" : Str) = "name")
      | un _ => exact absurd z (by decide +kernel : ¬ ("not" : Str) = "name")
    have hx : x ∈ nm so := by cases tf; assumption
    obtain ⟨p3, g3, hf3⟩ := r3
    have hD3 := k3.get0 hD
    have kD : Kt [D] H3 (upd H3 D (.dK (putK kvs (Sum.inr x) (e.val ρ)))) := Kt.at_ hD3 (fun _ z => nomatch z) (by simp)
    have kx : Kt [p] Ha (upd H3 D (.dK (putK kvs (Sum.inr x) (e.val ρ)))) := ((k12 (q := D) (k2.trans k3.nil)).trans (kD.mono fun b z => by simp_all)).drop2 nD
    have s3 := src_keep0 k3 s2
    have sx : Src (upd H3 D (.dK (putK kvs (Sum.inr x) (e.val ρ)))) p := src_keep kD (by simpa using (src_ne s3 hD3 (fun _ _ z => nomatch z)).symm) s3
    have go : Ok so 31 (e.val ρ) → EnvAt (upd H3 D (.dK (putK kvs (Sum.inr x) (e.val ρ)))) D nm (fun n => if n = x then e.val ρ else ρ n) ∧ EnvOk nm (fun n => if n = x then e.val ρ else ρ n) := fun okv => env_put ho (env_keep k3 (by simp) hE) hO hD3 hx okv
    have e9 : (10 : Int) ^ (9 : Int).toNat = 1000000000 := by decide
    have okv := val_ok hO te
    rcases hso with rfl | rfl
    · obtain ⟨i9, hi9, _⟩ := okv
      refine ⟨_, rfl, .inl ⟨i9, congrArg (fun v => [v]) hi9, _, _, rfl, rfl, ⟨by decide, by decide, by decide⟩, _, _, rfl, rfl, _, rfl, ite2 (fun c4 => ?_) (fun _ => ?_)⟩⟩
      · have c4' := of_decide_eq_true c4
        rw [e9] at c4'
        obtain ⟨hE', hO'⟩ := go ⟨i9, hi9, by split at c4' <;> omega⟩
        have hso : So.num = .num ∨ So.num = .flag := .inl rfl
        refine ⟨_, rfl, _, rfl, _, rfl, p3, _, _, _, g3, rfl, SqT.of hf3, atI_nat (j := 1) rfl, D, _, rfl, DPut.k (k := Sum.inr x) hD3 (small1000 (by omega)), ?_⟩
        refine ⟨_, rfl, _, rfl, v1, D, _, _, nm, (fun n => if n = x then e.val ρ else ρ n), rfl, rep_keep (kx) ra1, te, hE', hO', sm1, (by omega), fun H6 k6 => ⟨_, rfl, _, rfl, v2, D, _, _, nm, (fun n => if n = x then e.val ρ else ρ n), rfl, rep_keep ((kx).trans k6.nil) ra2, tf, env_keep k6 (by simp) (hE'), hO', sm2, (by omega), fun H7 k7 => ?_⟩⟩
        refine ⟨scal_of hso (val_ok (hO') te) (val_ok (hO') tf), _, rfl, rfl, _, rfl, ite2 (fun _ => ?_) (fun _ => ?_)⟩
        · exact ⟨_, rfl, q D H7 ((fun n => if n = x then e.val ρ else ρ n)) nD0 (ka.trans ((kx).trans (k6.trans k7).nil)) (src_keep0 (k6.trans k7) (sx)) (env_keep (k6.trans k7) (by simp) (hE')) (hO')⟩
        · exact ⟨D, _, _, rfl, ka.trans ((kx).trans (k6.trans k7).nil), src_keep0 (k6.trans k7) (sx), .inr ⟨nD0, (fun n => if n = x then e.val ρ else ρ n), env_keep (k6.trans k7) (by simp) (hE'), hO'⟩⟩
      · have hso : So.num = .num ∨ So.num = .flag := .inl rfl
        refine ⟨_, rfl, _, rfl, v1, D, _, _, nm, ρ, rfl, rep_keep (k2.trans k3.nil) ra1, te, env_keep k3 (by simp) hE, hO, sm1, (by omega), fun H6 k6 => ⟨_, rfl, _, rfl, v2, D, _, _, nm, ρ, rfl, rep_keep ((k2.trans k3.nil).trans k6.nil) ra2, tf, env_keep k6 (by simp) (env_keep k3 (by simp) hE), hO, sm2, (by omega), fun H7 k7 => ?_⟩⟩
        refine ⟨scal_of hso (val_ok (hO) te) (val_ok (hO) tf), _, rfl, rfl, _, rfl, ite2 (fun _ => ?_) (fun _ => ?_)⟩
        · exact ⟨_, rfl, q D H7 (ρ) nD0 (ka.trans ((k2.trans k3.nil).trans (k6.trans k7).nil)) (src_keep0 (k6.trans k7) (src_keep0 k3 s2)) (env_keep (k6.trans k7) (by simp) (env_keep k3 (by simp) hE)) (hO)⟩
        · exact ⟨D, _, _, rfl, ka.trans ((k2.trans k3.nil).trans (k6.trans k7).nil), src_keep0 (k6.trans k7) (src_keep0 k3 s2), .inr ⟨nD0, ρ, env_keep (k6.trans k7) (by simp) (env_keep k3 (by simp) hE), hO⟩⟩
    · obtain ⟨b9, hb9⟩ := okv
      refine ⟨_, rfl, .inr ⟨b9, congrArg (fun v => [v]) hb9, _, _, rfl, rfl, ⟨by decide, by decide, by decide⟩, _, _, rfl, rfl, _, rfl, ite2 (fun c4 => ?_) (fun _ => ?_)⟩⟩
      · obtain ⟨hE', hO'⟩ := go ⟨b9, hb9⟩
        have hso : So.flag = .num ∨ So.flag = .flag := .inr rfl
        refine ⟨_, rfl, _, rfl, _, rfl, p3, _, _, _, g3, rfl, SqT.of hf3, atI_nat (j := 1) rfl, D, _, rfl, DPut.k (k := Sum.inr x) hD3 (small1000 (by omega)), ?_⟩
        refine ⟨_, rfl, _, rfl, v1, D, _, _, nm, (fun n => if n = x then e.val ρ else ρ n), rfl, rep_keep (kx) ra1, te, hE', hO', sm1, (by omega), fun H6 k6 => ⟨_, rfl, _, rfl, v2, D, _, _, nm, (fun n => if n = x then e.val ρ else ρ n), rfl, rep_keep ((kx).trans k6.nil) ra2, tf, env_keep k6 (by simp) (hE'), hO', sm2, (by omega), fun H7 k7 => ?_⟩⟩
        refine ⟨scal_of hso (val_ok (hO') te) (val_ok (hO') tf), _, rfl, rfl, _, rfl, ite2 (fun _ => ?_) (fun _ => ?_)⟩
        · exact ⟨_, rfl, q D H7 ((fun n => if n = x then e.val ρ else ρ n)) nD0 (ka.trans ((kx).trans (k6.trans k7).nil)) (src_keep0 (k6.trans k7) (sx)) (env_keep (k6.trans k7) (by simp) (hE')) (hO')⟩
        · exact ⟨D, _, _, rfl, ka.trans ((kx).trans (k6.trans k7).nil), src_keep0 (k6.trans k7) (sx), .inr ⟨nD0, (fun n => if n = x then e.val ρ else ρ n), env_keep (k6.trans k7) (by simp) (hE'), hO'⟩⟩
      · have hso : So.flag = .num ∨ So.flag = .flag := .inr rfl
        refine ⟨_, rfl, _, rfl, v1, D, _, _, nm, ρ, rfl, rep_keep (k2.trans k3.nil) ra1, te, env_keep k3 (by simp) hE, hO, sm1, (by omega), fun H6 k6 => ⟨_, rfl, _, rfl, v2, D, _, _, nm, ρ, rfl, rep_keep ((k2.trans k3.nil).trans k6.nil) ra2, tf, env_keep k6 (by simp) (env_keep k3 (by simp) hE), hO, sm2, (by omega), fun H7 k7 => ?_⟩⟩
        refine ⟨scal_of hso (val_ok (hO) te) (val_ok (hO) tf), _, rfl, rfl, _, rfl, ite2 (fun _ => ?_) (fun _ => ?_)⟩
        · exact ⟨_, rfl, q D H7 (ρ) nD0 (ka.trans ((k2.trans k3.nil).trans (k6.trans k7).nil)) (src_keep0 (k6.trans k7) (src_keep0 k3 s2)) (env_keep (k6.trans k7) (by simp) (env_keep k3 (by simp) hE)) (hO)⟩
        · exact ⟨D, _, _, rfl, ka.trans ((k2.trans k3.nil).trans (k6.trans k7).nil), src_keep0 (k6.trans k7) (src_keep0 k3 s2), .inr ⟨nD0, ρ, env_keep (k6.trans k7) (by simp) (env_keep k3 (by simp) hE), hO⟩⟩
  · rintro σ Ha ⟨D, z1, z2, rfl, ka, sa, h⟩
    rcases h with h | ⟨nD, ρ, hE, hO⟩
    · cases h
    · exact ⟨_, rfl, q D Ha ρ nD ka sa hE hO⟩
end
end K80


set_option Elab.async false
set_option linter.all false
set_option maxRecDepth 100000
set_option maxHeartbeats 4000000
namespace K80
open PySem PySem.Spec PyProof.Rows L2 Lw
def told : So → Ex → Ex → Ex
  | .num, e, f => numTest e f
  | _, e, f => flagTest e f
theorem told_val {nm : So → List Str} {ρ : Str → V} (he : EnvOk nm ρ) {s : So} {e f : Ex} (hs : s = .num ∨ s = .flag) (h1 : Wt nm s e) (h2 : Wt nm s f) : (told s e f).val ρ = .bl (decide (e.val ρ = f.val ρ)) := by
  rcases hs with rfl | rfl
  · exact num_test he e f h1 h2
  · exact flag_test he e f h1 h2
theorem told_wt {nm : So → List Str} {s : So} {e f : Ex} (hs : s = .num ∨ s = .flag) (h1 : Wt nm s e) (h2 : Wt nm s f) : Wt nm .flag (told s e f) := by
  rcases hs with rfl | rfl
  · exact num_test_wt e f h1 h2
  · exact flag_test_wt e f h1 h2
theorem told_depth {s : So} {e f : Ex} (hs : s = .num ∨ s = .flag) : (told s e f).depth ≤ 2 * e.depth + 2 * f.depth + 3 := by
  rcases hs with rfl | rfl
  · have := num_test_depth e f
    show (numTest e f).depth ≤ _
    omega
  · exact flag_test_depth e f
theorem told_sm {s : So} {e f : Ex} (hs : s = .num ∨ s = .flag) (h1 : e.Sm) (h2 : f.Sm) : (told s e f).Sm := by
  rcases hs with rfl | rfl
  · exact num_test_sm e f h1 h2
  · exact flag_test_sm e f h1 h2
theorem al_flat {H : Hp} {n : Nat} {s : So} {m : Nat} {x y : V} (h : Ok s m x) (e : x = y) : Al H (n + 1) x y := .inl ⟨e, by
  cases s with
  | num => obtain ⟨i, rfl, _⟩ := h; rfl
  | flag => obtain ⟨b, rfl⟩ := h; rfl
  | ref => rcases h with rfl | ⟨i, rfl⟩ <;> rfl⟩
/-- two trees of one expression -/
theorem al_rep {H : Hp} : ∀ {e : Ex} {v u : V} {n : Nat}, Rep H v e → Rep H u e → e.depth + 2 ≤ n → Al H n v u
  | e, v, u, 0, _, _, h => by omega
  | e, v, u, 1, _, _, h => by omega
  | .null, _, _, n + 2, ⟨p, e1, h1⟩, ⟨q, e2, h2⟩, _ => .inr ⟨p, q, _, _, e1, e2, h1, h2, rfl, (by decide), fun i a b ha hb => by
      match i with
      | 0 => cases ha; cases hb; exact .inl ⟨rfl, rfl⟩
      | i + 1 => cases ha⟩
  | .name _, _, _, n + 2, ⟨p, e1, h1⟩, ⟨q, e2, h2⟩, _ => .inr ⟨p, q, _, _, e1, e2, h1, h2, rfl, (by show 2 ≤ 1000; decide), fun i a b ha hb => by
      match i with
      | 0 => cases ha; cases hb; exact .inl ⟨rfl, rfl⟩
      | 1 => cases ha; cases hb; exact .inl ⟨rfl, rfl⟩
      | i + 2 => cases ha⟩
  | .num _, _, _, n + 2, ⟨p, e1, h1⟩, ⟨q, e2, h2⟩, _ => .inr ⟨p, q, _, _, e1, e2, h1, h2, rfl, (by show 2 ≤ 1000; decide), fun i a b ha hb => by
      match i with
      | 0 => cases ha; cases hb; exact .inl ⟨rfl, rfl⟩
      | 1 => cases ha; cases hb; exact .inl ⟨rfl, rfl⟩
      | i + 2 => cases ha⟩
  | .flag _, _, _, n + 2, ⟨p, e1, h1⟩, ⟨q, e2, h2⟩, _ => .inr ⟨p, q, _, _, e1, e2, h1, h2, rfl, (by show 2 ≤ 1000; decide), fun i a b ha hb => by
      match i with
      | 0 => cases ha; cases hb; exact .inl ⟨rfl, rfl⟩
      | 1 => cases ha; cases hb; exact .inl ⟨rfl, rfl⟩
      | i + 2 => cases ha⟩
  | .un a, _, _, n + 2, ⟨p, va, e1, h1, r1⟩, ⟨q, vb, e2, h2, r2⟩, h => .inr ⟨p, q, _, _, e1, e2, h1, h2, rfl, (by show 2 ≤ 1000; decide), fun i x y ha hb => by
      have hd : a.depth + 1 + 2 ≤ n + 2 := h
      match i with
      | 0 => cases ha; cases hb; exact .inl ⟨rfl, rfl⟩
      | 1 => cases ha; cases hb; exact al_rep r1 r2 (by omega)
      | i + 2 => cases ha⟩
  | .bin w a b, _, _, n + 2, ⟨p, va, vb, e1, h1, r1, r1'⟩, ⟨q, ua, ub, e2, h2, r2, r2'⟩, h => .inr ⟨p, q, _, _, e1, e2, h1, h2, rfl, (by show 3 ≤ 1000; decide), fun i x y ha hb => by
      have hd : max a.depth b.depth + 1 + 2 ≤ n + 2 := h
      match i with
      | 0 => cases ha; cases hb; exact .inl ⟨rfl, rfl⟩
      | 1 => cases ha; cases hb; exact al_rep r1 r2 (by omega)
      | 2 => cases ha; cases hb; exact al_rep r1' r2' (by omega)
      | i + 3 => cases ha⟩
/-- a list of environments -/
def EnvsAt (H : Hp) (L : Addr) (nm : So → List Str) (Ds : List Addr) : Prop := H L = some (.lst (Ds.map V.ref)) ∧ ∀ D ∈ Ds, ∃ ρ, EnvAt H D nm ρ ∧ EnvOk nm ρ
theorem envs_keep {H H' : Hp} {L : Addr} {nm : So → List Str} {Ds : List Addr} (k : Kt [] H H') (h : EnvsAt H L nm Ds) : EnvsAt H' L nm Ds := by
  refine ⟨k.get0 h.1, fun D hD => ?_⟩
  obtain ⟨ρ, h1, h2⟩ := h.2 D hD
  exact ⟨ρ, env_keep k (by simp) h1, h2⟩
theorem ref_at {Ds : List Addr} {i : Nat} {x : V} (h : (Ds.map V.ref)[i]? = some x) : ∃ D, x = .ref D ∧ D ∈ Ds := by
  have h1 := List.mem_of_getElem? h
  obtain ⟨D, hD, rfl⟩ := List.mem_map.mp h1
  exact ⟨D, rfl, hD⟩
section
variable {P : Program} {w : World} {K : PySem.W.Frag} {mg : Str → Option Value} {base : Heap} (T : Facts K mg)
include T
def sp_told : Sp := fun vs H Q _ => ∃ (v1 v2 : V) (s : So) (e f : Ex), vs = [.str s.str, v1, v2] ∧ (s = .num ∨ s = .flag) ∧ Rep H v1 e ∧ Rep H v2 f ∧ e.depth ≤ 6 ∧ ∀ v H', Kt [] H H' → Rep H' v (told s e f) → Q v H'
theorem ok_told : Df P w K mg base 9 "_law_told" ["sort", "e", "f"] sp_told := by
  have D_number_test := ok_num (P := P) (w := w) (base := base) T 7
  have D_flag_test := ok_flag (P := P) (w := w) (base := base) T 7
  refine Lw.Df.mk (T.d__law_told) sc__law_told (fun _ _ _ _ _ _ us hl => match us, hl with | [_, _, _], _ => rfl) (fun vs H Q E h => ?_) (fun f cdv A outer s H vs Q E hr h => ?_)
  · obtain ⟨_, _, _, _, _, rfl, _⟩ := h
    rfl
  have sc := sc__law_told
  obtain ⟨v1, v2, so, e, f, rfl, hso, r1, r2, de, q⟩ := h
  refine ⟨_, (pss_cons (ps_if (pt_cmpR op_eq (pv 0) pe_str (nomark _))
(pss_one (ps_ret (Lw.pe_d D_number_test (hr.mono (by omega)) (pa_cons (pv 1) (pa_cons (pv 2) pa_nil)))))
pss_nil)
(pss_one (ps_ret (Lw.pe_d D_flag_test (hr.mono (by omega)) (pa_cons (pv 1) (pa_cons (pv 2) pa_nil)))))), ?_⟩
  rcases hso with rfl | rfl
  · refine ⟨_, rfl, rfl, _, rfl, iteB true (by decide +kernel) (iteT ?_)⟩
    exact ⟨_, rfl, _, rfl, v1, v2, e, f, rfl, r1, r2, by omega, q⟩
  · refine ⟨_, rfl, rfl, _, rfl, iteB false (by decide +kernel) (iteF ?_)⟩
    exact ⟨_, rfl, _, rfl, v1, v2, e, f, rfl, r1, r2, by omega, q⟩
def sp_right : Sp := fun vs H Q _ => ∃ (v1 v2 : V) (L : Addr) (s : So) (nm : So → List Str) (e f : Ex) (Ds : List Addr), vs = [.str s.str, v1, v2, .ref L] ∧ (s = .num ∨ s = .flag) ∧ Rep H v1 e ∧ Rep H v2 f ∧ Wt nm s e ∧ Wt nm s f ∧ e.depth ≤ 6 ∧ f.depth ≤ 6 ∧ EnvsAt H L nm Ds ∧ ∀ H', Kt [] H H' → Q (.bl true) H'
theorem ok_right : Df P w K mg base 40 "_law_right" ["sort", "e", "f", "envs"] sp_right := by
  have D__law_value := ok_lval (P := P) (w := w) (base := base) T 30
  have D_evaluate := ok_eval (P := P) (w := w) (base := base) T 30
  have D__law_same := ok_same (P := P) (w := w) (base := base) T 1
  have D__law_told := ok_told (P := P) (w := w) (base := base) T
  refine Lw.Df.mk (T.d__law_right) sc__law_right (fun _ _ _ _ _ _ us hl => match us, hl with | [_, _, _, _], _ => rfl) (fun vs H Q E h => ?_) (fun f cdv A outer s H vs Q E hr h => ?_)
  · obtain ⟨_, _, _, _, _, _, _, _, rfl, _⟩ := h
    rfl
  have sc := sc__law_right
  obtain ⟨v1, v2, L, so, nm, e, f, Ds, rfl, hso, r1, r2, te, tf, de, df, hE, q⟩ := h
  refine ⟨_, (pss_cons (ps_for PassesOwn.never rfl (pi_list (pv 3)) (pg_name (i := 4) sc.nd rfl (by first | exact Or.inl rfl | exact Or.inr rfl))
(pss_one (ps_for PassesOwn.never rfl (pi_list (pe_lst (pa_cons (pv 1) (pa_cons (pv 2) pa_nil)))) (pg_name (i := 5) sc.nd rfl (by first | exact Or.inl rfl | exact Or.inr rfl))
(pss_cons (ps_set (i := 6) sc.nd rfl (by first | exact Or.inl rfl | exact Or.inr rfl) (Lw.pe_d D__law_value (hr.mono (by omega)) (pa_cons (pv 5) (pa_cons (pv 4) pa_nil))))
(pss_one (ps_if (pt_not (pt_val (Lw.pe_d D__law_same (hr.mono (by omega)) (pa_cons (Lw.pe_d D_evaluate (hr.mono (by omega)) (pa_cons (pv 5) (pa_cons (pe_callTy call_dictD (by rfl) T.z_dict boot_dict (pa_cons (pv 4) pa_nil)) pa_nil))) (pa_cons (pv 6) pa_nil)))))
(pss_one (ps_ret pe_bl))
pss_nil))))))
(pss_cons (ps_for PassesOwn.never rfl (pi_list (pe_lst (pa_cons (pe_tup (pa_cons (pv 1) (pa_cons (pv 2) pa_nil))) (pa_cons (pe_tup (pa_cons (pv 2) (pa_cons (pv 1) pa_nil))) pa_nil)))) (pg_name (i := 7) sc.nd rfl (by first | exact Or.inl rfl | exact Or.inr rfl))
(pss_cons (ps_set (i := 8) sc.nd rfl (by first | exact Or.inl rfl | exact Or.inr rfl) (Lw.pe_d D__law_told (hr.mono (by omega)) (pa_cons (pv 0) (pa_cons (pe_ix ix_tup (pv 7) pe_int (fun _ _ => rfl)) (pa_cons (pe_ix ix_tup (pv 7) pe_int (fun _ _ => rfl)) pa_nil)))))
(pss_one (ps_for PassesOwn.never rfl (pi_list (pv 3)) (pg_name (i := 4) sc.nd rfl (by first | exact Or.inl rfl | exact Or.inr rfl))
(pss_cons (ps_set (i := 9) sc.nd rfl (by first | exact Or.inl rfl | exact Or.inr rfl) (pe_cmpR op_eq (Lw.pe_d D__law_value (hr.mono (by omega)) (pa_cons (pv 1) (pa_cons (pv 4) pa_nil))) (Lw.pe_d D__law_value (hr.mono (by omega)) (pa_cons (pv 2) (pa_cons (pv 4) pa_nil))) (nomark _)))
(pss_cons (ps_set (i := 10) sc.nd rfl (by first | exact Or.inl rfl | exact Or.inr rfl) (pe_callTy call_dictD (by rfl) T.z_dict boot_dict (pa_cons (pv 4) pa_nil)))
(pss_one (ps_if (PW.pt (pw_or (pt_not (pt_val (Lw.pe_d D__law_same (hr.mono (by omega)) (pa_cons (Lw.pe_d D__law_value (hr.mono (by omega)) (pa_cons (pv 8) (pa_cons (pv 4) pa_nil))) (pa_cons (pv 9) pa_nil))))) (pw_or (pt_not (pt_val (Lw.pe_d D__law_same (hr.mono (by omega)) (pa_cons (Lw.pe_d D_evaluate (hr.mono (by omega)) (pa_cons (pv 8) (pa_cons (pv 10) pa_nil))) (pa_cons (pv 9) pa_nil))))) (pw_or1 (pt_cmpR (op_ne_dictA (Lw.hu0 hr)) (pv 10) (pv 4) (nomark _))))))
(pss_one (ps_ret pe_bl))
pss_nil))))))))
(pss_one (ps_ret pe_bl)))), ?_⟩
  have sm1 := sm_of e (by omega)
  have sm2 := sm_of f (by omega)
  -- the values
  refine ⟨_, rfl, L, rfl, ⟨_, SqL.of hE.1⟩, ?_⟩
  refine for_list (xs := Ds.map V.ref) (fun i σ Ha => ∃ z1 z2 z3, σ = [some (.str so.str), some v1, some v2, some (.ref L), z1, z2, z3, none, none, none, none] ∧ Kt [] H Ha) ⟨none, none, none, rfl, Kt.refl _⟩ (fun i σ Ha _ ⟨_, _, _, _, ka⟩ => SqL.of (ka.get0 hE.1)) ?_ ?_
  · rintro i x σ Ha hi ⟨z1, z2, z3, rfl, ka⟩
    obtain ⟨D, rfl, hD⟩ := ref_at hi
    obtain ⟨ρ, hEa, hOa⟩ := (envs_keep ka hE).2 D hD
    change tFor _ _ _ _ [_, _, _, _, _, _, _, _, _, _, _] _
    refine ⟨_, rfl, _, rfl, (by show 2 ≤ sizeLine; decide), fun l nl => ⟨l, rfl, ⟨_, SqL.of upd_same⟩, for_listU (SqL.of upd_same) ?_⟩⟩
    have kl : Kt [] Ha (upd Ha l (.lst [v1, v2])) := Kt.new nl
    have gl : (upd Ha l (.lst [v1, v2])) l = some (.lst [v1, v2]) := upd_same
    generalize upd Ha l (.lst [v1, v2]) = Hb at kl gl ⊢
    have kb := ka.trans kl
    have hEb := env_keep kl (by simp) hEa
    -- e
    change forU _ _ _ _ _ [_, _, _, _, _, _, _, _, _, _, _] _
    refine ⟨_, rfl, _, rfl, v1, D, e, so, nm, ρ, rfl, rep_keep kb r1, te, hEb, hOa, sm1, (by omega), fun H3 k3 => ?_⟩
    obtain ⟨kvs, hD3, _⟩ := id (env_keep k3 (by simp) hEb)
    refine ⟨_, rfl, _, rfl, D, kvs, rfl, .inl hD3, fun p4 n4 => ?_⟩
    have k4 : Kt [] H3 (upd H3 p4 (.dK kvs)) := Kt.new n4
    have hE4 : EnvAt (upd H3 p4 (.dK kvs)) p4 nm ρ := by
      obtain ⟨kvs', h1, h0, h2⟩ := env_keep k3 (by simp) hEb
      rw [hD3] at h1
      cases h1
      exact ⟨_, upd_same, h0, h2⟩
    refine ⟨v1, p4, e, so, nm, ρ, rfl, rep_keep (kb.trans (k3.trans k4)) r1, te, hE4, hOa, sm1, (by omega), ?_⟩
    refine ⟨_, rfl, _, _, rfl, al_flat (val_ok hOa te) rfl, fun H5 k5 => ⟨_, rfl, iteF ⟨SqL.of ((k3.trans (k4.trans k5)).get0 gl), ?_⟩⟩⟩
    -- f
    have kc := kl.trans (k3.trans (k4.trans k5))
    have hEc := env_keep kc (by simp) hEa
    have kd := ka.trans kc
    change forU _ _ _ _ _ [_, _, _, _, _, _, _, _, _, _, _] _
    refine ⟨_, rfl, _, rfl, v2, D, f, so, nm, ρ, rfl, rep_keep kd r2, tf, hEc, hOa, sm2, (by omega), fun H6 k6 => ?_⟩
    obtain ⟨kvs6, hD6, _⟩ := id (env_keep k6 (by simp) hEc)
    refine ⟨_, rfl, _, rfl, D, kvs6, rfl, .inl hD6, fun p7 n7 => ?_⟩
    have k7 : Kt [] H6 (upd H6 p7 (.dK kvs6)) := Kt.new n7
    have hE7 : EnvAt (upd H6 p7 (.dK kvs6)) p7 nm ρ := by
      obtain ⟨kvs', h1, h0, h2⟩ := env_keep k6 (by simp) hEc
      rw [hD6] at h1
      cases h1
      exact ⟨_, upd_same, h0, h2⟩
    refine ⟨v2, p7, f, so, nm, ρ, rfl, rep_keep (kd.trans (k6.trans k7)) r2, tf, hE7, hOa, sm2, (by omega), ?_⟩
    refine ⟨_, rfl, _, _, rfl, al_flat (val_ok hOa tf) rfl, fun H8 k8 => ⟨_, rfl, iteF ⟨SqL.of ((k3.trans (k4.trans (k5.trans (k6.trans (k7.trans k8))))).get0 gl), ?_⟩⟩⟩
    exact ⟨_, _, _, rfl, kd.trans (k6.trans (k7.trans k8))⟩
  rintro σ Ha ⟨z1, z2, z3, rfl, ka⟩
  -- the tests
  change tSeq _ _ _ [_, _, _, _, _, _, _, _, _, _, _] _
  refine ⟨_, rfl, _, rfl, (by show 2 ≤ sizeLine; decide), fun tp1 n_tp1 => ?_⟩
  have k_tp1 : Kt [] Ha (upd Ha tp1 (.tup [v1, v2])) := Kt.new n_tp1
  have g_tp1 : (upd Ha tp1 (.tup [v1, v2])) tp1 = some (.tup [v1, v2]) := upd_same
  generalize upd Ha tp1 (.tup [v1, v2]) = H_tp1 at k_tp1 g_tp1 ⊢
  refine ⟨_, rfl, _, rfl, (by show 2 ≤ sizeLine; decide), fun tp2 n_tp2 => ?_⟩
  have k_tp2 : Kt [] H_tp1 (upd H_tp1 tp2 (.tup [v2, v1])) := Kt.new n_tp2
  have g_tp2 : (upd H_tp1 tp2 (.tup [v2, v1])) tp2 = some (.tup [v2, v1]) := upd_same
  generalize upd H_tp1 tp2 (.tup [v2, v1]) = H_tp2 at k_tp2 g_tp2 ⊢
  replace g_tp1 := k_tp2.get0 g_tp1
  refine ⟨(by show 2 ≤ sizeLine; decide), fun LP n_LP => ?_⟩
  have k_LP : Kt [] H_tp2 (upd H_tp2 LP (.lst [.ref tp1, .ref tp2])) := Kt.new n_LP
  have g_LP : (upd H_tp2 LP (.lst [.ref tp1, .ref tp2])) LP = some (.lst [.ref tp1, .ref tp2]) := upd_same
  generalize upd H_tp2 LP (.lst [.ref tp1, .ref tp2]) = H_LP at k_LP g_LP ⊢
  replace g_tp1 := k_LP.get0 g_tp1
  replace g_tp2 := k_LP.get0 g_tp2
  have kq : Kt [] Ha H_LP := k_tp1.trans (k_tp2.trans (k_LP))
  have kb := ka.trans kq
  refine ⟨LP, rfl, ⟨_, SqL.of g_LP⟩, ?_⟩
  -- one pair
  have pair : ∀ (i : Nat) (x : V), ([V.ref tp1, .ref tp2] : List V)[i]? = some x → ∃ (t : Addr) (a b : Ex) (va vb : V), x = .ref t ∧ H_LP t = some (.tup [va, vb]) ∧ Rep H_LP va a ∧ Rep H_LP vb b ∧ Wt nm so a ∧ Wt nm so b ∧ a.depth ≤ 6 ∧ b.depth ≤ 6 ∧ a.Sm ∧ b.Sm ∧ ∀ ρ, decide (a.val ρ = b.val ρ) = decide (e.val ρ = f.val ρ) := fun i x h => by
    match i, h with
    | 0, h => cases h; exact ⟨tp1, e, f, v1, v2, rfl, g_tp1, rep_keep kb r1, rep_keep kb r2, te, tf, de, df, sm1, sm2, fun _ => rfl⟩
    | 1, h => cases h; exact ⟨tp2, f, e, v2, v1, rfl, g_tp2, rep_keep kb r2, rep_keep kb r1, tf, te, df, de, sm2, sm1, fun ρ => by
        by_cases h : e.val ρ = f.val ρ
        · rw [h]
        · rw [decide_eq_false h, decide_eq_false fun z => h z.symm]⟩
  refine for_list (xs := [V.ref tp1, .ref tp2]) (fun i σ Hc => ∃ y1 y2 y3 y4 y5 y6 y7, σ = [some (.str so.str), some v1, some v2, some (.ref L), y1, y2, y3, y4, y5, y6, y7] ∧ Kt [] H_LP Hc) ⟨_, _, _, _, _, _, _, rfl, Kt.refl _⟩ (fun i σ Hc _ ⟨_, _, _, _, _, _, _, _, kc⟩ => SqL.of (kc.get0 g_LP)) ?_ ?_
  · rintro i x σ Hc hi ⟨y1, y2, y3, y4, y5, y6, y7, rfl, kc⟩
    obtain ⟨t, a, b, va, vb, rfl, ht, ra, rb, ta, tb, da, db, sa, sb, hsame⟩ := pair i x hi
    have htc := kc.tup ht
    change tSeq _ _ _ [_, _, _, _, _, _, _, _, _, _, _] _
    refine ⟨_, rfl, _, rfl, t, _, _, _, rfl, rfl, SqT.of htc, atI_nat (j := 0) rfl, _, rfl, t, _, _, _, rfl, rfl, SqT.of htc, atI_nat (j := 1) rfl, va, vb, so, a, b, rfl, hso, rep_keep kc ra, rep_keep kc rb, da, fun vt Hd kd rt => ?_⟩
    have wtt := told_wt (nm := nm) hso ta tb
    have dt := told_depth (e := a) (f := b) hso
    have smt := told_sm hso sa sb
    have kbd := kb.trans (kc.trans kd)
    refine ⟨_, rfl, L, rfl, ⟨_, SqL.of (kbd.get0 hE.1)⟩, ?_⟩
    refine for_list (xs := Ds.map V.ref) (fun j σ He => ∃ x1 x2 x3 x4, σ = [some (.str so.str), some v1, some v2, some (.ref L), x1, y2, y3, some (.ref t), some vt, x2, x3] ∧ x4 = () ∧ Kt [] Hd He) ⟨_, _, _, (), rfl, rfl, Kt.refl _⟩ (fun j σ He _ ⟨_, _, _, _, _, _, ke⟩ => SqL.of (ke.get0 (kbd.get0 hE.1))) ?_ ?_
    · rintro j y σ He hj ⟨x1, x2, x3, x4, rfl, _, ke⟩
      obtain ⟨D, rfl, hD⟩ := ref_at hj
      have kA := kbd.trans ke
      obtain ⟨ρ, hEa, hOa⟩ := (envs_keep kA hE).2 D hD
      change tSeq _ _ _ [_, _, _, _, _, _, _, _, _, _, _] _
      refine ⟨_, rfl, _, rfl, v1, D, e, so, nm, ρ, rfl, rep_keep kA r1, te, hEa, hOa, sm1, (by omega), fun H2 k2 => ⟨_, rfl, _, rfl, v2, D, f, so, nm, ρ, rfl, rep_keep (kA.trans k2) r2, tf, env_keep k2 (by simp) hEa, hOa, sm2, (by omega), fun H3 k3 => ⟨scal_of hso (val_ok hOa te) (val_ok hOa tf), ?_⟩⟩⟩
      have hE3 := env_keep (k2.trans k3) (by simp) hEa
      obtain ⟨kvs, hD3, hcl, _⟩ := id hE3
      refine ⟨_, rfl, D, kvs, rfl, .inl hD3, fun p4 n4 => ?_⟩
      have k4 : Kt [] H3 (upd H3 p4 (.dK kvs)) := Kt.new n4
      have g4 : (upd H3 p4 (.dK kvs)) p4 = some (.dK kvs) := upd_same
      generalize upd H3 p4 (.dK kvs) = H4 at k4 g4 ⊢
      have hE4 : EnvAt H4 p4 nm ρ := by
        obtain ⟨kvs', h1, h0, h2⟩ := hE3
        rw [hD3] at h1
        cases h1
        exact ⟨_, g4, h0, h2⟩
      have kB := k2.trans (k3.trans k4)
      have hE4D := env_keep kB (by simp) hEa
      have rt4 := rep_keep (ke.trans kB) rt
      have tv := told_val hOa hso ta tb
      rw [hsame ρ] at tv
      refine ⟨_, rfl, _, rfl, vt, D, told so a b, .flag, nm, ρ, rfl, rt4, wtt, hE4D, hOa, smt, (by omega), fun H5 k5 => ?_⟩
      refine ⟨_, rfl, _, _, rfl, al_flat (s := .flag) (m := 0) ⟨_, tv⟩ tv, fun H6 k6 => ⟨_, rfl, iteF ?_⟩⟩
      have kC := k5.trans k6
      refine ⟨_, rfl, _, rfl, vt, p4, told so a b, .flag, nm, ρ, rfl, rep_keep kC rt4, wtt, env_keep kC (by simp) hE4, hOa, smt, (by omega), ?_⟩
      refine ⟨_, rfl, _, _, rfl, al_flat (s := .flag) (m := 0) ⟨_, tv⟩ tv, fun H7 k7 => ⟨_, rfl, iteF ?_⟩⟩
      have kD := kC.trans k7
      refine ⟨_, rfl, _, rfl, p4, D, kvs, kvs, rfl, rfl, kD.get0 g4, kD.get0 (k4.get0 hD3), rfl, clean_get hcl, _, rfl, iteF ?_⟩
      exact ⟨_, _, _, (), rfl, rfl, ke.trans (kB.trans kD)⟩
    · rintro σ He ⟨x1, x2, x3, x4, rfl, _, ke⟩
      exact ⟨_, _, _, _, _, _, _, rfl, kc.trans (kd.trans ke)⟩
  · rintro σ Hc ⟨y1, y2, y3, y4, y5, y6, y7, rfl, kc⟩
    exact q _ (kb.trans kc)
end
end K80


set_option Elab.async false
set_option linter.all false
set_option maxRecDepth 100000
set_option maxHeartbeats 4000000
namespace K80
open PySem PySem.Spec PyProof.Rows L2 Lw
theorem nm_keepF {S : List Addr} {H H' : Hp} {d : Addr} {nm : So → List Str} (k : Kt S H H') (n : ∀ b ∈ S, IntL H b ∨ H b = none) (h : NmAt H d nm) : NmAt H' d nm := by
  obtain ⟨l, h1, h2⟩ := h
  have off : ∀ {c : Addr} {o : HO}, H c = some o → (∀ i r, o ≠ .lst (.int i :: r)) → c ∉ S := fun hc d z => by
    rcases n _ z with g | g
    · exact g.ne hc d rfl
    · rw [g] at hc
      cases hc
  exact ⟨l, k.get h1 (off h1 fun _ _ z => nomatch z), fun s => k.get (h2 s) (off (h2 s) fun _ _ => (strs_no).elim id fun z => z.elim)⟩
/-- a row that was asked -/
def RowOk (H : Hp) (r : Addr) : Prop := ∃ (s : So) (v1 v2 v3 : V) (e f : Ex), H r = some (.lst [.str s.str, v1, v2, v3]) ∧ (s = .num ∨ s = .flag) ∧ Rep H v1 e ∧ Rep H v2 f ∧ Rep H v3 (told s e f) ∧ e.depth ≤ 6 ∧ f.depth ≤ 6
def Rows (H : Hp) (A : Addr) (m : Nat) : Prop := ∃ rows : List Addr, H A = some (.lst (rows.map V.ref)) ∧ rows.length ≤ m ∧ ∀ r ∈ rows, RowOk H r
theorem row_keep {S : List Addr} {H H' : Hp} {r : Addr} (k : Kt S H H') (n : ∀ b ∈ S, ∀ s v, H b ≠ some (.lst (.str s :: v))) (h : RowOk H r) : RowOk H' r := by
  obtain ⟨s, v1, v2, v3, e, f, h1, h2, h3, h4, h5, h6⟩ := h
  exact ⟨s, v1, v2, v3, e, f, k.get h1 fun z => n r z _ _ h1, h2, rep_keep k h3, rep_keep k h4, rep_keep k h5, h6⟩
theorem refs_no {rows : List Addr} {i : Int} {r : List V} : HO.lst (rows.map V.ref) ≠ .lst (.int i :: r) := by
  intro z
  injection z with z
  cases rows with
  | nil => cases z
  | cons a b => injection z with z1 z2; cases z1
theorem rows_keep {H H' : Hp} {A p : Addr} {m : Nat} (k : Kt [p] H H') (s : Src H p) (h : Rows H A m) : Rows H' A m := by
  obtain ⟨rows, h1, h2, h3⟩ := h
  refine ⟨rows, k.get h1 ?_, h2, fun r hr => row_keep k (fun b hb st v => ?_) (h3 r hr)⟩
  · simpa using src_ne s h1 (fun _ _ => refs_no)
  · rw [List.mem_singleton.mp hb]
    obtain ⟨c, d, i, hs⟩ := s
    rw [hs]
    intro z
    cases z
theorem rows_keep0 {H H' : Hp} {A : Addr} {m : Nat} (k : Kt [] H H') (h : Rows H A m) : Rows H' A m := by
  obtain ⟨rows, h1, h2, h3⟩ := h
  exact ⟨rows, k.get0 h1, h2, fun r hr => row_keep k (fun _ z => nomatch z) (h3 r hr)⟩
theorem sorts4 (i : Nat) (h : i < 4) : ∃ s : So, (s = .num ∨ s = .flag) ∧ atI [V.str "num", .str "flag", .str "flag", .str "num"] (0 + (i : Int)) = some (.str s.str) := by
  match i, h with
  | 0, _ => exact ⟨.num, .inl rfl, rfl⟩
  | 1, _ => exact ⟨.flag, .inr rfl, rfl⟩
  | 2, _ => exact ⟨.flag, .inr rfl, rfl⟩
  | 3, _ => exact ⟨.num, .inl rfl, rfl⟩
theorem sql_keep0 {K : PySem.W.Frag} {H H' : Hp} {l : Addr} {xs : List V} (h : SqL K H l xs) (k : Kt [] H H') : SqL K H' l xs := sql_keep h k.1 (by simp)
section
variable {P : Program} {w : World} {K : PySem.W.Frag} {mg : Str → Option Value} {base : Heap} (T : Facts K mg)
include T
def spLaw (K : PySem.W.Frag) : Sp := fun vs H Q _ => ∃ (a : Addr) (ns : List Int), vs = [.ref a] ∧ SqL K H a (ns.map V.int) ∧ ns.length ≤ 63 ∧ ∀ H', Q (.bl true) H'
theorem ok_law : Df P w K mg base 100 "law" ["script"] (spLaw K) := by
  have D__law_cell := ok_cell (P := P) (w := w) (base := base) T
  have D__law_source := ok_source (P := P) (w := w) (base := base) T
  have D__law_names := ok_names (P := P) (w := w) (base := base) T
  have D__law_pick := ok_pick2 (P := P) (w := w) (base := base) T
  have D__law_two := ok_two (P := P) (w := w) (base := base) T
  have D__law_found := ok_found (P := P) (w := w) (base := base) T
  have D__law_right := ok_right (P := P) (w := w) (base := base) T
  have D__law_told := ok_told (P := P) (w := w) (base := base) T
  have D__law_same := ok_same (P := P) (w := w) (base := base) T 40
  refine Lw.Df.mk (T.d_law) sc_law (fun _ _ _ _ _ _ us hl => match us, hl with | [_], _ => rfl) (fun vs H Q E h => ?_) (fun f cdv A outer s H vs Q E hr h => ?_)
  · obtain ⟨_, _, rfl, _⟩ := h
    rfl
  have sc := sc_law
  obtain ⟨a, ns, rfl, hS, h63, q⟩ := h
  refine ⟨_, (pss_cons (ps_set (i := 1) sc.nd rfl (by first | exact Or.inl rfl | exact Or.inr rfl) (pe_lst pa_nil))
(pss_cons (ps_for PassesOwn.never rfl (pi_range1 rfl T.z_range (pa_cons pe_int pa_nil)) (pg_name (i := 2) sc.nd rfl (by first | exact Or.inl rfl | exact Or.inr rfl))
(pss_cons (ps_set (i := 3) sc.nd rfl (by first | exact Or.inl rfl | exact Or.inr rfl) (Lw.pe_d D__law_source (hr.mono (by omega)) (pa_cons (pe_op op_add (Lw.pe_d D__law_cell (hr.mono (by omega)) (pa_cons (pv 0) (pa_cons (pv 2) pa_nil))) (pv 2)) pa_nil)))
(pss_cons (ps_set (i := 4) sc.nd rfl (by first | exact Or.inl rfl | exact Or.inr rfl) (Lw.pe_d D__law_names (hr.mono (by omega)) (pa_cons (pv 3) pa_nil)))
(pss_cons (ps_set (i := 5) sc.nd rfl (by first | exact Or.inl rfl | exact Or.inr rfl) (pe_and (pe_cmpR op_eq (pv 2) pe_int (nomark _)) (pe_one (pe_cmpR op_eq (Lw.pe_d D__law_pick (hr.mono (by omega)) (pa_cons (pv 3) (pa_cons pe_int pa_nil))) pe_int (nomark _)))))
(pss_one (ps_for PassesOwn.never rfl (pi_range1 rfl T.z_range (pa_cons pe_int pa_nil)) (pg_name (i := 6) sc.nd rfl (by first | exact Or.inl rfl | exact Or.inr rfl))
(pss_cons (ps_set (i := 7) sc.nd rfl (by first | exact Or.inl rfl | exact Or.inr rfl) (pe_ix ix_list (pe_lst (pa_cons pe_str (pa_cons pe_str (pa_cons pe_str (pa_cons pe_str pa_nil))))) (pv 6) (fun _ _ => rfl)))
(pss_cons (ps_asg (Lw.pe_d D__law_two (hr.mono (by omega)) (pa_cons (pv 3) (pa_cons (pv 4) (pa_cons (pv 7) (pa_cons (pe_and (pv 5) (pe_one (pe_cmpR op_lt (pv 6) pe_int (nomark _)))) pa_nil))))) (pg_tup rfl (pgs_cons (pg_name (i := 8) sc.nd rfl (by first | exact Or.inl rfl | exact Or.inr rfl)) (pgs_cons (pg_name (i := 9) sc.nd rfl (by first | exact Or.inl rfl | exact Or.inr rfl)) pgs_nil))))
(pss_cons (ps_setLc (i := 10) (own := [("turn", 11)]) (by rfl) sc.nd rfl rfl (sw_true rfl rfl rfl (by decide +kernel)) (pi_range1 rfl T.z_range (pa_cons pe_int pa_nil)) (blkOk_by (own := [("turn", 11)]) (N := ["script", "asked", "at", "source", "names", "large", "k", "sort", "e", "f", "envs", "turn", "row"]) (sc := defScope (top 28)) (by decide +kernel)) (fun _ _ _ _ _ => (pg_name (i := 11) sc.nd rfl (by first | exact Or.inl rfl | exact Or.inr rfl))) (fun _ _ _ _ _ => pts_nil) (fun _ _ _ _ _ => (Lw.pe_d D__law_found (hr.mono (by omega)) (pa_cons (pv 3) (pa_cons (pv 4) (pa_cons (pv 8) (pa_cons (pv 9) (pa_cons (pe_cmpR op_eq (pe_op op_mod (pe_callTy call_int1 (by rfl) T.z_int boot_int (pa_cons (pv 11) pa_nil)) pe_int) pe_int (nomark _)) pa_nil))))))))
(pss_cons (ps_if (pt_not (pt_val (Lw.pe_d D__law_right (hr.mono (by omega)) (pa_cons (pv 7) (pa_cons (pv 8) (pa_cons (pv 9) (pa_cons (pv 10) pa_nil)))))))
(pss_one (ps_ret pe_bl))
pss_nil)
(pss_one (ps_expr (pe_bm PySem.F.plainAttrs_list PySem.F.slot_list_append PySem.F.type_list_append mt_append (pv 1) (pa_cons (pe_lst (pa_cons (pv 7) (pa_cons (pv 8) (pa_cons (pv 9) (pa_cons (Lw.pe_d D__law_told (hr.mono (by omega)) (pa_cons (pv 7) (pa_cons (pv 8) (pa_cons (pv 9) pa_nil)))) pa_nil))))) pa_nil))))))))))))))
(pss_cons (ps_for PassesOwn.never rfl (pi_list (pv 1)) (pg_name (i := 12) sc.nd rfl (by first | exact Or.inl rfl | exact Or.inr rfl))
(pss_one (ps_if (pt_not (pt_val (Lw.pe_d D__law_same (hr.mono (by omega)) (pa_cons (Lw.pe_d D__law_told (hr.mono (by omega)) (pa_cons (pe_ix ix_list (pv 12) pe_int (fun _ _ => rfl)) (pa_cons (pe_ix ix_list (pv 12) pe_int (fun _ _ => rfl)) (pa_cons (pe_ix ix_list (pv 12) pe_int (fun _ _ => rfl)) pa_nil)))) (pa_cons (pe_ix ix_list (pv 12) pe_int (fun _ _ => rfl)) pa_nil)))))
(pss_one (ps_ret pe_bl))
pss_nil)))
(pss_one (ps_ret pe_bl))))), ?_⟩
  refine ⟨(by decide), fun L nL => ⟨3, rfl, by decide, by decide, ?_⟩⟩
  have k0 : Kt [] H (upd H L (.lst [])) := Kt.new nL
  have R0 : Rows (upd H L (.lst [])) L 0 := ⟨[], upd_same, Nat.le_refl _, fun _ z => nomatch z⟩
  generalize upd H L (.lst []) = H0 at k0 R0 ⊢
  refine for_range (lo := 0) (n := 3) (fun i σ Hx => ∃ z2 z3 z4 z5 z6 z7 z8 z9 z10 z11 z12, σ = [some (.ref a), some (.ref L), z2, z3, z4, z5, z6, z7, z8, z9, z10, z11, z12] ∧ Kt [] H Hx ∧ Rows Hx L (4 * i)) ⟨_, _, _, _, _, _, _, _, _, _, _, rfl, k0, R0⟩ ?_ ?_
  · rintro i σ Hx hi ⟨z2, z3, z4, z5, z6, z7, z8, z9, z10, z11, z12, rfl, kx, Rx⟩
    change tSeq _ _ _ [_, _, _, _, _, _, _, _, _, _, _, _, _] _
    -- source
    refine ⟨_, rfl, _, rfl, a, ns, i, (by show [V.ref a, V.int (0 + (i : Int))] = _; rw [Int.zero_add]), sql_keep0 hS kx, fun r0 => ⟨_, rfl, _, _, rfl, rfl, _, rfl, fun p np => ?_⟩⟩
    have k1 : Kt [] Hx (upd Hx p (.lst (srcL (r0 + (0 + (i : Int))) (r0 + (0 + (i : Int))) 0))) := Kt.new np
    have s1 : Src (upd Hx p (.lst (srcL (r0 + (0 + (i : Int))) (r0 + (0 + (i : Int))) 0))) p := ⟨_, _, _, upd_same⟩
    have np0 : H p = none := none_back kx np
    generalize upd Hx p _ = H1 at k1 s1 ⊢
    have kx1 := kx.trans k1
    have R1 := rows_keep0 k1 Rx
    -- names
    refine ⟨_, rfl, p, rfl, s1, fun d H2 nm ho k2 s2 n2 => ?_⟩
    have R2 := rows_keep k2 s1 R1
    have kx2 : Kt [] H H2 := (kx1.nil.trans k2).drop np0
    change tSeq _ _ _ [_, _, _, _, _, _, _, _, _, _, _, _, _] _
    refine ⟨_, rfl, rfl, _, rfl, ite2 (fun _ => ⟨_, rfl, p, 8, rfl, s2, by decide, by decide, fun r8 H3 _ _ s3 k3 => ⟨rfl, ?pa⟩⟩) (fun _ => ?pb)⟩
    case' pa =>
      have R3 := rows_keep k3 s2 R2
      have kx3 : Kt [] H H3 := (kx2.nil.trans k3).drop np0
      have n3 := nm_keep k3 (intl1 s2) n2
    case' pb =>
      have R3 := R2
      have kx3 := kx2
      have n3 := n2
      have s3 := s2
    all_goals
      refine ⟨4, rfl, by decide, by decide, ?_⟩
      refine for_range (lo := 0) (n := 4) (fun j σ Hy => ∃ large z6 z7 z8 z9 z10 z11 z12, σ = [some (.ref a), some (.ref L), some (.int (0 + (i : Int))), some (.ref p), some (.ref d), some (.bl large), z6, z7, z8, z9, z10, z11, z12] ∧ Kt [] H Hy ∧ Src Hy p ∧ NmAt Hy d nm ∧ Rows Hy L (4 * i + j)) ⟨_, _, _, _, _, _, _, _, rfl, kx3, s3, n3, R3⟩ ?_ ?_
      · rintro j σ Hy hj ⟨large, z6, z7, z8, z9, z10, z11, z12, rfl, ky, sy, ny, Ry⟩
        change tSeq _ _ _ [_, _, _, _, _, _, _, _, _, _, _, _, _] _
        obtain ⟨so, hso, hat⟩ := sorts4 j hj
        refine ⟨(by decide), fun l nl => ⟨_, rfl, l, _, _, _, rfl, rfl, SqL.of upd_same, hat, ?_⟩⟩
        have k4 : Kt [] Hy (upd Hy l (.lst [.str "num", .str "flag", .str "flag", .str "num"])) := Kt.new nl
        generalize upd Hy l (.lst [.str "num", .str "flag", .str "flag", .str "num"]) = H4 at k4 ⊢
        have ky4 := ky.trans k4
        have s4 := src_keep0 k4 sy
        have n4 := nm_keep0 k4 ny
        have R4 := rows_keep0 k4 Ry
        change tSeq _ _ _ [_, _, _, _, _, _, _, _, _, _, _, _, _] _
        -- e, f
        refine ⟨_, rfl, _, rfl, _, rfl, _, rfl, large, rfl, ?_⟩
        cases large
        case' false => refine iteF ⟨p, d, so, nm, _, rfl, s4, n4, ho, fun t H5 v1 v2 e f k5 s5 ht r1 r2 te tf de df => ?_⟩
        case' true => refine iteT ⟨_, rfl, _, _, rfl, rfl, p, d, so, nm, _, rfl, s4, n4, ho, fun t H5 v1 v2 e f k5 s5 ht r1 r2 te tf de df => ?_⟩
        all_goals
          refine ⟨t, _, rfl, SqT.of ht, rfl, _, _, rfl, _, _, rfl, rfl, ?_⟩
          have ky5 : Kt [] H H5 := (ky4.nil.trans k5).drop np0
          have n5 := nm_keep k5 (intl1 s4) n4
          have R5 := rows_keep k5 s4 R4
          change tSeq _ _ _ [_, _, _, _, _, _, _, _, _, _, _, _, _] _
          -- envs
          refine ⟨6, rfl, by decide, by decide, fun D nD => ?_⟩
          refine lc_range (lo := 0) (n := 6) (fun m Hz => ∃ Ds : List Addr, Hz D = some (.lst (Ds.map V.ref)) ∧ Ds.length ≤ m ∧ (∀ D' ∈ Ds, ∃ ρ, EnvAt Hz D' nm ρ ∧ EnvOk nm ρ) ∧ Src Hz p ∧ Kt [p, D] H5 Hz ∧ D ≠ p) ⟨[], upd_same, Nat.zero_le _, (fun _ z => nomatch z), src_keep0 (Kt.new nD) s5, Kt.new nD, src_fresh s5 nD⟩ ?_ ?_
          · rintro m Hz hm ⟨Ds, hD, hl, hE, sz, kz, neD⟩
            refine ⟨rfl, ?_⟩
            refine iteT (B := True) ?_
            refine iteT ?_
            have nz := nm_keepF kz (fun b hb => by
              rcases List.mem_cons.mp hb with rfl | hb
              · exact .inl (src_intl s5)
              · rw [List.mem_singleton.mp hb]
                exact .inr nD) n5
            refine ⟨_, rfl, _, rfl, _, rfl, _, rfl, _, rfl, .inl ⟨_, rfl, _, _, rfl, rfl, (by show (0 : Int) < 2; decide), rfl, ?_⟩⟩
            refine ⟨p, d, v1, v2, _, so, nm, e, f, rfl, sz, nz, ho, hso, rep_keep kz r1, rep_keep kz r2, te, tf, de, df, fun D' H7 ρ nD' k7 s7 hE7 hO7 => ?_⟩
            have hD7 := k7.get hD (by simpa using neD)
            refine ⟨_, hD7, (by rw [List.length_map]; exact small1000 (by omega)), Ds ++ [D'], ?_, ?_, fun E' hE' => ?_, ?_, ?_, neD⟩
            · rw [upd_same, List.map_append]
              rfl
            · rw [List.length_append]
              exact Nat.succ_le_succ hl
            · have kD : Kt [D] H7 (upd H7 D (.lst (Ds.map V.ref ++ [.ref D']))) := Kt.at_ hD7 (fun _ z => nomatch z) (by simp)
              have dk : ∀ {c : Addr} {ρ' : Str → V}, EnvAt H7 c nm ρ' → EnvAt (upd H7 D (.lst (Ds.map V.ref ++ [.ref D']))) c nm ρ' := fun h => env_keep kD (by
                obtain ⟨kvs, h1, _⟩ := h
                simpa using ne_of h1 hD7 (fun z => nomatch z)) h
              rcases List.mem_append.mp hE' with h | h
              · obtain ⟨ρ', e1, e2⟩ := hE E' h
                refine ⟨ρ', dk (env_keep k7 ?_ e1), e2⟩
                obtain ⟨kvs, h1, _⟩ := e1
                simpa using src_ne sz h1 (fun _ _ z => nomatch z)
              · rw [List.mem_singleton.mp h]
                exact ⟨ρ, dk hE7, hO7⟩
            · exact src_keep (Kt.at_ hD7 (fun _ z => nomatch z) (by simp) : Kt [D] H7 _) (by simpa using neD.symm) s7
            · exact kz.trans ((k12 k7).trans (Kt.at_ hD7 (fun _ z => nomatch z) (by simp)))
          · rintro Hz ⟨Ds, hD, hl, hE, sz, kz, neD⟩
            have nz := nm_keepF kz (fun b hb => by
              rcases List.mem_cons.mp hb with rfl | hb
              · exact .inl (src_intl s5)
              · rw [List.mem_singleton.mp hb]
                exact .inr nD) n5
            have kzp : Kt [p] H5 Hz := kz.drop2 nD
            have Rz := rows_keep kzp s5 R5
            have kyz : Kt [] H Hz := (ky5.nil.trans kzp).drop np0
            change tSeq _ _ _ [_, _, _, _, _, _, _, _, _, _, _, _, _] _
            refine ⟨_, rfl, _, rfl, _, rfl, _, rfl, v1, v2, D, so, nm, e, f, Ds, rfl, hso, rep_keep kz r1, rep_keep kz r2, te, tf, de, df, ⟨hD, hE⟩, fun H8 k8 => ⟨_, rfl, iteF ?_⟩⟩
            have R8 := rows_keep0 k8 Rz
            obtain ⟨rows, hL8, hm8, hr8⟩ := id R8
            refine ⟨_, rfl, .inl ⟨rfl, _, SqL.of hL8⟩, _, rfl, _, rfl, _, rfl, _, rfl, _, rfl, _, rfl, v1, v2, so, e, f, rfl, hso, rep_keep (kz.trans k8.nil) r1, rep_keep (kz.trans k8.nil) r2, de, fun v3 H9 k9 r9 => ⟨(by show 4 ≤ sizeLine; decide), fun rw_ nrw => ?_⟩⟩
            have k10 : Kt [] H9 (upd H9 rw_ (.lst [.str so.str, v1, v2, v3])) := Kt.new nrw
            have g10 : (upd H9 rw_ (.lst [.str so.str, v1, v2, v3])) rw_ = some (.lst [.str so.str, v1, v2, v3]) := upd_same
            generalize upd H9 rw_ (.lst [.str so.str, v1, v2, v3]) = H10 at k10 g10 ⊢
            have k8' := k8.trans (k9.trans k10)
            have hL10 := (k9.trans k10).get0 hL8
            refine ⟨L, _, _, rfl, rfl, hL10, (by rw [List.length_map]; exact small1000 (by omega)), ?_⟩
            have kL : Kt [L] H10 (upd H10 L (.lst (rows.map V.ref ++ [.ref rw_]))) := Kt.at_ hL10 (fun _ z => nomatch z) (by simp)
            have s10 := src_keep0 k8' sz
            have pL : L ≠ p := src_ne s10 hL10 (fun _ _ => refs_no)
            refine ⟨_, _, _, _, _, _, _, _, rfl, ((kyz.trans k8').nil.trans kL).drop nL, src_keep kL (by simpa using pL.symm) s10, ?_, rows ++ [rw_], ?_, ?_, fun r hr => ?_⟩
            · obtain ⟨ll, g1, g2⟩ := nm_keep0 k8' nz
              refine ⟨ll, kL.get g1 (by simpa using ne_of g1 hL10 (fun z => nomatch z)), fun s => kL.get (g2 s) (fun z => ?_)⟩
              have h3 := ho.three s
              have g3 := g2 s
              rw [List.mem_singleton.mp z, hL10] at g3
              injection g3 with g3
              injection g3 with g3
              cases hn : nm s with
              | nil => rw [hn] at h3; cases h3
              | cons x y =>
                rw [hn] at g3
                cases rows with
                | nil => cases g3
                | cons x y => injection g3 with z1 z2; cases z1
            · rw [upd_same, List.map_append]
              rfl
            · rw [List.length_append]
              show rows.length + 1 ≤ 4 * i + (j + 1)
              omega
            · have rk : ∀ {r : Addr}, RowOk H10 r → RowOk (upd H10 L (.lst (rows.map V.ref ++ [.ref rw_]))) r := fun h => row_keep kL (fun b hb st v => by
                rw [List.mem_singleton.mp hb, hL10]
                intro z
                injection z with z
                injection z with z
                cases rows with
                | nil => cases z
                | cons x y => injection z with z1 z2; cases z1) h
              rcases List.mem_append.mp hr with h | h
              · exact rk (row_keep (k9.trans k10) (fun _ z => nomatch z) (hr8 r h))
              · rw [List.mem_singleton.mp h]
                exact rk ⟨so, v1, v2, v3, e, f, g10, hso, rep_keep (kz.trans k8'.nil) r1, rep_keep (kz.trans k8'.nil) r2, rep_keep k10 r9, de, df⟩
      · rintro σ Hy ⟨large, z6, z7, z8, z9, z10, z11, z12, rfl, ky, sy, ny, Ry⟩
        exact ⟨_, _, _, _, _, _, _, _, _, _, _, rfl, ky, Ry⟩
  · rintro σ Hx ⟨z2, z3, z4, z5, z6, z7, z8, z9, z10, z11, z12, rfl, kx, Rx⟩
    obtain ⟨rows, hL, _, hR⟩ := Rx
    change tSeq _ _ _ [_, _, _, _, _, _, _, _, _, _, _, _, _] _
    refine ⟨_, rfl, L, rfl, ⟨_, SqL.of hL⟩, ?_⟩
    refine for_list (xs := rows.map V.ref) (fun i σ Hy => ∃ y, σ = [some (.ref a), some (.ref L), z2, z3, z4, z5, z6, z7, z8, z9, z10, z11, y] ∧ Kt [] Hx Hy) ⟨_, rfl, Kt.refl _⟩ (fun i σ Hy _ ⟨_, _, ky⟩ => SqL.of (ky.get0 hL)) ?_ ?_
    · rintro i x σ Hy hi ⟨y, rfl, ky⟩
      obtain ⟨r, rfl, hr⟩ := ref_at hi
      obtain ⟨so, v1, v2, v3, e, f, h1, hso, r1, r2, r3, de, df⟩ := row_keep ky (fun _ z => nomatch z) (hR r hr)
      refine ⟨_, rfl, r, _, _, _, rfl, rfl, SqL.of h1, atI_nat (j := 0) rfl, _, rfl, r, _, _, _, rfl, rfl, SqL.of h1, atI_nat (j := 1) rfl, _, rfl, r, _, _, _, rfl, rfl, SqL.of h1, atI_nat (j := 2) rfl, v1, v2, so, e, f, rfl, hso, r1, r2, de, fun v4 H4 k4 r4 => ?_⟩
      have dt := told_depth (e := e) (f := f) hso
      refine ⟨_, rfl, r, _, _, _, rfl, rfl, SqL.of (k4.get0 h1), atI_nat (j := 3) rfl, _, _, rfl, al_rep r4 (rep_keep k4 r3) (by omega), fun H5 k5 => ⟨_, rfl, iteF ?_⟩⟩
      exact ⟨_, rfl, ky.trans (k4.trans k5)⟩
    · rintro σ Hy ⟨y, rfl, ky⟩
      exact q _
end
end K80


set_option Elab.async false
set_option linter.all false
set_option maxRecDepth 100000
set_option maxHeartbeats 0
namespace K80
open PySem PySem.Spec PyProof.Rows L2
theorem law_ok {P : Program} {w : World} {K : PySem.W.Frag} {h : Heap} {mg : Str → Option Value} {f : Addr} (X : K.In h) (G : h.Ns mainGlobals mg) (hfa : mg ("law" : Str) = some (.ref f)) (c : He.SaysD fa fn K) :
    ∃ fd : FuncData, (∀ (s : Shared) (v : Value), BindsTo s fd ⟨[v], []⟩ [("script", v)]) ∧ ∀ base : Heap, K.In base → base.Ns mainGlobals mg → FnOk P w K mg base CX0 100 f fd ["script"] (spLaw K) := by
  have T := facts X G c
  obtain ⟨f', fd, F, hm⟩ := T.d_law
  have e := hfa.symm.trans hm
  cases e
  have b := FunD.bindsA (ps := ["script"]) F fun _ _ _ _ _ _ us hl => match us, hl with | [_], _ => rfl
  refine ⟨fd, fun s v => b s [v] rfl, fun base _ _ => ?_⟩
  exact (ok_law (P := P) (w := w) (base := base) T).at_ F hm
end K80
open PySem PySem.W PySem.Calls PyProof.Rows
theorem PySem.Challenge.cw_provedfacts_k80_tests_hold_where_equal_holds : PySem.Challenge.rw_provedfacts_k80_tests_hold_where_equal.Holds := by
  w_on; o_law
  refine HandSHeadRun.head_any (r := OpenLaw.row PySem.Challenge.rw_provedfacts_k80_tests_hold_where_equal) (q := view (OpenLaw.row PySem.Challenge.rw_provedfacts_k80_tests_hold_where_equal).prog [28]) (H := K80.hk) (ob := K80.ob) (M := 1500) (loose := K80.loose) (d := HandSHeadRun.topDef (OpenLaw.row PySem.Challenge.rw_provedfacts_k80_tests_hold_where_equal).prog 28) (kwd := []) K80.ob_eq
    (by kernel_rfl) (fun s => by kernel_rfl) K80.run (by kernel_rfl) (by kernel_rfl) (by kernel_rfl) (by rfl) (by first | assumption | decide +kernel) (by decide +kernel) ⟨rfl, rfl, rfl, rfl, rfl, by decide +kernel⟩ ?hw ?hc
  case hw => w_witness2
  case hc =>
    refine L2.walk_ofE (l := PySem.Challenge.rw_provedfacts_k80_tests_hold_where_equal) (n := 63) (k := 100) (x := "script") (CX := L2.CX0) rfl (by decide) (by kernel_rfl) ⟨rfl, by decide, by decide⟩ ?F (fun _ _ _ _ z => z)
    intro w mg fa h Y G hmg0
    obtain ⟨K, KX, c⟩ := Y
    have hmg : mg ("law" : PySem.Str) = some (.ref fa) := by
      have e : (HandSHeadRun.topDef (OpenLaw.row PySem.Challenge.rw_provedfacts_k80_tests_hold_where_equal).prog 28).name = ("law" : PySem.Str) := by kernel_rfl
      rw [← e]
      exact hmg0
    obtain ⟨fd, hb, hF⟩ := K80.law_ok (P := (PySem.Challenge.rw_provedfacts_k80_tests_hold_where_equal).prog) (w := w) KX G hmg c
    exact ⟨K, fd, K80.spLaw K, KX, hb, fun H a ns hl _ hS => ⟨a, ns, rfl, hS, hl, fun _ => rfl⟩, hF⟩
