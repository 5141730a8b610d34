import PyProof.Rows.All
import Wide.All
import OpenK.AllK
import Wide.FinOn
import KE.KOpsOwn
import KE.KMathGC
import HandS.ForMost
import HandS.Defaults
import HandS.Property
import HandS.IsInst
import HandS.Wide
import HandS.Conv
import HandS.Style
import HandS.Gcd
import HandS.Evl
import HandS.OwnEq
import HandS.SlotsOwn
import HandS.HeadHook1
import HandS.HeadHook2
import PySem.Challenge.RW_coinfences_k66_whole_rules_that_keep_fen
import HandS.Head0
import HandS.Head1
import HandS.Head2
import HandS.Head3
import HandS.HeadEnd
import KE.KStateDown
import HandS.HeadNt
set_option Elab.async false
set_option linter.all false
set_option maxRecDepth 100000
set_option maxHeartbeats 2000000
namespace K66
open PySem PySem.Spec PyProof.Rows L2
def tp (i : Nat) : Stmt := PySem.Challenge.pw_coinfences_k66_whole_rules_that_keep_fen.main.body.getD i (.Pass ⟨0, 0, 0, 0⟩)
/-- a def of the module that keeps a promise, ready to be called -/
def Ok (P : Program) (w : World) (K : PySem.W.Frag) (mg : Str → Option Value) (base : Heap) (k : Nat) (x : Str) (ps : List Str) (sp : Sp) : Prop :=
  mg x = some (.ref (He.ga K x)) ∧ PySem.W.keepIn K (.ref (He.ga K x)) = true ∧ ∃ fd, FnOk P w K mg base CX0 k (He.ga K x) fd ps sp ∧ Binds K fd ps []
/-- a def at an address (a method, a getter) -/
def OkA (P : Program) (w : World) (K : PySem.W.Frag) (mg : Str → Option Value) (base : Heap) (k : Nat) (a : Addr) (ps : List Str) (dvs : List V) (sp : Sp) : Prop :=
  ∃ fd ds, FnOk P w K mg base CX0 k a fd ps sp ∧ Vals dvs ds ∧ Binds K fd ps ds
section
variable {X : Cx} {k : Nat} {x : Str} {ps : List Str} {sp : Sp} {p pos : Pos} {e : Expr} {es : List Expr} {t : TA}
theorem pe_c (O : Ok X.prog X.w X.K X.mg X.base k x ps sp) (hr : Room k X.A) (hg : Gl X x) (ha : PA X (e :: es) t) (hdb : (x == ("__debug__" : Str)) = false := by decide)
    (he : starEach (e :: es) X.env = (false, eval e X.env) :: starEach es X.env := by rfl) (hpl : (backTo pos (starEach es X.env)).any (·.1) = false := by rfl) :
    PE X (.Call (.Name x p) (e :: es) [] pos) (tCall sp [] E0 t) := by
  obtain ⟨hm, hk, fd, F, hb⟩ := O
  exact pe_call F hr hg hm hk hb .nil pass0 ha hdb he hpl
end
/-- x op y, both instances of the class at C -/
def rRR (C : Addr) (sp : Sp) : R2 := fun x y H Q => ∃ a dx fs b dy gs, x = .ref a ∧ y = .ref b ∧ H a = some (.ins C dx fs) ∧ H b = some (.ins C dy gs) ∧ sp [x, y] H Q E0
/-- x op y, y an int -/
def rRI (C : Addr) (sp : Sp) : R2 := fun x y H Q => ∃ a dx fs j, x = .ref a ∧ y = .int j ∧ H a = some (.ins C dx fs) ∧ sp [x, y] H Q E0
section
variable {X : Cx} {k : Nat} {ps : List Str} {sp : Sp} {C g : Addr} {op : Operator}
theorem run_okA {pins : List (Addr × Obj)} {σ : L2.St} {H : Hp} {s : Shared} {Q : VK} {us : List Value} {vs : List V} (O : OkA X.prog X.w X.K X.mg X.base k g ps [] sp) (hr : Room k X.A) (I : Inv X pins σ H s) (r : Vals vs us) (h : sp vs H Q E0) :
    wpAny (model X.prog X.w) X.A (call (.ref g) us) (PySem.W.CmpBack (EP X pins σ Q)) X.xe s := by
  obtain ⟨fd, ds, F, hd, hb⟩ := O
  have h2 : sp (vs ++ []) H Q E0 := by rw [List.append_nil]; exact h
  refine wpAny_mono (run_fn F hr hb hd pass0 I r h2) (fun u s' z => ?_) fun _ _ z => z
  obtain ⟨v, H', I', rv, q⟩ := z
  exact SlX.cmpback rv ⟨v, H', I', rv, q⟩
theorem op_RR (O : OkA X.prog X.w X.K X.mg X.base k g ps [] sp) (hr : Room k X.A) (hs : PySem.W.findIn X.K (.ref C) (PySem.dunder op.info.2) = some (some (.ref g))) (hf : PySem.W.isFn X.K (.ref g) = true) (hc : PySem.W.selfFirst X.K C = true) :
    OpR X (binaryOp op) (rRR C sp) := by
  intro pins s σ H x y v u Q I rx ry h
  obtain ⟨a, dx, fs, b, dy, gs, rfl, rfl, ha, hb, q⟩ := h
  cases (show v = Value.ref a from rx)
  cases (show u = Value.ref b from ry)
  obtain ⟨_, J, _⟩ := ins_get I.hok ha
  obtain ⟨_, J', _⟩ := ins_get I.hok hb
  obtain ⟨od, J, _⟩ := J.look
  obtain ⟨od', J', _⟩ := J'.look
  obtain ⟨m, hF⟩ := I.fr
  exact PySem.W.binop_K hF I.ok.mod.kin J J'.type hc hs hf (run_okA (us := [.ref a, .ref b]) (vs := [.ref a, .ref b]) O hr I (.cons rfl (.cons rfl .nil)) q)
theorem op_RI {fo ro rc : Option Value} (O : OkA X.prog X.w X.K X.mg X.base k g ps [] sp) (hr : Room k X.A) (hs : PySem.W.findIn X.K (.ref C) (PySem.dunder op.info.2) = some (some (.ref g))) (hf : PySem.W.isFn X.K (.ref g) = true) (hc : PySem.W.selfFirst X.K C = true)
    (hrr : PySem.W.findIn X.K (.ref C) (dunderR op.info.2) = some rc) (hp : rc = none ∨ ∃ z : Addr, rc = some (.ref z)) (h1 : PySem.W.findIn X.K (.type "int") (PySem.dunder op.info.2) = some fo) (h2 : PySem.W.findIn X.K (.type "int") (dunderR op.info.2) = some ro)
    (hsub : PySem.W.subIn X.K (.type "int") (.ref C) = some false) : OpR X (binaryOp op) (rRI C sp) := by
  intro pins s σ H x y v u Q I rx ry h
  obtain ⟨a, dx, fs, j, rfl, rfl, ha, q⟩ := h
  cases (show v = Value.ref a from rx)
  obtain ⟨t, e⟩ := (show ∃ t, u = Value.int j t from ry)
  cases e
  obtain ⟨_, J, _⟩ := ins_get I.hok ha
  obtain ⟨od, J, _⟩ := J.look
  obtain ⟨m, hF⟩ := I.fr
  exact PySem.W.ksp_binT hF I.ok.mod.kin J rfl hc hs hf hrr hp h1 h2 hsub (run_okA (us := [.ref a, .int j t]) (vs := [.ref a, .int j]) O hr I (.cons rfl (.cons ⟨t, rfl⟩ .nil)) q)
/-- // by any divisor but 0, below 2 ^ 9000 in size -/
def CDivZ (_ j : Int) : Prop := j ≠ 0 ∧ j.natAbs.log2 < 9000
theorem op_fdivZ : OpR X (binaryOp .FloorDiv) (rI CDivZ fun i j => .int (i.fdiv j)) := opI fun i j _ _ _ _ _ hc q =>
  floordiv_int hc.1 q (Or.inl (PyProof.noPylong_of_log2 hc.2))
/-- math.lcm of two ints -/
def rLcm : List V → Hp → VK → Prop := fun vs H Q => ∃ a b : Int, vs = [.int a, .int b] ∧ a.natAbs < 2 ^ 64 ∧ b.natAbs < 2 ^ 64 ∧ Q (.int ((Nat.lcm a.natAbs b.natAbs : Nat) : Int)) H
theorem cr_lcm : CallR X (.builtin "math.lcm") rLcm := by
  intro pins s σ H vs us Q I r h
  obtain ⟨a, b, rfl, ha, hb, q⟩ := h
  obtain ⟨t, u, rfl⟩ := Vals.int2 r
  exact PySem.W.mc_lcm ha hb fun _ => ⟨.int _, H, I.tok _, ⟨_, rfl⟩, q⟩
def rNil (K : PySem.W.Frag) (f : Bool → Bool) : R2 := fun x y H Q => ∃ a b xs, x = .ref a ∧ y = .ref b ∧ SqL K H a xs ∧ SqL K H b [] ∧ Q (.bl (f xs.isEmpty)) H
theorem nil_its {its : List Value} (r : Vals [] its) : its = [] := by
  cases r
  rfl
theorem op_eqNil (hu : X.A.units < cLine) : OpR X (compareOp .Eq) (rNil X.K id) := by
  intro pins s σ H x y v u Q I rx ry h
  obtain ⟨a, b, xs, rfl, rfl, ha, hb, q⟩ := h
  cases (show v = Value.ref a from rx)
  cases (show u = Value.ref b from ry)
  obtain ⟨its, rv, pl, hz⟩ := I.list ha
  obtain ⟨its2, rv2, pl2, hz2⟩ := I.list hb
  have e2 := nil_its rv2
  subst e2
  show wpAny (model X.prog X.w) X.A (richCompare .Eq (.ref a) (.ref b)) (EP X pins σ Q) X.xe s
  cases xs with
  | nil =>
    have e1 := nil_its rv
    subst e1
    exact SeqAt.RcAt.lists (e := fun _ => true) pl.isList pl2.isList rfl hu (fun j h1 => absurd h1 (Nat.not_lt_zero j)) X.prog X.w X.xe _ ⟨.bl true, H, I, rfl, q⟩
  | cons z zs =>
    cases rv with
    | cons r1 r2 => exact SeqAt.RcAt.lists_lengths pl.isList pl2.isList (by simp) hu X.prog X.w X.xe _ ⟨.bl false, H, I, rfl, q⟩
theorem op_neNil (hu : X.A.units < cLine) : OpR X (compareOp .NotEq) (rNil X.K not) := by
  intro pins s σ H x y v u Q I rx ry h
  obtain ⟨a, b, xs, rfl, rfl, ha, hb, q⟩ := h
  cases (show v = Value.ref a from rx)
  cases (show u = Value.ref b from ry)
  obtain ⟨its, rv, pl, hz⟩ := I.list ha
  obtain ⟨its2, rv2, pl2, hz2⟩ := I.list hb
  have e2 := nil_its rv2
  subst e2
  show wpAny (model X.prog X.w) X.A (richCompare .NotEq (.ref a) (.ref b)) (EP X pins σ Q) X.xe s
  cases xs with
  | nil =>
    have e1 := nil_its rv
    subst e1
    exact SeqAt.RcNeAt.lists (e := fun _ => true) pl.isList pl2.isList rfl hu (fun j h1 => absurd h1 (Nat.not_lt_zero j)) X.prog X.w X.xe _ ⟨.bl false, H, I, rfl, q⟩
  | cons z zs =>
    cases rv with
    | cons r1 r2 => exact SeqAt.RcNeAt.lists_lengths pl.isList pl2.isList (by simp) hu X.prog X.w X.xe _ ⟨.bl true, H, I, rfl, q⟩
end
end K66

set_option Elab.async false
set_option linter.all false
set_option maxRecDepth 100000
set_option maxHeartbeats 2000000
namespace K66
open PySem PySem.Spec PyProof.Rows L2
/-- the class Ratio -/
abbrev RC (K : PySem.W.Frag) : Addr := He.ga K "Ratio"
/-- a getter of a property of Ratio -/
def gA (K : PySem.W.Frag) (f : Str) : Addr := match PySem.W.recIn K (He.ma K (RC K) f) "property" with
  | some (.ref g :: _) => g
  | _ => 0
structure Df (K : PySem.W.Frag) (mg : Str → Option Value) (x : Str) (i : Nat) (dvs : List V) : Prop where
  mgx : mg x = some (.ref (He.ga K x))
  fn : ∃ fd, FunD K x x (defArgs (tp i)) (defBody (tp i)) (defScope (tp i)) dvs [] (He.ga K x) fd
structure Dm (K : PySem.W.Frag) (m : Str) (j : Nat) (dvs : List V) (a : Addr) : Prop where
  fn : ∃ fd, FunD K m ("Ratio." ++ m) (defArgs (inClass (tp 20) j)) (defBody (inClass (tp 20) j)) (defScope (inClass (tp 20) j)) dvs [] a fd
structure Tx (K : PySem.W.Frag) (mg : Str → Option Value) : Prop where
  n_isinstance : mg "isinstance" = none
  n_abs : mg "abs" = none
  n_int : mg "int" = none
  n_bool : mg "bool" = none
  n_list : mg "list" = none
  n_tuple : mg "tuple" = none
  n_len : mg "len" = none
  n_max : mg "max" = none
  n_min : mg "min" = none
  n_range : mg "range" = none
  n_enumerate : mg "enumerate" = none
  n_zip : mg "zip" = none
  n_all : mg "all" = none
  n_divmod : mg "divmod" = none
  g_gcd : mg "gcd" = some (.builtin "math.gcd")
  g_lcm : mg "lcm" = some (.builtin "math.lcm")
  k_MOST_DEGREE : ∃ t, mg "MOST_DEGREE" = some (.int 40 t)
  k_MOST_COINS : ∃ t, mg "MOST_COINS" = some (.int 8 t)
  g_Ratio : mg "Ratio" = some (.ref (RC K))
  cl : Cls K (RC K)
  nT : NoAttr K (RC K) "own_top"
  nB : NoAttr K (RC K) "own_bottom"
  mkr : Mk K (RC K) (He.ma K (RC K) "__init__")
  m_over : Meth K (RC K) "over" (He.ma K (RC K) "over")
  p_top : PropOf K (RC K) "top" (He.ma K (RC K) "top") (gA K "top")
  p_bottom : PropOf K (RC K) "bottom" (He.ma K (RC K) "bottom") (gA K "bottom")
  p_sign : PropOf K (RC K) "sign" (He.ma K (RC K) "sign") (gA K "sign")
  f__add__ : PySem.W.findIn K (.ref (RC K)) "__add__" = some (some (.ref (He.ma K (RC K) "__add__")))
  i__add__ : PySem.W.isFn K (.ref (He.ma K (RC K) "__add__")) = true
  f__mul__ : PySem.W.findIn K (.ref (RC K)) "__mul__" = some (some (.ref (He.ma K (RC K) "__mul__")))
  i__mul__ : PySem.W.isFn K (.ref (He.ma K (RC K) "__mul__")) = true
  sf : PySem.W.selfFirst K (RC K) = true
  rm : PySem.W.findIn K (.ref (RC K)) "__rmul__" = some (some (.ref (He.ma K (RC K) "__rmul__")))
  im1 : ∃ fo, PySem.W.findIn K (.type "int") "__mul__" = some fo
  im2 : ∃ ro, PySem.W.findIn K (.type "int") "__rmul__" = some ro
  isb : PySem.W.subIn K (.type "int") (.ref (RC K)) = some false
  ca : PySem.W.findIn K (.ref (RC K)) "__class__" = some (some (.builtin "object.__class__"))
  cn : PySem.W.specialIn K (.builtin "object.__class__") "__get__" = some (some (.builtin "getset_descriptor.__get__"))
  ct : PySem.W.takesIn K (.builtin "object.__class__") = some true
  cm : PySem.W.mroIn K (RC K) (.type "object") = some true
  kRi : PySem.W.kitOne K (.ref (RC K)) (.type "int") = some false
  kRR : PySem.W.kitOne K (.ref (RC K)) (.ref (RC K)) = some true
  kiR : PySem.W.kitOne K (.type "int") (.ref (RC K)) = some false
  d_is_integer : Df K mg "is_integer" 12 []
  d_is_count : Df K mg "is_count" 13 []
  d_is_list : Df K mg "is_list" 14 []
  d_want_many : Df K mg "want_many" 15 [.non]
  d_common_part : Df K mg "common_part" 19 []
  d_told_pair : Df K mg "told_pair" 21 []
  d_is_number : Df K mg "is_number" 22 []
  d_ratio_of : Df K mg "ratio_of" 23 []
  d_want_number : Df K mg "want_number" 24 []
  d_is_curve : Df K mg "is_curve" 27 []
  d_trimmed : Df K mg "trimmed" 28 []
  d_want_curve : Df K mg "want_curve" 29 []
  d_entry_of : Df K mg "entry_of" 30 []
  d_added : Df K mg "added" 31 []
  d_by_number : Df K mg "by_number" 32 []
  d_multiplied : Df K mg "multiplied" 33 []
  d_slope_of : Df K mg "slope_of" 34 []
  d_whole_of : Df K mg "whole_of" 35 []
  d_plain : Df K mg "plain" 36 []
  d_degree : Df K mg "degree" 37 []
  d_plus : Df K mg "plus" 38 []
  d_times : Df K mg "times" 39 []
  d_scaled : Df K mg "scaled" 40 []
  d_derived : Df K mg "derived" 41 []
  d_whole_sums : Df K mg "whole_sums" 43 []
  d_whole_table : Df K mg "whole_table" 44 []
  d_whole_place : Df K mg "whole_place" 45 []
  d_signs_of : Df K mg "signs_of" 46 []
  d_are_real : Df K mg "are_real" 48 []
  d_is_fenced : Df K mg "is_fenced" 49 []
  d_is_kept : Df K mg "is_kept" 52 []
  d_power_of : Df K mg "power_of" 54 []
  d_image_by : Df K mg "image_by" 55 []
  d_shifted : Df K mg "shifted" 56 []
  d_power_image : Df K mg "power_image" 57 []
  d_keeps_fenced : Df K mg "keeps_fenced" 58 []
  d_rule_to : Df K mg "rule_to" 59 []
  d__law_pot : Df K mg "_law_pot" 61 []
  d__law_draw : Df K mg "_law_draw" 62 []
  d__law_pick : Df K mg "_law_pick" 63 []
  d__law_common : Df K mg "_law_common" 64 []
  d__law_low : Df K mg "_law_low" 65 []
  d__law_sum : Df K mg "_law_sum" 66 []
  d__law_times : Df K mg "_law_times" 67 []
  d__law_read : Df K mg "_law_read" 68 []
  d__law_told : Df K mg "_law_told" 69 []
  d__law_cut : Df K mg "_law_cut" 70 []
  d__law_curve : Df K mg "_law_curve" 71 []
  d__law_product : Df K mg "_law_product" 72 []
  d__law_whole : Df K mg "_law_whole" 73 []
  d__law_rest : Df K mg "_law_rest" 74 []
  d__law_changes : Df K mg "_law_changes" 75 []
  d__law_is_fenced : Df K mg "_law_is_fenced" 76 []
  d__law_lined : Df K mg "_law_lined" 77 []
  d__law_as_told : Df K mg "_law_as_told" 78 []
  d__law_drawn : Df K mg "_law_drawn" 79 []
  d__law_rule : Df K mg "_law_rule" 80 []
  d__law_image : Df K mg "_law_image" 81 []
  d__law_is_kept : Df K mg "_law_is_kept" 82 []
  d__law_degrees_right : Df K mg "_law_degrees_right" 83 []
  d__law_led_right : Df K mg "_law_led_right" 84 []
  d__law_great_right : Df K mg "_law_great_right" 85 []
  d__law_right : Df K mg "_law_right" 86 []
  d_law : Df K mg "law" 87 []
  d___init__ : Dm K "__init__" 0 [.int 1] (He.ma K (RC K) "__init__")
  d___add__ : Dm K "__add__" 6 [] (He.ma K (RC K) "__add__")
  d___mul__ : Dm K "__mul__" 10 [] (He.ma K (RC K) "__mul__")
  d_over : Dm K "over" 13 [] (He.ma K (RC K) "over")
  d_top : Dm K "top" 1 [] (gA K "top")
  d_bottom : Dm K "bottom" 2 [] (gA K "bottom")
  d_sign : Dm K "sign" 3 [] (gA K "sign")
section
variable {P : Program} {w : World} {K : PySem.W.Frag} {mg : Str → Option Value} {base : Heap}
/-- a def of the module: by its body -/
theorem Df.ok {x : Str} {i k : Nat} {N ps : List Str} {sp : Sp} (D : Df K mg x i []) (S : FnScope N ps (defScope (tp i))) (len : ∀ vs H Q E, sp vs H Q E → vs.length = ps.length)
    (hb : ∀ (kV doc pm : Value) (an : Option Addr) (cdv ct : Value) (us : List Value), us.length = ps.length → bindArgs (PySem.W.fnOf x x (defArgs (tp i)) (defBody (tp i)) (defScope (tp i)) .none kV doc pm an cdv ct) ⟨us, []⟩ = pure (ps.zip us))
    (hbody : ∀ (cdv : Value) (A : Around) (outer : List Env) (s : Shared) (H : Hp) (vs : List V) (Q : VK) (E : XK), Room k (A.deeper (envOfC x (defScope (tp i)) s.heap.objs.size (He.ga K x) cdv)) → sp vs H Q E →
      ∃ t, PSs (cxOf CX0 P w K mg base N x (defScope (tp i)) (He.ga K x) cdv A outer s H E).nox (defBody (tp i)) t ∧ t { nx := fun _ H' => Q .non H', rt := Q } (start N vs) H) :
    Ok P w K mg base (k + 1) x ps sp := by
  obtain ⟨fd, F⟩ := D.fn
  refine ⟨D.mgx, F.kp, fd, F.ok S len fun cdv A outer s H vs Q E hr h => ?_, F.bindsN hb⟩
  obtain ⟨t, h1, h2⟩ := hbody cdv A outer s H vs Q E hr h
  exact ⟨t, h1.nox, h2⟩
theorem Dm.ok {m : Str} {j k : Nat} {a : Addr} {N ps : List Str} {sp : Sp} (D : Dm K m j [] a) (S : FnScope N ps (defScope (inClass (tp 20) j))) (len : ∀ vs H Q E, sp vs H Q E → vs.length = ps.length)
    (hb : ∀ (kV doc pm : Value) (an : Option Addr) (cdv ct : Value) (us : List Value), us.length = ps.length → bindArgs (PySem.W.fnOf m ("Ratio." ++ m) (defArgs (inClass (tp 20) j)) (defBody (inClass (tp 20) j)) (defScope (inClass (tp 20) j)) .none kV doc pm an cdv ct) ⟨us, []⟩ = pure (ps.zip us))
    (hbody : ∀ (cdv : Value) (A : Around) (outer : List Env) (s : Shared) (H : Hp) (vs : List V) (Q : VK) (E : XK), Room k (A.deeper (envOfC ("Ratio." ++ m) (defScope (inClass (tp 20) j)) s.heap.objs.size a cdv)) → sp vs H Q E →
      ∃ t, PSs (cxOf CX0 P w K mg base N ("Ratio." ++ m) (defScope (inClass (tp 20) j)) a cdv A outer s H E).nox (defBody (inClass (tp 20) j)) t ∧ t { nx := fun _ H' => Q .non H', rt := Q } (start N vs) H) :
    OkA P w K mg base (k + 1) a ps [] sp := by
  obtain ⟨fd, F⟩ := D.fn
  refine ⟨fd, [], F.ok S len fun cdv A outer s H vs Q E hr h => ?_, .nil, F.bindsN hb⟩
  obtain ⟨t, h1, h2⟩ := hbody cdv A outer s H vs Q E hr h
  exact ⟨t, h1.nox, h2⟩
end
section
variable {X : Cx} {k : Nat} {f : Str} {ps : List Str} {sp : Sp} {p pos : Pos} {e : Expr} {es : List Expr} {ta : TE} {t : TA} {dvs : List V}
/-- e.f, a property of Ratio -/
theorem pe_pr (O : OkA X.prog X.w X.K X.mg X.base k (gA X.K f) ["self"] [] sp) (hr : Room (k + 1) X.A) (c : Cls X.K (RC X.K)) (hp : PropOf X.K (RC X.K) f (He.ma X.K (RC X.K) f) (gA X.K f)) (he : PE X e ta)
    (hab : attributeBase e f X.env (eval e X.env) = eval e X.env) : PE X (.Attribute e f pos) (tProp (RC X.K) sp [] E0 ta) := by
  obtain ⟨fd, ds, F, hd, hb⟩ := O
  exact pe_prop he c hp F hr hb hd pass0 hab
/-- Ratio(e, ..) -/
theorem pe_mkR (T : Tx X.K X.mg) (O : OkA X.prog X.w X.K X.mg X.base k (He.ma X.K (RC X.K) "__init__") ["self", "top", "bottom"] dvs sp) (hr : Room (k + 1) X.A) (hg : Gl X "Ratio") (ha : PA X (e :: es) t)
    (he : starEach (e :: es) X.env = (false, eval e X.env) :: starEach es X.env := by rfl) (hpl : (backTo pos (starEach es X.env)).any (·.1) = false := by rfl) :
    PE X (.Call (.Name "Ratio" p) (e :: es) [] pos) (tMake (RC X.K) sp dvs E0 t) := by
  obtain ⟨fd, ds, F, hd, hb⟩ := O
  exact pe_make T.mkr F hr hg T.g_Ratio hb hd pass0 ha (by decide) he hpl
theorem pe_prK {K : PySem.W.Frag} (hK : X.K = K) (O : OkA X.prog X.w K X.mg X.base k (gA K f) ["self"] [] sp) (hr : Room (k + 1) X.A) (c : Cls K (RC K)) (hp : PropOf K (RC K) f (He.ma K (RC K) f) (gA K f)) (he : PE X e ta)
    (hab : attributeBase e f X.env (eval e X.env) = eval e X.env) : PE X (.Attribute e f pos) (tProp (RC K) sp [] E0 ta) := by
  subst hK
  exact pe_pr O hr c hp he hab
theorem pe_mkRK {K : PySem.W.Frag} (hK : X.K = K) (T : Tx K X.mg) (O : OkA X.prog X.w K X.mg X.base k (He.ma K (RC K) "__init__") ["self", "top", "bottom"] dvs sp) (hr : Room (k + 1) X.A) (hg : Gl X "Ratio") (ha : PA X (e :: es) t)
    (he : starEach (e :: es) X.env = (false, eval e X.env) :: starEach es X.env := by rfl) (hpl : (backTo pos (starEach es X.env)).any (·.1) = false := by rfl) :
    PE X (.Call (.Name "Ratio" p) (e :: es) [] pos) (tMake (RC K) sp dvs E0 t) := by
  subst hK
  exact pe_mkR T O hr hg ha he hpl
/-- o.over(e) -/
theorem pe_over (T : Tx X.K X.mg) {o : Expr} {apos : Pos} {pl : Sem Bool} (O : OkA X.prog X.w X.K X.mg X.base k (He.ma X.K (RC X.K) "over") ["self", "other"] [] sp) (hr : Room k X.A) (ho : PE X o ta) (ha : PA X (e :: es) t)
    (hst : starEach (e :: es) X.env = (false, eval e X.env) :: starEach es X.env := by rfl) (hpl : (backTo pos (starEach es X.env)).any (·.1) = false := by rfl)
    (ht : eval (.Call (.Attribute o "over" apos) (e :: es) [] pos) X.env = (do
      let ov ← eval o X.env
      standAt apos.atName
      let (f, first) ← holding [ov] (getMethod ov "over" pl)
      callWith pos f first (backTo pos (starEach (e :: es) X.env)) (backToKw pos (keywordEach [] X.env))) := by rfl) :
    PE X (.Call (.Attribute o "over" apos) (e :: es) [] pos) (tMeth (RC X.K) "over" sp [] E0 ta t) := by
  obtain ⟨fd, ds, F, hd, hb⟩ := O
  exact pe_meth ho T.cl T.m_over F hr hb hd pass0 ha hst hpl ht
end
end K66

set_option Elab.async false
set_option linter.all false
set_option maxRecDepth 100000
set_option maxHeartbeats 0
namespace K66.Hd
open PySem PySem.Spec PyProof.Rows L2
abbrev Ro : PySem.W.OpenRow := PySem.W.OpenLaw.row PySem.Challenge.rw_coinfences_k66_whole_rules_that_keep_fen
def names0 : List PySem.Str := ["_wall", "CurveError", "LimitError", "InvalidNumber", "InvalidCurve", "InvalidMany", "DividedByZero", "TooShort", "TooMany", "is_integer", "is_count", "is_list", "want_many", "PART", "digits_of", "common_part", "Ratio", "told_pair", "is_number", "ratio_of", "want_number", "MOST_DEGREE", "is_curve", "trimmed", "want_curve", "entry_of", "added", "by_number", "multiplied", "slope_of"]
def names1 : List PySem.Str := ["whole_of", "plain", "degree", "plus", "times", "scaled", "derived", "whole_sums", "whole_table", "whole_place", "signs_of", "are_real", "is_fenced", "MOST_COINS", "is_kept", "power_of", "image_by", "shifted", "power_image", "keeps_fenced", "rule_to", "_law_pot", "_law_draw", "_law_pick", "_law_common", "_law_low", "_law_sum", "_law_times", "_law_read", "_law_told"]
def names2 : List PySem.Str := ["_law_cut", "_law_curve", "_law_product", "_law_whole", "_law_rest", "_law_changes", "_law_is_fenced", "_law_lined", "_law_as_told", "_law_drawn", "_law_rule", "_law_image", "_law_is_kept", "_law_degrees_right", "_law_led_right", "_law_great_right", "_law_right"]
def names : List PySem.Str := names0 ++ names1 ++ names2
/-- a getter of the class, at the address that its property names -/
def gd (m : Str) (j : Nat) : He5.DefA := ⟨fun K => gA K m, m, "Ratio." ++ m, defArgs (inClass (tp 20) j), defBody (inClass (tp 20) j), defScope (inClass (tp 20) j), [], []⟩
def propB (K : PySem.W.Frag) (f : Str) : Bool := He.eqO (PySem.W.findIn K (.ref (RC K)) f) (some (some (.ref (He.ma K (RC K) f)))) && (He.eqO (PySem.W.specialIn K (.ref (He.ma K (RC K) f)) "__get__") (some (some (.builtin "property.__get__"))) && (decide (PySem.W.takesIn K (.ref (He.ma K (RC K) f)) = some true) && (match PySem.W.recIn K (He.ma K (RC K) f) "property" with
  | some (.ref _ :: _) => true
  | _ => false)))
theorem propB_ok {K : PySem.W.Frag} {f : Str} (h : propB K f = true) : PropOf K (RC K) f (He.ma K (RC K) f) (gA K f) := by
  obtain ⟨h1, h⟩ := He.ba h
  obtain ⟨h2, h⟩ := He.ba h
  obtain ⟨h3, h4⟩ := He.ba h
  refine ⟨He.eqO_ok h1, He.eqO_ok h2, of_decide_eq_true h3, ?_⟩
  unfold gA
  split at h4
  · rename_i a rest e
    rw [e]
    exact ⟨rest, rfl⟩
  · cases h4
def xb (K : PySem.W.Frag) : List Bool := [
  He.eqO (PySem.W.nsIn K mainGlobals "gcd") (some (some (.builtin "math.gcd"))),
  He.eqO (PySem.W.nsIn K mainGlobals "lcm") (some (some (.builtin "math.lcm"))),
  propB K "top",
  propB K "bottom",
  propB K "sign",
  decide (PySem.W.findIn K (.ref (RC K)) "__add__" = some (some (.ref (He.ma K (RC K) "__add__")))),
  PySem.W.isFn K (.ref (He.ma K (RC K) "__add__")),
  decide (PySem.W.findIn K (.ref (RC K)) "__mul__" = some (some (.ref (He.ma K (RC K) "__mul__")))),
  PySem.W.isFn K (.ref (He.ma K (RC K) "__mul__")),
  PySem.W.selfFirst K (RC K),
  decide (PySem.W.findIn K (.ref (RC K)) "__rmul__" = some (some (.ref (He.ma K (RC K) "__rmul__")))),
  (PySem.W.findIn K (.type "int") "__mul__").isSome,
  (PySem.W.findIn K (.type "int") "__rmul__").isSome,
  decide (PySem.W.subIn K (.type "int") (.ref (RC K)) = some false),
  decide (PySem.W.findIn K (.ref (RC K)) "__class__" = some (some (.builtin "object.__class__"))),
  decide (PySem.W.specialIn K (.builtin "object.__class__") "__get__" = some (some (.builtin "getset_descriptor.__get__"))),
  decide (PySem.W.takesIn K (.builtin "object.__class__") = some true),
  decide (PySem.W.mroIn K (RC K) (.type "object") = some true),
  decide (PySem.W.kitOne K (.ref (RC K)) (.type "int") = some false),
  decide (PySem.W.kitOne K (.ref (RC K)) (.ref (RC K)) = some true),
  decide (PySem.W.kitOne K (.type "int") (.ref (RC K)) = some false),
  (gd "top" 1).ok K,
  (gd "bottom" 2).ok K,
  (gd "sign" 3).ok K]
def D (x : Str) (i : Nat) (dv : List He.Dv) : He.DefD := ⟨(x, none), x, x, defArgs (tp i), defBody (tp i), defScope (tp i), dv, []⟩
def M (m : Str) (j : Nat) (dv : List He.Dv) : He.DefD := ⟨("Ratio", some m), m, "Ratio." ++ m, defArgs (inClass (tp 20) j), defBody (inClass (tp 20) j), defScope (inClass (tp 20) j), dv, []⟩
def fa : List He.Fa := [.free "isinstance", .free "abs", .free "int", .free "bool", .free "list", .free "tuple", .free "len", .free "max", .free "min", .free "range", .free "enumerate", .free "zip", .free "all", .free "divmod", .int "MOST_DEGREE" 40, .int "MOST_COINS" 8, .glo "Ratio", .cls "Ratio", .noat "Ratio" "own_top", .noat "Ratio" "own_bottom", .mkr "Ratio", .meth "Ratio" "over", .glo "is_integer", .glo "is_count", .glo "is_list", .glo "want_many", .glo "common_part", .glo "told_pair", .glo "is_number", .glo "ratio_of", .glo "want_number", .glo "is_curve", .glo "trimmed", .glo "want_curve", .glo "entry_of", .glo "added", .glo "by_number", .glo "multiplied", .glo "slope_of", .glo "whole_of", .glo "plain", .glo "degree", .glo "plus", .glo "times", .glo "scaled", .glo "derived", .glo "whole_sums", .glo "whole_table", .glo "whole_place", .glo "signs_of", .glo "are_real", .glo "is_fenced", .glo "is_kept", .glo "power_of", .glo "image_by", .glo "shifted", .glo "power_image", .glo "keeps_fenced", .glo "rule_to", .glo "_law_pot", .glo "_law_draw", .glo "_law_pick", .glo "_law_common", .glo "_law_low", .glo "_law_sum", .glo "_law_times", .glo "_law_read", .glo "_law_told", .glo "_law_cut", .glo "_law_curve", .glo "_law_product", .glo "_law_whole", .glo "_law_rest", .glo "_law_changes", .glo "_law_is_fenced", .glo "_law_lined", .glo "_law_as_told", .glo "_law_drawn", .glo "_law_rule", .glo "_law_image", .glo "_law_is_kept", .glo "_law_degrees_right", .glo "_law_led_right", .glo "_law_great_right", .glo "_law_right", .glo "law"]
def fn : List He.DefD := [D "is_integer" 12 [], D "is_count" 13 [], D "is_list" 14 [], D "want_many" 15 [.non], D "common_part" 19 [], D "told_pair" 21 [], D "is_number" 22 [], D "ratio_of" 23 [], D "want_number" 24 [], D "is_curve" 27 [], D "trimmed" 28 [], D "want_curve" 29 [], D "entry_of" 30 [], D "added" 31 [], D "by_number" 32 [], D "multiplied" 33 [], D "slope_of" 34 [], D "whole_of" 35 [], D "plain" 36 [], D "degree" 37 [], D "plus" 38 [], D "times" 39 [], D "scaled" 40 [], D "derived" 41 [], D "whole_sums" 43 [], D "whole_table" 44 [], D "whole_place" 45 [], D "signs_of" 46 [], D "are_real" 48 [], D "is_fenced" 49 [], D "is_kept" 52 [], D "power_of" 54 [], D "image_by" 55 [], D "shifted" 56 [], D "power_image" 57 [], D "keeps_fenced" 58 [], D "rule_to" 59 [], D "_law_pot" 61 [], D "_law_draw" 62 [], D "_law_pick" 63 [], D "_law_common" 64 [], D "_law_low" 65 [], D "_law_sum" 66 [], D "_law_times" 67 [], D "_law_read" 68 [], D "_law_told" 69 [], D "_law_cut" 70 [], D "_law_curve" 71 [], D "_law_product" 72 [], D "_law_whole" 73 [], D "_law_rest" 74 [], D "_law_changes" 75 [], D "_law_is_fenced" 76 [], D "_law_lined" 77 [], D "_law_as_told" 78 [], D "_law_drawn" 79 [], D "_law_rule" 80 [], D "_law_image" 81 [], D "_law_is_kept" 82 [], D "_law_degrees_right" 83 [], D "_law_led_right" 84 [], D "_law_great_right" 85 [], D "_law_right" 86 [], D "law" 87 [], M "__init__" 0 [.int 1], M "__add__" 6 [], M "__mul__" 10 [], M "over" 13 []]
abbrev Al : Type := List Bool × He.AlD × List He.FnW
def obsX (K : PySem.W.Frag) : Al := (xb K, He.obsD fa fn K, [He5.fnA K (gA K "top"), He5.fnA K (gA K "bottom"), He5.fnA K (gA K "sign")])
def valX : Al := (List.replicate 24 true, He.valD fn, [(gd "top" 1).val, (gd "bottom" 2).val, (gd "sign" 3).val])
def SaysX (K : PySem.W.Frag) : Prop := obsX K = valX
/-- what an object names, its class and the classes above left out -/
def refX (o : Obj) : List Addr := match o.data with
  | .seq its _ => its.toList.flatMap He.refV
  | .dict es _ => es.toList.flatMap fun e => He.refV e.val
  | .func fd => He.refV fd.code ++ (He.refV fd.defaults ++ He.refV fd.kwdefaults)
  | .cls cd => [cd.ns]
  | .fields vs => vs.toList.flatMap He.refV
  | _ => []
def oneX (g : Addr → Option Obj) (as : List Addr) : List Addr := as.flatMap fun a => match g a with
  | some o => refX o
  | none => []
def upX (g : Addr → Option Obj) : Nat → List Addr → List Addr
  | 0, as => as
  | n + 1, as => as ++ upX g n (oneX g as)
/-- what the module's names reach in five steps, each step by itself -/
def asX (g : Addr → Option Obj) : List Addr := upX g 5 [mainGlobals]
def obsXG (g : Addr → Option Obj) : Al := obsX (He.frG g (asX g))
def hkX : PySem.W.Hook where
  α := Al
  obs := fun s => obsXG s.heap.get?
  val := fun _ => valX
  says := fun _ h => ∃ K : PySem.W.Frag, K.In h ∧ SaysX K
  of := fun _ _ e => ⟨_, He.frG_in, e⟩
  keeps := fun _ _ _ ⟨K, hK, c⟩ k => ⟨K, PySem.W.Frag.In.keeps hK k, c⟩
theorem obsXG_eq {g : Addr → Option Obj} {s : Shared} (h : ∀ a, g a = s.heap.get? a) : obsXG g = hkX.obs s := by
  have e : g = s.heap.get? := funext h
  rw [e] <;> rfl
def ob (s : PySem.W.SharedT) : Al := obsXG (HandSHeadRun.getT s)
theorem ob_eq (s : PySem.W.SharedT) : ob s = hkX.obs s.abs := obsXG_eq (HandSHeadRun.getT_eq s)
/-- the whole run, once -/
noncomputable def wh1 (w : World) : Option (Shared × PySem.W.SharedT) := HandSHeadRun.wholeF (fun p => HandSHeadRun.stepQ (HandSHeadRun.denQ HandSHeadRun.tabQ) p w) HandSHeadRun.fenceQ 6000 Ro.prog
def kX (s : PySem.W.SharedT) : PySem.W.Frag := He.frG (HandSHeadRun.getT s) (asX (HandSHeadRun.getT s))
theorem map2 {α β γ : Type} {o : Option α} {f : α → β} {g : α → γ} {b : β} {c : γ} (h1 : o.map f = some b) (h2 : o.map g = some c) : o.map (fun x => (f x, g x)) = some (b, c) := by
  cases o with
  | none => cases h1
  | some x =>
    have e1 : f x = b := Option.some.inj h1
    have e2 : g x = c := Option.some.inj h2
    show some (f x, g x) = _
    rw [e1, e2]
theorem mapA {α : Type} {o : Option α} {f g : α → Bool} (h1 : o.map f = some true) (h2 : o.map g = some true) : o.map (fun x => f x && g x) = some true := by
  cases o with
  | none => cases h1
  | some x =>
    have e1 : f x = true := Option.some.inj h1
    have e2 : g x = true := Option.some.inj h2
    show some (f x && g x) = _
    rw [e1, e2]; rfl
theorem r1 (w : World) : (wh1 w).map (fun x => HandSHeadRun.looksF Ro.prog x.1.heap x.2.abs) = some true := by kernel_rfl
theorem r2 (w : World) : (wh1 w).map (fun x => HandSHeadRun.seenQ (PySem.W.view Ro.prog [0, 87]) names (importedModules Ro.prog.main.body) (fun s => PySem.W.xlAt (PySem.W.view Ro.prog [0, 87]) [] s && PySem.W.recOk Ro.toRowW.records s) x.2.abs) = some (PySem.W.openGood (PySem.W.view Ro.prog [0, 87]) names) := by kernel_rfl
theorem r3 (w : World) : (wh1 w).map (fun x => xb (kX x.2)) = some (List.replicate 24 true) := by kernel_rfl
theorem r4 (w : World) : (wh1 w).map (fun x => fa.all fun f => f.ok (kX x.2)) = some true := by kernel_rfl
theorem r5 (w : World) : (wh1 w).map (fun x => fn.all fun d => d.ok (kX x.2)) = some true := by kernel_rfl
theorem r6 (w : World) : (wh1 w).map (fun x => fn.map fun d => He.fnW (kX x.2) d.at_) = some (fn.map He.DefD.val) := by kernel_rfl
theorem r7 (w : World) : (wh1 w).map (fun x => [He5.fnA (kX x.2) (gA (kX x.2) "top"), He5.fnA (kX x.2) (gA (kX x.2) "bottom"), He5.fnA (kX x.2) (gA (kX x.2) "sign")]) = some [(gd "top" 1).val, (gd "bottom" 2).val, (gd "sign" 3).val] := by kernel_rfl
theorem run (w : World) : HandSHeadRun.RunEqI Ro (PySem.W.view Ro.prog [0, 87]) hkX ob 6000 names w :=
  map2 (r1 w) (map2 (r2 w) (map2 (r3 w) (map2 (map2 (mapA (r4 w) (r5 w)) (r6 w)) (r7 w))))
theorem tx_of {K : PySem.W.Frag} {h : Heap} {mg : Str → Option Value} (X : K.In h) (G : h.Ns mainGlobals mg) (e : SaysX K) : Tx K mg := by
  have c : He.SaysD fa fn K := congrArg (fun z : Al => z.2.1) e
  have b : xb K = List.replicate 24 true := congrArg (fun z : Al => z.1) e
  have v : [He5.fnA K (gA K "top"), He5.fnA K (gA K "bottom"), He5.fnA K (gA K "sign")] = [(gd "top" 1).val, (gd "bottom" 2).val, (gd "sign" 3).val] := congrArg (fun z : Al => z.2.2) e
  have B : ∀ (i : Nat) {t : Bool}, (xb K)[i]? = some t → t = true := fun i t h => by
    rw [b] at h
    exact (List.mem_replicate.mp (List.mem_of_getElem? h)).2
  have W : ∀ (i : Nat) {t : He.FnW}, [(gd "top" 1).val, (gd "bottom" 2).val, (gd "sign" 3).val][i]? = some t → [He5.fnA K (gA K "top"), He5.fnA K (gA K "bottom"), He5.fnA K (gA K "sign")][i]? = some t := fun i t h => by
    rw [v]; exact h
  exact {
    n_isinstance := He.free_ok X G (c.fact 0 (f := .free "isinstance") rfl)
    n_abs := He.free_ok X G (c.fact 1 (f := .free "abs") rfl)
    n_int := He.free_ok X G (c.fact 2 (f := .free "int") rfl)
    n_bool := He.free_ok X G (c.fact 3 (f := .free "bool") rfl)
    n_list := He.free_ok X G (c.fact 4 (f := .free "list") rfl)
    n_tuple := He.free_ok X G (c.fact 5 (f := .free "tuple") rfl)
    n_len := He.free_ok X G (c.fact 6 (f := .free "len") rfl)
    n_max := He.free_ok X G (c.fact 7 (f := .free "max") rfl)
    n_min := He.free_ok X G (c.fact 8 (f := .free "min") rfl)
    n_range := He.free_ok X G (c.fact 9 (f := .free "range") rfl)
    n_enumerate := He.free_ok X G (c.fact 10 (f := .free "enumerate") rfl)
    n_zip := He.free_ok X G (c.fact 11 (f := .free "zip") rfl)
    n_all := He.free_ok X G (c.fact 12 (f := .free "all") rfl)
    n_divmod := He.free_ok X G (c.fact 13 (f := .free "divmod") rfl)
    g_gcd := PySem.W.mg_of X G (He.eqO_ok (B 0 rfl))
    g_lcm := PySem.W.mg_of X G (He.eqO_ok (B 1 rfl))
    k_MOST_DEGREE := He.int_ok X G (c.fact 14 (f := .int "MOST_DEGREE" 40) rfl)
    k_MOST_COINS := He.int_ok X G (c.fact 15 (f := .int "MOST_COINS" 8) rfl)
    g_Ratio := He.glo_ok X G (c.fact 16 (f := .glo "Ratio") rfl)
    cl := He.cls_ok (c.fact 17 (f := .cls "Ratio") rfl)
    nT := He.noat_ok (c.fact 18 (f := .noat "Ratio" "own_top") rfl)
    nB := He.noat_ok (c.fact 19 (f := .noat "Ratio" "own_bottom") rfl)
    mkr := He.mkr_ok (c.fact 20 (f := .mkr "Ratio") rfl)
    m_over := He.meth_ok (c.fact 21 (f := .meth "Ratio" "over") rfl)
    p_top := propB_ok (B 2 rfl)
    p_bottom := propB_ok (B 3 rfl)
    p_sign := propB_ok (B 4 rfl)
    f__add__ := of_decide_eq_true (B 5 rfl)
    i__add__ := B 6 rfl
    f__mul__ := of_decide_eq_true (B 7 rfl)
    i__mul__ := B 8 rfl
    sf := B 9 rfl
    rm := of_decide_eq_true (B 10 rfl)
    im1 := Option.isSome_iff_exists.mp (B 11 rfl)
    im2 := Option.isSome_iff_exists.mp (B 12 rfl)
    isb := of_decide_eq_true (B 13 rfl)
    ca := of_decide_eq_true (B 14 rfl)
    cn := of_decide_eq_true (B 15 rfl)
    ct := of_decide_eq_true (B 16 rfl)
    cm := of_decide_eq_true (B 17 rfl)
    kRi := of_decide_eq_true (B 18 rfl)
    kRR := of_decide_eq_true (B 19 rfl)
    kiR := of_decide_eq_true (B 20 rfl)
    d_is_integer := ⟨He.glo_ok X G (c.fact 22 (f := .glo "is_integer") rfl), c.def_ 0 (d := D "is_integer" 12 []) rfl⟩
    d_is_count := ⟨He.glo_ok X G (c.fact 23 (f := .glo "is_count") rfl), c.def_ 1 (d := D "is_count" 13 []) rfl⟩
    d_is_list := ⟨He.glo_ok X G (c.fact 24 (f := .glo "is_list") rfl), c.def_ 2 (d := D "is_list" 14 []) rfl⟩
    d_want_many := ⟨He.glo_ok X G (c.fact 25 (f := .glo "want_many") rfl), c.def_ 3 (d := D "want_many" 15 [.non]) rfl⟩
    d_common_part := ⟨He.glo_ok X G (c.fact 26 (f := .glo "common_part") rfl), c.def_ 4 (d := D "common_part" 19 []) rfl⟩
    d_told_pair := ⟨He.glo_ok X G (c.fact 27 (f := .glo "told_pair") rfl), c.def_ 5 (d := D "told_pair" 21 []) rfl⟩
    d_is_number := ⟨He.glo_ok X G (c.fact 28 (f := .glo "is_number") rfl), c.def_ 6 (d := D "is_number" 22 []) rfl⟩
    d_ratio_of := ⟨He.glo_ok X G (c.fact 29 (f := .glo "ratio_of") rfl), c.def_ 7 (d := D "ratio_of" 23 []) rfl⟩
    d_want_number := ⟨He.glo_ok X G (c.fact 30 (f := .glo "want_number") rfl), c.def_ 8 (d := D "want_number" 24 []) rfl⟩
    d_is_curve := ⟨He.glo_ok X G (c.fact 31 (f := .glo "is_curve") rfl), c.def_ 9 (d := D "is_curve" 27 []) rfl⟩
    d_trimmed := ⟨He.glo_ok X G (c.fact 32 (f := .glo "trimmed") rfl), c.def_ 10 (d := D "trimmed" 28 []) rfl⟩
    d_want_curve := ⟨He.glo_ok X G (c.fact 33 (f := .glo "want_curve") rfl), c.def_ 11 (d := D "want_curve" 29 []) rfl⟩
    d_entry_of := ⟨He.glo_ok X G (c.fact 34 (f := .glo "entry_of") rfl), c.def_ 12 (d := D "entry_of" 30 []) rfl⟩
    d_added := ⟨He.glo_ok X G (c.fact 35 (f := .glo "added") rfl), c.def_ 13 (d := D "added" 31 []) rfl⟩
    d_by_number := ⟨He.glo_ok X G (c.fact 36 (f := .glo "by_number") rfl), c.def_ 14 (d := D "by_number" 32 []) rfl⟩
    d_multiplied := ⟨He.glo_ok X G (c.fact 37 (f := .glo "multiplied") rfl), c.def_ 15 (d := D "multiplied" 33 []) rfl⟩
    d_slope_of := ⟨He.glo_ok X G (c.fact 38 (f := .glo "slope_of") rfl), c.def_ 16 (d := D "slope_of" 34 []) rfl⟩
    d_whole_of := ⟨He.glo_ok X G (c.fact 39 (f := .glo "whole_of") rfl), c.def_ 17 (d := D "whole_of" 35 []) rfl⟩
    d_plain := ⟨He.glo_ok X G (c.fact 40 (f := .glo "plain") rfl), c.def_ 18 (d := D "plain" 36 []) rfl⟩
    d_degree := ⟨He.glo_ok X G (c.fact 41 (f := .glo "degree") rfl), c.def_ 19 (d := D "degree" 37 []) rfl⟩
    d_plus := ⟨He.glo_ok X G (c.fact 42 (f := .glo "plus") rfl), c.def_ 20 (d := D "plus" 38 []) rfl⟩
    d_times := ⟨He.glo_ok X G (c.fact 43 (f := .glo "times") rfl), c.def_ 21 (d := D "times" 39 []) rfl⟩
    d_scaled := ⟨He.glo_ok X G (c.fact 44 (f := .glo "scaled") rfl), c.def_ 22 (d := D "scaled" 40 []) rfl⟩
    d_derived := ⟨He.glo_ok X G (c.fact 45 (f := .glo "derived") rfl), c.def_ 23 (d := D "derived" 41 []) rfl⟩
    d_whole_sums := ⟨He.glo_ok X G (c.fact 46 (f := .glo "whole_sums") rfl), c.def_ 24 (d := D "whole_sums" 43 []) rfl⟩
    d_whole_table := ⟨He.glo_ok X G (c.fact 47 (f := .glo "whole_table") rfl), c.def_ 25 (d := D "whole_table" 44 []) rfl⟩
    d_whole_place := ⟨He.glo_ok X G (c.fact 48 (f := .glo "whole_place") rfl), c.def_ 26 (d := D "whole_place" 45 []) rfl⟩
    d_signs_of := ⟨He.glo_ok X G (c.fact 49 (f := .glo "signs_of") rfl), c.def_ 27 (d := D "signs_of" 46 []) rfl⟩
    d_are_real := ⟨He.glo_ok X G (c.fact 50 (f := .glo "are_real") rfl), c.def_ 28 (d := D "are_real" 48 []) rfl⟩
    d_is_fenced := ⟨He.glo_ok X G (c.fact 51 (f := .glo "is_fenced") rfl), c.def_ 29 (d := D "is_fenced" 49 []) rfl⟩
    d_is_kept := ⟨He.glo_ok X G (c.fact 52 (f := .glo "is_kept") rfl), c.def_ 30 (d := D "is_kept" 52 []) rfl⟩
    d_power_of := ⟨He.glo_ok X G (c.fact 53 (f := .glo "power_of") rfl), c.def_ 31 (d := D "power_of" 54 []) rfl⟩
    d_image_by := ⟨He.glo_ok X G (c.fact 54 (f := .glo "image_by") rfl), c.def_ 32 (d := D "image_by" 55 []) rfl⟩
    d_shifted := ⟨He.glo_ok X G (c.fact 55 (f := .glo "shifted") rfl), c.def_ 33 (d := D "shifted" 56 []) rfl⟩
    d_power_image := ⟨He.glo_ok X G (c.fact 56 (f := .glo "power_image") rfl), c.def_ 34 (d := D "power_image" 57 []) rfl⟩
    d_keeps_fenced := ⟨He.glo_ok X G (c.fact 57 (f := .glo "keeps_fenced") rfl), c.def_ 35 (d := D "keeps_fenced" 58 []) rfl⟩
    d_rule_to := ⟨He.glo_ok X G (c.fact 58 (f := .glo "rule_to") rfl), c.def_ 36 (d := D "rule_to" 59 []) rfl⟩
    d__law_pot := ⟨He.glo_ok X G (c.fact 59 (f := .glo "_law_pot") rfl), c.def_ 37 (d := D "_law_pot" 61 []) rfl⟩
    d__law_draw := ⟨He.glo_ok X G (c.fact 60 (f := .glo "_law_draw") rfl), c.def_ 38 (d := D "_law_draw" 62 []) rfl⟩
    d__law_pick := ⟨He.glo_ok X G (c.fact 61 (f := .glo "_law_pick") rfl), c.def_ 39 (d := D "_law_pick" 63 []) rfl⟩
    d__law_common := ⟨He.glo_ok X G (c.fact 62 (f := .glo "_law_common") rfl), c.def_ 40 (d := D "_law_common" 64 []) rfl⟩
    d__law_low := ⟨He.glo_ok X G (c.fact 63 (f := .glo "_law_low") rfl), c.def_ 41 (d := D "_law_low" 65 []) rfl⟩
    d__law_sum := ⟨He.glo_ok X G (c.fact 64 (f := .glo "_law_sum") rfl), c.def_ 42 (d := D "_law_sum" 66 []) rfl⟩
    d__law_times := ⟨He.glo_ok X G (c.fact 65 (f := .glo "_law_times") rfl), c.def_ 43 (d := D "_law_times" 67 []) rfl⟩
    d__law_read := ⟨He.glo_ok X G (c.fact 66 (f := .glo "_law_read") rfl), c.def_ 44 (d := D "_law_read" 68 []) rfl⟩
    d__law_told := ⟨He.glo_ok X G (c.fact 67 (f := .glo "_law_told") rfl), c.def_ 45 (d := D "_law_told" 69 []) rfl⟩
    d__law_cut := ⟨He.glo_ok X G (c.fact 68 (f := .glo "_law_cut") rfl), c.def_ 46 (d := D "_law_cut" 70 []) rfl⟩
    d__law_curve := ⟨He.glo_ok X G (c.fact 69 (f := .glo "_law_curve") rfl), c.def_ 47 (d := D "_law_curve" 71 []) rfl⟩
    d__law_product := ⟨He.glo_ok X G (c.fact 70 (f := .glo "_law_product") rfl), c.def_ 48 (d := D "_law_product" 72 []) rfl⟩
    d__law_whole := ⟨He.glo_ok X G (c.fact 71 (f := .glo "_law_whole") rfl), c.def_ 49 (d := D "_law_whole" 73 []) rfl⟩
    d__law_rest := ⟨He.glo_ok X G (c.fact 72 (f := .glo "_law_rest") rfl), c.def_ 50 (d := D "_law_rest" 74 []) rfl⟩
    d__law_changes := ⟨He.glo_ok X G (c.fact 73 (f := .glo "_law_changes") rfl), c.def_ 51 (d := D "_law_changes" 75 []) rfl⟩
    d__law_is_fenced := ⟨He.glo_ok X G (c.fact 74 (f := .glo "_law_is_fenced") rfl), c.def_ 52 (d := D "_law_is_fenced" 76 []) rfl⟩
    d__law_lined := ⟨He.glo_ok X G (c.fact 75 (f := .glo "_law_lined") rfl), c.def_ 53 (d := D "_law_lined" 77 []) rfl⟩
    d__law_as_told := ⟨He.glo_ok X G (c.fact 76 (f := .glo "_law_as_told") rfl), c.def_ 54 (d := D "_law_as_told" 78 []) rfl⟩
    d__law_drawn := ⟨He.glo_ok X G (c.fact 77 (f := .glo "_law_drawn") rfl), c.def_ 55 (d := D "_law_drawn" 79 []) rfl⟩
    d__law_rule := ⟨He.glo_ok X G (c.fact 78 (f := .glo "_law_rule") rfl), c.def_ 56 (d := D "_law_rule" 80 []) rfl⟩
    d__law_image := ⟨He.glo_ok X G (c.fact 79 (f := .glo "_law_image") rfl), c.def_ 57 (d := D "_law_image" 81 []) rfl⟩
    d__law_is_kept := ⟨He.glo_ok X G (c.fact 80 (f := .glo "_law_is_kept") rfl), c.def_ 58 (d := D "_law_is_kept" 82 []) rfl⟩
    d__law_degrees_right := ⟨He.glo_ok X G (c.fact 81 (f := .glo "_law_degrees_right") rfl), c.def_ 59 (d := D "_law_degrees_right" 83 []) rfl⟩
    d__law_led_right := ⟨He.glo_ok X G (c.fact 82 (f := .glo "_law_led_right") rfl), c.def_ 60 (d := D "_law_led_right" 84 []) rfl⟩
    d__law_great_right := ⟨He.glo_ok X G (c.fact 83 (f := .glo "_law_great_right") rfl), c.def_ 61 (d := D "_law_great_right" 85 []) rfl⟩
    d__law_right := ⟨He.glo_ok X G (c.fact 84 (f := .glo "_law_right") rfl), c.def_ 62 (d := D "_law_right" 86 []) rfl⟩
    d_law := ⟨He.glo_ok X G (c.fact 85 (f := .glo "law") rfl), c.def_ 63 (d := D "law" 87 []) rfl⟩
    d___init__ := ⟨c.def_ 64 (d := M "__init__" 0 [.int 1]) rfl⟩
    d___add__ := ⟨c.def_ 65 (d := M "__add__" 6 []) rfl⟩
    d___mul__ := ⟨c.def_ 66 (d := M "__mul__" 10 []) rfl⟩
    d_over := ⟨c.def_ 67 (d := M "over" 13 []) rfl⟩
    d_top := ⟨He5.DefA.funD (d := gd "top" 1) (Option.some.inj (W 0 (by rfl))) (B 21 rfl)⟩
    d_bottom := ⟨He5.DefA.funD (d := gd "bottom" 2) (Option.some.inj (W 1 (by rfl))) (B 22 rfl)⟩
    d_sign := ⟨He5.DefA.funD (d := gd "sign" 3) (Option.some.inj (W 2 (by rfl))) (B 23 rfl)⟩ }
end K66.Hd

set_option Elab.async false
set_option linter.all false
set_option maxRecDepth 100000
set_option maxHeartbeats 2000000
namespace K66
open PySem PySem.Spec PyProof.Rows L2
open Evl (Ex)
/-- the attributes of a Ratio -/
def rf (q : Rat) : List (Str × V) := putF "own_bottom" (.int (q.den : Int)) (putF "own_top" (.int q.num) [])
theorem bt_ : ¬ (("own_bottom" : Str) = "own_top") := by decide +kernel
theorem rf_top (q : Rat) : (rf q).lookup ("own_top" : Str) = some (.int q.num) := by
  unfold rf
  rw [lookup_putF, if_neg (fun e => bt_ e.symm), lookup_putF, if_pos rfl]
theorem rf_bot (q : Rat) : (rf q).lookup ("own_bottom" : Str) = some (.int (q.den : Int)) := by
  unfold rf
  rw [lookup_putF, if_pos rfl]
theorem rf_no (q : Rat) {m : Str} (h1 : ¬ m = "own_bottom") (h2 : ¬ m = "own_top") : (rf q).lookup m = none := by
  unfold rf
  rw [lookup_putF, if_neg h1, lookup_putF, if_neg h2]
  rfl
def IsR (K : PySem.W.Frag) (H : Hp) (v : V) (q : Rat) : Prop := ∃ a dx, v = .ref a ∧ H a = some (.ins (RC K) dx (rf q))
def IsN (K : PySem.W.Frag) (H : Hp) (v : V) (q : Rat) : Prop := (∃ i : Int, v = .int i ∧ q = (i : Rat)) ∨ IsR K H v q
theorem IsR.mono {K : PySem.W.Frag} {H H' : Hp} {v : V} {q : Rat} (h : IsR K H v q) (e : Ex H H') : IsR K H' v q := by
  obtain ⟨a, dx, h1, h2⟩ := h
  exact ⟨a, dx, h1, e _ _ h2⟩
theorem IsN.mono {K : PySem.W.Frag} {H H' : Hp} {v : V} {q : Rat} (h : IsN K H v q) (e : Ex H H') : IsN K H' v q := h.elim .inl fun h => .inr (h.mono e)
section
variable {P : Program} {w : World} {K : PySem.W.Frag} {mg : Str → Option Value} {base : Heap}
theorem ty_R (T : Tx K mg) {H : Hp} {a dx : Addr} {fs : List (Str × V)} (h : H a = some (.ins (RC K) dx fs)) : TyX K H (.ref a) (.ref (RC K)) := .base (.ins h T.cl T.ca T.cn T.ct T.cm)
def spInt (K : PySem.W.Frag) : Sp := fun vs H Q _ => ∃ v, vs = [v] ∧ ((∃ i, v = .int i ∧ Q (.bl true) H) ∨ (∃ q, IsR K H v q ∧ Q (.bl false) H))
theorem sc_is_integer : FnScope ["value"] ["value"] (defScope (tp 12)) := ⟨rfl, rfl, rfl, by decide +kernel, rfl, by decide +kernel, by decide +kernel⟩
theorem ok_is_integer (T : Tx K mg) : Ok P w K mg base 1 "is_integer" ["value"] (spInt K) := by
  refine T.d_is_integer.ok sc_is_integer (fun vs H Q E h => ?_) (fun _ _ _ _ _ _ us hl => match us, hl with | [_], _ => rfl) (fun cdv A outer s H vs Q E hr h => ?_)
  · obtain ⟨_, rfl, _⟩ := h
    rfl
  · refine ⟨_, (pss_one (ps_ret (pe_and (pe_callB call_isi (by rfl) T.n_isinstance (by decide +kernel) (pa_cons (pv 0) (pa_cons (pe_bltn (v := .ty "int") (u := .type "int") (by rfl) T.n_int (by decide +kernel) rfl) pa_nil))) (pe_one (pe_not (pe_callB call_isi (by rfl) T.n_isinstance (by decide +kernel) (pa_cons (pv 0) (pa_cons (pe_bltn (v := .ty "bool") (u := .type "bool") (by rfl) T.n_bool (by decide +kernel) rfl) pa_nil)))))))), ?_⟩
    obtain ⟨v, rfl, h⟩ := h
    rcases h with ⟨i, rfl, q⟩ | ⟨q, ⟨a, dx, rfl, ha⟩, k⟩
    · refine ⟨_, rfl, _, .ty "int", _, _, true, rfl, .ty "int", .base (.int i), kit_ty (by decide +kernel), true, rfl, iteT ?_⟩
      exact ⟨_, rfl, _, .ty "bool", _, _, false, rfl, .ty "bool", .base (.int i), kit_ty (by decide +kernel), _, rfl, q⟩
    · exact ⟨_, rfl, _, .ty "int", _, _, false, rfl, .ty "int", ty_R T ha, T.kRi, false, rfl, iteF k⟩
def spCount : Sp := fun vs H Q _ => ∃ i, vs = [.int i] ∧ Q (.bl (decide (0 ≤ i))) H
theorem sc_is_count : FnScope ["value"] ["value"] (defScope (tp 13)) := ⟨rfl, rfl, rfl, by decide +kernel, rfl, by decide +kernel, by decide +kernel⟩
theorem ok_is_count (T : Tx K mg) : Ok P w K mg base 2 "is_count" ["value"] (spCount) := by
  have O_is_integer := ok_is_integer (P := P) (w := w) (base := base) T
  refine T.d_is_count.ok sc_is_count (fun vs H Q E h => ?_) (fun _ _ _ _ _ _ us hl => match us, hl with | [_], _ => rfl) (fun cdv A outer s H vs Q E hr h => ?_)
  · obtain ⟨_, rfl, _⟩ := h
    rfl
  · refine ⟨_, (pss_one (ps_ret (pe_and (pe_c O_is_integer (hr.mono (by decide)) (by rfl) (pa_cons (pv 0) pa_nil)) (pe_one (pe_cmpR op_ge (pv 0) pe_int (nomark _)))))), ?_⟩
    obtain ⟨i, rfl, q⟩ := h
    exact ⟨_, rfl, _, rfl, .inl ⟨i, rfl, _, rfl, iteT ⟨_, rfl, _, _, rfl, rfl, q⟩⟩⟩
def spList : Sp := fun vs H Q _ => ∃ a, vs = [.ref a] ∧ ((∃ xs, H a = some (.lst xs)) ∨ ∃ xs, H a = some (.tup xs)) ∧ ∀ H', Ex H H' → Q (.bl true) H'
theorem sc_is_list : FnScope ["value"] ["value"] (defScope (tp 14)) := ⟨rfl, rfl, rfl, by decide +kernel, rfl, by decide +kernel, by decide +kernel⟩
theorem ok_is_list (T : Tx K mg) : Ok P w K mg base 1 "is_list" ["value"] (spList) := by
  refine T.d_is_list.ok sc_is_list (fun vs H Q E h => ?_) (fun _ _ _ _ _ _ us hl => match us, hl with | [_], _ => rfl) (fun cdv A outer s H vs Q E hr h => ?_)
  · obtain ⟨_, rfl, _⟩ := h
    rfl
  · refine ⟨_, (pss_one (ps_ret (pe_callB call_isiT (by rfl) T.n_isinstance (by decide +kernel) (pa_cons (pv 0) (pa_cons (pe_tup (pa_cons (pe_bltn (v := .ty "list") (u := .type "list") (by rfl) T.n_list (by decide +kernel) rfl) (pa_cons (pe_bltn (v := .ty "tuple") (u := .type "tuple") (by rfl) T.n_tuple (by decide +kernel) rfl) pa_nil))) pa_nil))))), ?_⟩
    obtain ⟨a, rfl, h, k⟩ := h
    refine ⟨_, rfl, by show 2 ≤ sizeLine; decide, fun t ht => ?_⟩
    have e := Evl.Ex.new (o := .tup [.ty "list", .ty "tuple"]) ht
    rcases h with ⟨xs, h⟩ | ⟨xs, h⟩
    · refine ⟨_, t, _, _, [.type "list", .type "tuple"], true, rfl, upd_same, .cons (.ty "list") (.cons (.ty "tuple") .nil), .base (.lst (e _ _ h)), ?_, k _ e⟩
      exact kitAny_cons (b := true) (kit_ty (by decide +kernel)) (fun z => nomatch z) (fun _ => rfl)
    · refine ⟨_, t, _, _, [.type "list", .type "tuple"], true, rfl, upd_same, .cons (.ty "list") (.cons (.ty "tuple") .nil), .base (.tup (e _ _ h)), ?_, k _ e⟩
      exact kitAny_cons (b := false) (kit_ty (by decide +kernel)) (fun _ => kitAny_cons (b := true) (kit_ty (by decide +kernel)) (fun z => nomatch z) (fun _ => rfl)) (fun z => nomatch z)
def spGcd : Sp := fun vs H Q _ => ∃ a b : Int, vs = [.int a, .int b] ∧ Q (.int ((Nat.gcd a.natAbs b.natAbs : Nat) : Int)) H
theorem abs_if (i : Int) : (if i < 0 then -i else i) = ((i.natAbs : Nat) : Int) := by split <;> omega
theorem sc_common_part : FnScope ["one", "other"] ["one", "other"] (defScope (tp 19)) := ⟨rfl, rfl, rfl, by decide +kernel, rfl, by decide +kernel, by decide +kernel⟩
theorem ok_common_part (T : Tx K mg) : Ok P w K mg base 1 "common_part" ["one", "other"] (spGcd) := by
  refine T.d_common_part.ok sc_common_part (fun vs H Q E h => ?_) (fun _ _ _ _ _ _ us hl => match us, hl with | [_, _], _ => rfl) (fun cdv A outer s H vs Q E hr h => ?_)
  · obtain ⟨_, _, rfl, _⟩ := h
    rfl
  · refine ⟨_, (pss_cons (ps_par (i := 0) (j := 1) rfl sc_common_part.nd rfl rfl (by decide) rfl rfl (pa_cons (pe_callB call_abs (by rfl) T.n_abs (by decide +kernel) (pa_cons (pv 0) pa_nil)) (pa_cons (pe_callB call_abs (by rfl) T.n_abs (by decide +kernel) (pa_cons (pv 1) pa_nil)) pa_nil)) (by rfl))
      (pss_cons (ps_while PassesOwn.never (pt_cmpR op_gt (pv 1) pe_int (nomark _)) (pss_one (ps_par (i := 0) (j := 1) rfl sc_common_part.nd rfl rfl (by decide) rfl rfl (pa_cons (pv 1) (pa_cons (pe_op op_mod (pe_callTy call_int1 (by rfl) T.n_int (by decide +kernel) (pa_cons (pv 0) pa_nil)) (pv 1)) pa_nil)) (by rfl))))
      (pss_one (ps_ret (pv 0))))), ?_⟩
    obtain ⟨a, b, rfl, q⟩ := h
    refine ⟨_, rfl, a, rfl, _, rfl, b, rfl, _, _, rfl, ?_⟩
    rw [abs_if, abs_if]
    refine ⟨fun m σ' H' => ∃ x y : Nat, σ' = [some (.int (x : Int)), some (.int (y : Int))] ∧ H' = H ∧ Nat.gcd x y = Nat.gcd a.natAbs b.natAbs ∧ m = y, ⟨_, _, _, rfl, rfl, rfl, rfl⟩, ?_⟩
    rintro m σ' H' ⟨x, y, rfl, rfl, e, rfl⟩
    refine ⟨_, rfl, _, _, rfl, rfl, _, rfl, ?_⟩
    refine ite2 (fun hb => ?_) (fun hb => ?_)
    · have hy : 0 < m := by have := of_decide_eq_true hb; omega
      refine ⟨_, fun _ _ z => z, ?_⟩
      refine ⟨_, rfl, _, rfl, .inl ⟨_, rfl, _, rfl, _, _, rfl, rfl, (by show (0 : Int) < (m : Int); omega), ?_⟩⟩
      refine ⟨_, _, rfl, x % m, Nat.mod_lt _ hy, m, x % m, ?_, rfl, ?_, rfl⟩
      · show [some (V.int (m : Int)), some (V.int ((x : Int) % (m : Int)))] = _
        rw [Int.natCast_emod]
      · rw [← e, Nat.gcd_comm m, ← Nat.gcd_rec, Nat.gcd_comm]
    · have hy : m = 0 := by
        have : ¬ (0 : Int) < (m : Int) := fun z => hb (decide_eq_true z)
        omega
      subst hy
      rw [Nat.gcd_zero_right] at e
      refine ⟨_, rfl, ?_⟩
      rw [e]
      exact q
theorem divInt_num {t b : Int} (hb : 0 < b) : (Rat.divInt t b).num = t / ((Nat.gcd t.natAbs b.natAbs : Nat) : Int) := by
  rw [Rat.num_divInt, Int.sign_eq_one_of_pos hb, Int.one_mul]
  show t / ((Nat.gcd b.natAbs t.natAbs : Nat) : Int) = _
  rw [Nat.gcd_comm]
theorem divInt_den {t b : Int} (hb : 0 < b) : (((Rat.divInt t b).den : Nat) : Int) = b / ((Nat.gcd t.natAbs b.natAbs : Nat) : Int) := by
  rw [Rat.den_divInt, if_neg (by omega)]
  show ((b.natAbs / Nat.gcd b.natAbs t.natAbs : Nat) : Int) = _
  rw [Nat.gcd_comm, Int.natCast_ediv]
  have : ((b.natAbs : Nat) : Int) = b := by omega
  rw [this]
def spInit (K : PySem.W.Frag) : Sp := fun vs H Q _ => ∃ (a : Addr) (t b : Int) (dx : Addr), vs = [.ref a, .int t, .int b] ∧ 0 < b ∧ b.natAbs < 2 ^ 8000 ∧ H a = some (.ins (RC K) dx []) ∧ Q .non (upd H a (.ins (RC K) dx (rf (Rat.divInt t b))))
theorem sc_Ratio___init__ : FnScope ["self", "top", "bottom", "common"] ["self", "top", "bottom"] (defScope (inClass (tp 20) 0)) := ⟨rfl, rfl, rfl, by decide +kernel, rfl, by decide +kernel, by decide +kernel⟩
theorem fn_init (T : Tx K mg) : ∃ fd, FunD K "__init__" "Ratio.__init__" (defArgs (inClass (tp 20) 0)) (defBody (inClass (tp 20) 0)) (defScope (inClass (tp 20) 0)) [.int 1] [] (He.ma K (RC K) "__init__") fd ∧
    FnOk P w K mg base CX0 2 (He.ma K (RC K) "__init__") fd ["self", "top", "bottom"] (spInit K) := by
  have O_is_integer := ok_is_integer (P := P) (w := w) (base := base) T
  have O_common_part := ok_common_part (P := P) (w := w) (base := base) T
  obtain ⟨fd, F⟩ := T.d___init__.fn
  refine ⟨fd, F, F.ok sc_Ratio___init__ (fun vs H Q E h => ?_) (fun cdv A outer s H vs Q E hr h => ?_)⟩
  · obtain ⟨_, _, _, _, rfl, _⟩ := h
    rfl
  · refine ⟨_, PSs.nox (pss_cons (ps_if (pt_not (pt_val (pe_c O_is_integer (hr.mono (by decide)) (by rfl) (pa_cons (pv 1) pa_nil)))) (pss_one ps_never) pss_nil)
      (pss_cons (ps_if (PW.pt (pw_or (pt_not (pt_val (pe_c O_is_integer (hr.mono (by decide)) (by rfl) (pa_cons (pv 2) pa_nil)))) (pw_or1 (pt_cmpR op_eq (pv 2) pe_int (nomark _))))) (pss_one ps_never) pss_nil)
      (pss_cons (ps_set (i := 3) sc_Ratio___init__.nd rfl (.inl rfl) (pe_c O_common_part (hr.mono (by decide)) (by rfl) (pa_cons (pv 1) (pa_cons (pv 2) pa_nil))))
      (pss_cons (ps_if (pt_cmpR op_lt (pv 2) pe_int (nomark _)) (pss_one (ps_set (i := 3) sc_Ratio___init__.nd rfl (.inl rfl) (pe_op op_sub pe_int (pv 3)))) pss_nil)
      (pss_cons (ps_fld (pv 0) (pe_op op_fdivW (pv 1) (pv 3)) rfl)
      (pss_one (ps_fld (pv 0) (pe_op op_fdivW (pv 2) (pv 3)) rfl))))))), ?_⟩
    obtain ⟨a, t, b, dx, rfl, hb, hz, ha, q⟩ := h
    have hg : 0 < Nat.gcd t.natAbs b.natAbs := Nat.gcd_pos_of_pos_right _ (by omega)
    have hgl : Nat.gcd t.natAbs b.natAbs ≤ b.natAbs := Nat.gcd_le_right _ (by omega)
    have dv : ∀ i : Int, CDivW i ((Nat.gcd t.natAbs b.natAbs : Nat) : Int) := fun i => wide_div (b := 8000) (by omega) (by rw [Int.natAbs_natCast]; exact Nat.lt_of_le_of_lt hgl hz) (by decide) (by decide)
    refine ⟨_, rfl, _, rfl, .inl ⟨t, rfl, _, rfl, iteF ?_⟩⟩
    refine ⟨_, rfl, _, rfl, .inl ⟨b, rfl, _, rfl, iteF ?_⟩⟩
    refine ⟨_, rfl, rfl, _, rfl, ?_⟩
    rw [decide_eq_false (fun e : V.int b = V.int 0 => by injection e with e; omega)]
    refine iteF ?_
    refine ⟨_, rfl, _, rfl, _, _, rfl, ?_⟩
    refine ⟨_, rfl, _, _, rfl, rfl, _, rfl, ?_⟩
    rw [decide_eq_false (by omega : ¬ b < 0)]
    refine iteF ?_
    refine ⟨_, rfl, _, rfl, _, _, rfl, rfl, dv t, ?_⟩
    refine ⟨_, rfl, a, RC K, dx, _, rfl, ha, T.cl, T.nT, by decide, ?_⟩
    refine ⟨_, rfl, _, rfl, _, _, rfl, rfl, dv b, ?_⟩
    refine ⟨_, rfl, a, RC K, dx, _, rfl, upd_same, T.cl, T.nB, (by show 1 < 1000; decide), ?_⟩
    show Q .non (upd (upd H a _) a _)
    rw [upd_upd]
    unfold rf at q
    rw [divInt_num hb, divInt_den hb] at q
    exact q
theorem ok_init2 (T : Tx K mg) : OkA P w K mg base 2 (He.ma K (RC K) "__init__") ["self", "top", "bottom"] [] (spInit K) := by
  obtain ⟨fd, F, G⟩ := fn_init (P := P) (w := w) (base := base) T
  obtain ⟨ds, h1, h2⟩ := F.binds1 (ps := ["self", "top", "bottom"]) 3 1 (by decide) (by decide) (fun D kV doc pm an cdv ct us its h1 h2 => match us, h1, its, h2 with
    | [_, _, _], _, [_], _ => ⟨_, rfl, rfl⟩)
  exact ⟨fd, ds, G, h1, h2⟩
theorem ok_init1 (T : Tx K mg) : OkA P w K mg base 2 (He.ma K (RC K) "__init__") ["self", "top", "bottom"] [.int 1] (spInit K) := by
  obtain ⟨fd, F, G⟩ := fn_init (P := P) (w := w) (base := base) T
  obtain ⟨ds, h1, h2⟩ := F.binds1 (ps := ["self", "top", "bottom"]) 2 0 (by decide) (by decide) (fun D kV doc pm an cdv ct us its h1 h2 => match us, h1, its, h2 with
    | [_, _], _, [_], _ => ⟨_, rfl, rfl⟩)
  exact ⟨fd, ds, G, h1, h2⟩
/-- what a call of the class gives -/
theorem make_R {t b : Int} (hb : 0 < b) (hz : b.natAbs < 2 ^ 8000) {H : Hp} {Q : VK} (q : ∀ v H', Ex H H' → IsR K H' v (Rat.divInt t b) → Q v H') :
    ∀ x dx, H x = none → H dx = none → dx ≠ x → spInit K [.ref x, .int t, .int b] (upd (upd H dx (.own x)) x (.ins (RC K) dx [])) (fun v H2 => v = .non ∧ Q (.ref x) H2) E0 := by
  intro x dx hx hd hne
  refine ⟨x, t, b, dx, rfl, hb, hz, upd_same, rfl, ?_⟩
  rw [upd_upd]
  refine q _ _ (fun a o ha => ?_) ⟨x, dx, rfl, upd_same⟩
  rw [upd_ne (ne_of_none ha hx), upd_ne (ne_of_none ha hd)]
  exact ha
end
end K66

set_option Elab.async false
set_option linter.all false
set_option maxRecDepth 100000
set_option maxHeartbeats 2000000
set_option exponentiation.threshold 10000
namespace K66
open PySem PySem.Spec PyProof.Rows L2
open Evl (Ex)
/-- a Ratio of moderate size -/
def Sz (q : Rat) : Prop := q.num.natAbs < 2 ^ 3000 ∧ q.den < 2 ^ 3000
def sgn (q : Rat) : Int := (if 0 < q.num then 1 else 0) - (if q.num < 0 then 1 else 0)
theorem sgn_zero (q : Rat) : sgn q = 0 ↔ q = 0 := by
  unfold sgn
  rw [← Rat.num_eq_zero]
  split <;> split <;> omega
theorem den_pos' (q : Rat) : (0 : Int) < (q.den : Int) := by have := q.den_pos; omega
theorem add_div (p q : Rat) : p + q = Rat.divInt (p.num * (q.den : Int) + q.num * (p.den : Int)) ((p.den : Int) * (q.den : Int)) := by
  have := Rat.divInt_add_divInt p.num q.num (d₁ := (p.den : Int)) (d₂ := (q.den : Int)) (by have := den_pos' p; omega) (by have := den_pos' q; omega)
  rw [Rat.num_divInt_den, Rat.num_divInt_den] at this
  exact this
theorem mul_div' (p q : Rat) : p * q = Rat.divInt (p.num * q.num) ((p.den : Int) * (q.den : Int)) := by
  have := Rat.divInt_mul_divInt p.num q.num (d₁ := (p.den : Int)) (d₂ := (q.den : Int))
  rw [Rat.num_divInt_den, Rat.num_divInt_den] at this
  exact this
theorem over_div (p q : Rat) (h : q.num ≠ 0) : p / q = Rat.divInt (p.num * (q.den : Int)) ((p.den : Int) * q.num) := by
  have e1 := Rat.num_divInt_den p
  have e2 := Rat.num_divInt_den q
  rw [Rat.divInt_eq_div] at e1 e2 ⊢
  rw [Rat.intCast_mul, Rat.intCast_mul]
  have hq : (q.num : Rat) ≠ 0 := fun z => h (by exact_mod_cast z)
  have hd : ((q.den : Int) : Rat) ≠ 0 := fun z => by
    have h0 : (q.den : Int) = 0 := by exact_mod_cast z
    have := den_pos' q
    omega
  have hp : ((p.den : Int) : Rat) ≠ 0 := fun z => by
    have h0 : (p.den : Int) = 0 := by exact_mod_cast z
    have := den_pos' p
    omega
  have e : p / q = (p.num : Rat) / ((p.den : Int) : Rat) / ((q.num : Rat) / ((q.den : Int) : Rat)) := by rw [e1, e2]
  rw [e]
  clear e
  generalize (p.num : Rat) = a at *
  generalize ((p.den : Int) : Rat) = b at *
  generalize (q.num : Rat) = c at *
  generalize ((q.den : Int) : Rat) = d at *
  clear e1 e2
  grind -verbose
section
variable {P : Program} {w : World} {K : PySem.W.Frag} {mg : Str → Option Value} {base : Heap}
def spTop (K : PySem.W.Frag) : Sp := fun vs H Q _ => ∃ v, vs = [v] ∧ ∃ q, IsR K H v q ∧ Q (.int q.num) H
theorem sc_Ratio_top : FnScope ["self"] ["self"] (defScope (inClass (tp 20) 1)) := ⟨rfl, rfl, rfl, by decide +kernel, rfl, by decide +kernel, by decide +kernel⟩
theorem ok_Ratio_top (T : Tx K mg) : OkA P w K mg base 1 (gA K "top") ["self"] [] (spTop K) := by
  refine T.d_top.ok sc_Ratio_top (fun vs H Q E h => ?_) (fun _ _ _ _ _ _ us hl => match us, hl with | [_], _ => rfl) (fun cdv A outer s H vs Q E hr h => ?_)
  · obtain ⟨_, rfl, _⟩ := h
    rfl
  · refine ⟨_, (pss_one (ps_ret (pe_fld (pv 0) rfl))), ?_⟩
    obtain ⟨v, rfl, q, ⟨a, dx, rfl, ha⟩, k⟩ := h
    exact ⟨_, rfl, a, _, dx, _, _, rfl, ha, T.cl, T.nT, rf_top q, k⟩
def spBot (K : PySem.W.Frag) : Sp := fun vs H Q _ => ∃ v, vs = [v] ∧ ∃ q, IsR K H v q ∧ Q (.int (q.den : Int)) H
theorem sc_Ratio_bottom : FnScope ["self"] ["self"] (defScope (inClass (tp 20) 2)) := ⟨rfl, rfl, rfl, by decide +kernel, rfl, by decide +kernel, by decide +kernel⟩
theorem ok_Ratio_bottom (T : Tx K mg) : OkA P w K mg base 1 (gA K "bottom") ["self"] [] (spBot K) := by
  refine T.d_bottom.ok sc_Ratio_bottom (fun vs H Q E h => ?_) (fun _ _ _ _ _ _ us hl => match us, hl with | [_], _ => rfl) (fun cdv A outer s H vs Q E hr h => ?_)
  · obtain ⟨_, rfl, _⟩ := h
    rfl
  · refine ⟨_, (pss_one (ps_ret (pe_fld (pv 0) rfl))), ?_⟩
    obtain ⟨v, rfl, q, ⟨a, dx, rfl, ha⟩, k⟩ := h
    exact ⟨_, rfl, a, _, dx, _, _, rfl, ha, T.cl, T.nB, rf_bot q, k⟩
def spSign (K : PySem.W.Frag) : Sp := fun vs H Q _ => ∃ v, vs = [v] ∧ ∃ q, IsR K H v q ∧ Q (.int (sgn q)) H
theorem b2 (c : Prop) [Decidable c] : (if (decide c) = true then (1 : Int) else 0) = if c then 1 else 0 := by by_cases h : c <;> simp [h]
theorem sc_Ratio_sign : FnScope ["self"] ["self"] (defScope (inClass (tp 20) 3)) := ⟨rfl, rfl, rfl, by decide +kernel, rfl, by decide +kernel, by decide +kernel⟩
theorem ok_Ratio_sign (T : Tx K mg) : OkA P w K mg base 1 (gA K "sign") ["self"] [] (spSign K) := by
  refine T.d_sign.ok sc_Ratio_sign (fun vs H Q E h => ?_) (fun _ _ _ _ _ _ us hl => match us, hl with | [_], _ => rfl) (fun cdv A outer s H vs Q E hr h => ?_)
  · obtain ⟨_, rfl, _⟩ := h
    rfl
  · refine ⟨_, (pss_one (ps_ret (pe_op op_sub (pe_callTy call_int1 (by rfl) T.n_int (by decide +kernel) (pa_cons (pe_cmpR op_gt (pe_fld (pv 0) rfl) pe_int (nomark _)) pa_nil)) (pe_callTy call_int1 (by rfl) T.n_int (by decide +kernel) (pa_cons (pe_cmpR op_lt (pe_fld (pv 0) rfl) pe_int (nomark _)) pa_nil))))), ?_⟩
    obtain ⟨v, rfl, q, ⟨a, dx, rfl, ha⟩, k⟩ := h
    refine ⟨_, rfl, a, _, dx, _, _, rfl, ha, T.cl, T.nT, rf_top q, _, _, rfl, rfl, .inr ⟨_, rfl, ?_⟩⟩
    refine ⟨_, rfl, a, _, dx, _, _, rfl, ha, T.cl, T.nT, rf_top q, _, _, rfl, rfl, .inr ⟨_, rfl, ?_⟩⟩
    refine ⟨_, _, rfl, rfl, ?_⟩
    show Q (.int ((if (decide (0 < q.num)) = true then (1 : Int) else 0) - (if (decide (q.num < 0)) = true then (1 : Int) else 0))) H
    rw [b2, b2]
    exact k
def spPair (K : PySem.W.Frag) : Sp := fun vs H Q _ => ∃ v, vs = [v] ∧ ∃ q, IsN K H v q ∧ ∀ p H', Ex H H' → H' p = some (.tup [.int q.num, .int (q.den : Int)]) → Q (.ref p) H'
theorem sc_told_pair : FnScope ["value"] ["value"] (defScope (tp 21)) := ⟨rfl, rfl, rfl, by decide +kernel, rfl, by decide +kernel, by decide +kernel⟩
theorem ok_told_pair (T : Tx K mg) : Ok P w K mg base 2 "told_pair" ["value"] (spPair K) := by
  have O_is_integer := ok_is_integer (P := P) (w := w) (base := base) T
  refine T.d_told_pair.ok sc_told_pair (fun vs H Q E h => ?_) (fun _ _ _ _ _ _ us hl => match us, hl with | [_], _ => rfl) (fun cdv A outer s H vs Q E hr h => ?_)
  · obtain ⟨_, rfl, _⟩ := h
    rfl
  · refine ⟨_, (pss_cons (ps_if (pt_val (pe_callB call_isi (by rfl) T.n_isinstance (by decide +kernel) (pa_cons (pv 0) (pa_cons (pe_glob (v := .ref (RC K)) (by rfl) T.g_Ratio rfl) pa_nil)))) (pss_one (ps_ret (pe_tup (pa_cons (pe_fld (pv 0) rfl) (pa_cons (pe_fld (pv 0) rfl) pa_nil))))) pss_nil)
      (pss_cons (ps_if (pt_not (pt_val (pe_c O_is_integer (hr.mono (by decide)) (by rfl) (pa_cons (pv 0) pa_nil)))) (pss_one ps_never) pss_nil)
      (pss_one (ps_ret (pe_tup (pa_cons (pv 0) (pa_cons pe_int pa_nil))))))), ?_⟩
    obtain ⟨v, rfl, q, hv, k⟩ := h
    rcases hv with ⟨i, rfl, rfl⟩ | ⟨a, dx, rfl, ha⟩
    · refine ⟨_, rfl, _, .ref (RC K), _, _, false, rfl, .own _, .base (.int i), T.kiR, _, rfl, iteF ?_⟩
      refine ⟨_, rfl, _, rfl, .inl ⟨i, rfl, _, rfl, iteF ?_⟩⟩
      refine ⟨_, rfl, by show 2 ≤ sizeLine; decide, fun p hp => ?_⟩
      exact k p _ (Evl.Ex.new hp) upd_same
    · refine ⟨_, rfl, _, .ref (RC K), _, _, true, rfl, .own _, ty_R T ha, T.kRR, _, rfl, iteT ?_⟩
      refine ⟨_, rfl, a, _, dx, _, _, rfl, ha, T.cl, T.nT, rf_top q, ?_⟩
      refine ⟨_, rfl, a, _, dx, _, _, rfl, ha, T.cl, T.nB, rf_bot q, ?_⟩
      refine ⟨by show 2 ≤ sizeLine; decide, fun p hp => ?_⟩
      exact k p _ (Evl.Ex.new hp) upd_same
def spR2 (K : PySem.W.Frag) (f : Rat → Rat → Rat) (C : Rat → Rat → Prop) : Sp := fun vs H Q _ => ∃ v u, vs = [v, u] ∧ ∃ p q, IsR K H v p ∧ IsN K H u q ∧ Sz p ∧ Sz q ∧ C p q ∧ ∀ z H', Ex H H' → IsR K H' z (f p q) → Q z H'
theorem sz_mul {i j : Int} (hi : i.natAbs < 2 ^ 3000) (hj : j.natAbs < 2 ^ 3000) : CMulW i j := wide_mul hi hj (by decide) (by decide) (by decide)
theorem sz_den {p q : Rat} (hp : Sz p) (hq : Sz q) : ((p.den : Int) * (q.den : Int)).natAbs < 2 ^ 8000 := by
  have h := wide_lt (i := (p.den : Int)) (j := (q.den : Int)) (a := 3000) (b := 3000) (by rw [Int.natAbs_natCast]; exact hp.2) (by rw [Int.natAbs_natCast]; exact hq.2)
  exact Nat.lt_of_lt_of_le h (Nat.pow_le_pow_right (by decide) (by decide))
theorem den_nat {q : Rat} (hq : Sz q) : ((q.den : Int)).natAbs < 2 ^ 3000 := by rw [Int.natAbs_natCast]; exact hq.2
theorem sc_Ratio___add__ : FnScope ["self", "other", "top", "bottom"] ["self", "other"] (defScope (inClass (tp 20) 6)) := ⟨rfl, rfl, rfl, by decide +kernel, rfl, by decide +kernel, by decide +kernel⟩
theorem ok_Ratio___add__ (T : Tx K mg) : OkA P w K mg base 4 (He.ma K (RC K) "__add__") ["self", "other"] [] (spR2 K (fun p q => p + q) (fun _ _ => True)) := by
  have O_told_pair := ok_told_pair (P := P) (w := w) (base := base) T
  have O_init2 := ok_init2 (P := P) (w := w) (base := base) T
  refine T.d___add__.ok sc_Ratio___add__ (fun vs H Q E h => ?_) (fun _ _ _ _ _ _ us hl => match us, hl with | [_, _], _ => rfl) (fun cdv A outer s H vs Q E hr h => ?_)
  · obtain ⟨_, _, rfl, _⟩ := h
    rfl
  · refine ⟨_, (pss_cons (ps_asg (pe_c O_told_pair (hr.mono (by decide)) (by rfl) (pa_cons (pv 1) pa_nil)) (pg_tup rfl (pgs_cons (pg_name (i := 2) sc_Ratio___add__.nd rfl (.inl rfl)) (pgs_cons (pg_name (i := 3) sc_Ratio___add__.nd rfl (.inl rfl)) pgs_nil))))
      (pss_one (ps_ret (pe_mkRK (K := K) rfl T O_init2 (hr.mono (by decide)) (by rfl) (pa_cons (pe_op op_add (pe_op op_mulW (pe_fld (pv 0) rfl) (pv 3)) (pe_op op_mulW (pv 2) (pe_fld (pv 0) rfl))) (pa_cons (pe_op op_mulW (pe_fld (pv 0) rfl) (pv 3)) pa_nil)))))), ?_⟩
    obtain ⟨v, u, rfl, p, q, hv, hu, zp, zq, _, k⟩ := h
    refine ⟨_, rfl, _, rfl, q, hu, fun t H1 e1 ht => ?_⟩
    obtain ⟨a, dx, rfl, ha⟩ := hv.mono e1
    refine ⟨t, _, rfl, SqT.of ht, rfl, _, _, rfl, _, _, rfl, rfl, ?_⟩
    refine ⟨_, rfl, a, _, dx, _, _, rfl, ha, T.cl, T.nT, rf_top p, _, rfl, _, _, rfl, rfl, sz_mul zp.1 (den_nat zq), ?_⟩
    refine ⟨_, rfl, _, rfl, a, _, dx, _, _, rfl, ha, T.cl, T.nB, rf_bot p, _, _, rfl, rfl, sz_mul zq.1 (den_nat zp), _, _, rfl, rfl, ?_⟩
    refine ⟨_, rfl, a, _, dx, _, _, rfl, ha, T.cl, T.nB, rf_bot p, _, rfl, _, _, rfl, rfl, sz_mul (den_nat zp) (den_nat zq), ?_⟩
    refine make_R (Int.mul_pos (den_pos' p) (den_pos' q)) (sz_den zp zq) fun z H2 e2 hz => k z H2 (e1.trans e2) ?_
    show IsR K H2 z (p + q)
    rw [add_div]
    exact hz
theorem sc_Ratio___mul__ : FnScope ["self", "other", "top", "bottom"] ["self", "other"] (defScope (inClass (tp 20) 10)) := ⟨rfl, rfl, rfl, by decide +kernel, rfl, by decide +kernel, by decide +kernel⟩
theorem ok_Ratio___mul__ (T : Tx K mg) : OkA P w K mg base 4 (He.ma K (RC K) "__mul__") ["self", "other"] [] (spR2 K (fun p q => p * q) (fun _ _ => True)) := by
  have O_told_pair := ok_told_pair (P := P) (w := w) (base := base) T
  have O_init2 := ok_init2 (P := P) (w := w) (base := base) T
  refine T.d___mul__.ok sc_Ratio___mul__ (fun vs H Q E h => ?_) (fun _ _ _ _ _ _ us hl => match us, hl with | [_, _], _ => rfl) (fun cdv A outer s H vs Q E hr h => ?_)
  · obtain ⟨_, _, rfl, _⟩ := h
    rfl
  · refine ⟨_, (pss_cons (ps_asg (pe_c O_told_pair (hr.mono (by decide)) (by rfl) (pa_cons (pv 1) pa_nil)) (pg_tup rfl (pgs_cons (pg_name (i := 2) sc_Ratio___mul__.nd rfl (.inl rfl)) (pgs_cons (pg_name (i := 3) sc_Ratio___mul__.nd rfl (.inl rfl)) pgs_nil))))
      (pss_one (ps_ret (pe_mkRK (K := K) rfl T O_init2 (hr.mono (by decide)) (by rfl) (pa_cons (pe_op op_mulW (pe_fld (pv 0) rfl) (pv 2)) (pa_cons (pe_op op_mulW (pe_fld (pv 0) rfl) (pv 3)) pa_nil)))))), ?_⟩
    obtain ⟨v, u, rfl, p, q, hv, hu, zp, zq, _, k⟩ := h
    refine ⟨_, rfl, _, rfl, q, hu, fun t H1 e1 ht => ?_⟩
    obtain ⟨a, dx, rfl, ha⟩ := hv.mono e1
    refine ⟨t, _, rfl, SqT.of ht, rfl, _, _, rfl, _, _, rfl, rfl, ?_⟩
    refine ⟨_, rfl, a, _, dx, _, _, rfl, ha, T.cl, T.nT, rf_top p, _, rfl, _, _, rfl, rfl, sz_mul zp.1 zq.1, ?_⟩
    refine ⟨_, rfl, a, _, dx, _, _, rfl, ha, T.cl, T.nB, rf_bot p, _, rfl, _, _, rfl, rfl, sz_mul (den_nat zp) (den_nat zq), ?_⟩
    refine make_R (Int.mul_pos (den_pos' p) (den_pos' q)) (sz_den zp zq) fun z H2 e2 hz => k z H2 (e1.trans e2) ?_
    show IsR K H2 z (p * q)
    rw [mul_div']
    exact hz
theorem sc_Ratio_over : FnScope ["self", "other", "top", "bottom"] ["self", "other"] (defScope (inClass (tp 20) 13)) := ⟨rfl, rfl, rfl, by decide +kernel, rfl, by decide +kernel, by decide +kernel⟩
theorem ok_Ratio_over (T : Tx K mg) : OkA P w K mg base 4 (He.ma K (RC K) "over") ["self", "other"] [] (spR2 K (fun p q => p / q) (fun _ q => 0 < q.num)) := by
  have O_told_pair := ok_told_pair (P := P) (w := w) (base := base) T
  have O_init2 := ok_init2 (P := P) (w := w) (base := base) T
  refine T.d_over.ok sc_Ratio_over (fun vs H Q E h => ?_) (fun _ _ _ _ _ _ us hl => match us, hl with | [_, _], _ => rfl) (fun cdv A outer s H vs Q E hr h => ?_)
  · obtain ⟨_, _, rfl, _⟩ := h
    rfl
  · refine ⟨_, (pss_cons (ps_asg (pe_c O_told_pair (hr.mono (by decide)) (by rfl) (pa_cons (pv 1) pa_nil)) (pg_tup rfl (pgs_cons (pg_name (i := 2) sc_Ratio_over.nd rfl (.inl rfl)) (pgs_cons (pg_name (i := 3) sc_Ratio_over.nd rfl (.inl rfl)) pgs_nil))))
      (pss_cons (ps_if (pt_cmpR op_eq (pv 2) pe_int (nomark _)) (pss_one ps_never) pss_nil)
      (pss_one (ps_ret (pe_mkRK (K := K) rfl T O_init2 (hr.mono (by decide)) (by rfl) (pa_cons (pe_op op_mulW (pe_fld (pv 0) rfl) (pv 3)) (pa_cons (pe_op op_mulW (pe_fld (pv 0) rfl) (pv 2)) pa_nil))))))), ?_⟩
    obtain ⟨v, u, rfl, p, q, hv, hu, zp, zq, hpos, k⟩ := h
    refine ⟨_, rfl, _, rfl, q, hu, fun t H1 e1 ht => ?_⟩
    obtain ⟨a, dx, rfl, ha⟩ := hv.mono e1
    refine ⟨t, _, rfl, SqT.of ht, rfl, _, _, rfl, _, _, rfl, rfl, ?_⟩
    refine ⟨_, rfl, rfl, _, rfl, ?_⟩
    rw [decide_eq_false (fun z : V.int q.num = V.int 0 => by injection z with z; omega)]
    refine iteF ?_
    refine ⟨_, rfl, a, _, dx, _, _, rfl, ha, T.cl, T.nT, rf_top p, _, rfl, _, _, rfl, rfl, sz_mul zp.1 (den_nat zq), ?_⟩
    refine ⟨_, rfl, a, _, dx, _, _, rfl, ha, T.cl, T.nB, rf_bot p, _, rfl, _, _, rfl, rfl, sz_mul (den_nat zp) zq.1, ?_⟩
    refine make_R (Int.mul_pos (den_pos' p) hpos) ?_ fun z H2 e2 hz => k z H2 (e1.trans e2) ?_
    · have h := wide_lt (a := 3000) (b := 3000) (den_nat zp) zq.1
      exact Nat.lt_of_lt_of_le h (Nat.pow_le_pow_right (by decide) (by decide))
    · show IsR K H2 z (p / q)
      rw [over_div p q (by omega)]
      exact hz
def spNum (K : PySem.W.Frag) : Sp := fun vs H Q _ => ∃ v, vs = [v] ∧ ∃ q, IsN K H v q ∧ Q (.bl true) H
theorem sc_is_number : FnScope ["value"] ["value"] (defScope (tp 22)) := ⟨rfl, rfl, rfl, by decide +kernel, rfl, by decide +kernel, by decide +kernel⟩
theorem ok_is_number (T : Tx K mg) : Ok P w K mg base 2 "is_number" ["value"] (spNum K) := by
  have O_is_integer := ok_is_integer (P := P) (w := w) (base := base) T
  refine T.d_is_number.ok sc_is_number (fun vs H Q E h => ?_) (fun _ _ _ _ _ _ us hl => match us, hl with | [_], _ => rfl) (fun cdv A outer s H vs Q E hr h => ?_)
  · obtain ⟨_, rfl, _⟩ := h
    rfl
  · refine ⟨_, (pss_one (ps_ret (pe_or (pe_c O_is_integer (hr.mono (by decide)) (by rfl) (pa_cons (pv 0) pa_nil)) (pe_one (pe_callB call_isi (by rfl) T.n_isinstance (by decide +kernel) (pa_cons (pv 0) (pa_cons (pe_glob (v := .ref (RC K)) (by rfl) T.g_Ratio rfl) pa_nil))))))), ?_⟩
    obtain ⟨v, rfl, q, hv, k⟩ := h
    rcases hv with ⟨i, rfl, rfl⟩ | hR
    · exact ⟨_, rfl, _, rfl, .inl ⟨i, rfl, _, rfl, iteT k⟩⟩
    · obtain ⟨a, dx, rfl, ha⟩ := id hR
      exact ⟨_, rfl, _, rfl, .inr ⟨q, hR, _, rfl, iteF ⟨_, rfl, _, .ref (RC K), _, _, true, rfl, .own _, ty_R T ha, T.kRR, k⟩⟩⟩
def spNR (K : PySem.W.Frag) : Sp := fun vs H Q _ => ∃ v, vs = [v] ∧ ∃ q, IsN K H v q ∧ ∀ z H', Ex H H' → IsR K H' z q → Q z H'
theorem sc_ratio_of : FnScope ["number"] ["number"] (defScope (tp 23)) := ⟨rfl, rfl, rfl, by decide +kernel, rfl, by decide +kernel, by decide +kernel⟩
theorem ok_ratio_of (T : Tx K mg) : Ok P w K mg base 4 "ratio_of" ["number"] (spNR K) := by
  have O_init1 := ok_init1 (P := P) (w := w) (base := base) T
  refine T.d_ratio_of.ok sc_ratio_of (fun vs H Q E h => ?_) (fun _ _ _ _ _ _ us hl => match us, hl with | [_], _ => rfl) (fun cdv A outer s H vs Q E hr h => ?_)
  · obtain ⟨_, rfl, _⟩ := h
    rfl
  · refine ⟨_, (pss_one (ps_ret (pe_ifExp (pt_val (pe_callB call_isi (by rfl) T.n_isinstance (by decide +kernel) (pa_cons (pv 0) (pa_cons (pe_glob (v := .ref (RC K)) (by rfl) T.g_Ratio rfl) pa_nil)))) (pv 0) (pe_mkRK (K := K) rfl T O_init1 (hr.mono (by decide)) (by rfl) (pa_cons (pv 0) pa_nil))))), ?_⟩
    obtain ⟨v, rfl, q, hv, k⟩ := h
    rcases hv with ⟨i, rfl, rfl⟩ | hR
    · refine ⟨_, rfl, _, .ref (RC K), _, _, false, rfl, .own _, .base (.int i), T.kiR, _, rfl, iteF ?_⟩
      refine ⟨_, rfl, ?_⟩
      refine make_R (by decide) (by decide +kernel) fun z H2 e2 hz => k z H2 e2 ?_
      rw [show ((i : Int) : Rat) = Rat.divInt i 1 from (Rat.divInt_eq_div i 1 ▸ by have : ((1 : Int) : Rat) = 1 := rfl; rw [this]; grind -verbose)]
      exact hz
    · obtain ⟨a, dx, rfl, ha⟩ := id hR
      exact ⟨_, rfl, _, .ref (RC K), _, _, true, rfl, .own _, ty_R T ha, T.kRR, _, rfl, iteT ⟨_, rfl, k _ _ (Evl.Ex.refl H) hR⟩⟩
theorem sc_want_number : FnScope ["value"] ["value"] (defScope (tp 24)) := ⟨rfl, rfl, rfl, by decide +kernel, rfl, by decide +kernel, by decide +kernel⟩
theorem ok_want_number (T : Tx K mg) : Ok P w K mg base 5 "want_number" ["value"] (spNR K) := by
  have O_ratio_of := ok_ratio_of (P := P) (w := w) (base := base) T
  have O_is_number := ok_is_number (P := P) (w := w) (base := base) T
  refine T.d_want_number.ok sc_want_number (fun vs H Q E h => ?_) (fun _ _ _ _ _ _ us hl => match us, hl with | [_], _ => rfl) (fun cdv A outer s H vs Q E hr h => ?_)
  · obtain ⟨_, rfl, _⟩ := h
    rfl
  · refine ⟨_, (pss_cons (ps_if (pt_not (pt_val (pe_c O_is_number (hr.mono (by decide)) (by rfl) (pa_cons (pv 0) pa_nil)))) (pss_one ps_never) pss_nil)
      (pss_one (ps_ret (pe_c O_ratio_of (hr.mono (by decide)) (by rfl) (pa_cons (pv 0) pa_nil))))), ?_⟩
    obtain ⟨v, rfl, q, hv, k⟩ := h
    refine ⟨_, rfl, _, rfl, q, hv, _, rfl, iteF ?_⟩
    exact ⟨_, rfl, _, rfl, q, hv, k⟩
end
section
variable {X : Cx} {k : Nat}
theorem op_addR (T : Tx X.K X.mg) (O : OkA X.prog X.w X.K X.mg X.base k (He.ma X.K (RC X.K) "__add__") ["self", "other"] [] (spR2 X.K (fun p q => p + q) (fun _ _ => True))) (hr : Room k X.A) :
    OpR X (binaryOp .Add) (rRR (RC X.K) (spR2 X.K (fun p q => p + q) (fun _ _ => True))) := op_RR O hr T.f__add__ T.i__add__ T.sf
theorem op_mulR (T : Tx X.K X.mg) (O : OkA X.prog X.w X.K X.mg X.base k (He.ma X.K (RC X.K) "__mul__") ["self", "other"] [] (spR2 X.K (fun p q => p * q) (fun _ _ => True))) (hr : Room k X.A) :
    OpR X (binaryOp .Mult) (rRR (RC X.K) (spR2 X.K (fun p q => p * q) (fun _ _ => True))) := op_RR O hr T.f__mul__ T.i__mul__ T.sf
theorem op_mulI (T : Tx X.K X.mg) (O : OkA X.prog X.w X.K X.mg X.base k (He.ma X.K (RC X.K) "__mul__") ["self", "other"] [] (spR2 X.K (fun p q => p * q) (fun _ _ => True))) (hr : Room k X.A) :
    OpR X (binaryOp .Mult) (rRI (RC X.K) (spR2 X.K (fun p q => p * q) (fun _ _ => True))) := by
  obtain ⟨fo, h1⟩ := T.im1
  obtain ⟨ro, h2⟩ := T.im2
  exact op_RI O hr T.f__mul__ T.i__mul__ T.sf T.rm (.inr ⟨_, rfl⟩) h1 h2 T.isb
/-- the same where a block's own names stand in the way -/
theorem op_addK {K : PySem.W.Frag} (hK : X.K = K) (T : Tx K X.mg) (O : OkA X.prog X.w K X.mg X.base k (He.ma K (RC K) "__add__") ["self", "other"] [] (spR2 K (fun p q => p + q) (fun _ _ => True))) (hr : Room k X.A) :
    OpR X (binaryOp .Add) (rRR (RC K) (spR2 K (fun p q => p + q) (fun _ _ => True))) := by
  subst hK
  exact op_addR T O hr
theorem op_mulK {K : PySem.W.Frag} (hK : X.K = K) (T : Tx K X.mg) (O : OkA X.prog X.w K X.mg X.base k (He.ma K (RC K) "__mul__") ["self", "other"] [] (spR2 K (fun p q => p * q) (fun _ _ => True))) (hr : Room k X.A) :
    OpR X (binaryOp .Mult) (rRR (RC K) (spR2 K (fun p q => p * q) (fun _ _ => True))) := by
  subst hK
  exact op_mulR T O hr
theorem op_mulIK {K : PySem.W.Frag} (hK : X.K = K) (T : Tx K X.mg) (O : OkA X.prog X.w K X.mg X.base k (He.ma K (RC K) "__mul__") ["self", "other"] [] (spR2 K (fun p q => p * q) (fun _ _ => True))) (hr : Room k X.A) :
    OpR X (binaryOp .Mult) (rRI (RC K) (spR2 K (fun p q => p * q) (fun _ _ => True))) := by
  subst hK
  exact op_mulI T O hr
theorem sl_listK {K : PySem.W.Frag} (hK : X.K = K) : SlR X (rSlL K) := by
  subst hK
  exact sl_list
theorem call_lenK {K : PySem.W.Frag} (hK : X.K = K) : CallR X (.builtin "len") (fun xs H Q => ∃ p ys, xs = [V.ref p] ∧ (SqL K H p ys ∨ SqT K H p ys) ∧ Q (V.int (ys.length : Int)) H) := by
  subst hK
  exact call_len_seq
theorem ix_listK {K : PySem.W.Frag} (hK : X.K = K) : IxR X (rIxL K) := by
  subst hK
  exact ix_list
/-- the two readings, from what is known of the operands -/
theorem rd_RR {K : PySem.W.Frag} {f : Rat → Rat → Rat} {H : Hp} {x y : V} {p q : Rat} {Q : VK} (hx : IsR K H x p) (hy : IsR K H y q) (zp : Sz p) (zq : Sz q) (h : ∀ z H', Ex H H' → IsR K H' z (f p q) → Q z H') :
    rRR (RC K) (spR2 K f (fun _ _ => True)) x y H Q := by
  obtain ⟨a, dx, rfl, ha⟩ := id hx
  obtain ⟨b, dy, rfl, hb⟩ := id hy
  exact ⟨a, dx, _, b, dy, _, rfl, rfl, ha, hb, _, _, rfl, p, q, hx, .inr hy, zp, zq, True.intro, h⟩
theorem rd_RI {K : PySem.W.Frag} {f : Rat → Rat → Rat} {H : Hp} {x : V} {j : Int} {p : Rat} {Q : VK} (hx : IsR K H x p) (zp : Sz p) (zq : Sz (j : Rat)) (h : ∀ z H', Ex H H' → IsR K H' z (f p (j : Rat)) → Q z H') :
    rRI (RC K) (spR2 K f (fun _ _ => True)) x (.int j) H Q := by
  obtain ⟨a, dx, rfl, ha⟩ := id hx
  exact ⟨a, dx, _, j, rfl, rfl, ha, _, _, rfl, p, (j : Rat), hx, .inl ⟨j, rfl, rfl⟩, zp, zq, True.intro, h⟩
end
end K66

set_option Elab.async false
set_option linter.all false
set_option maxRecDepth 100000
set_option maxHeartbeats 2000000
namespace K66
open PySem PySem.Spec PyProof.Rows L2
open Evl (Ex)
section
variable {α β : Type} {F G : α → β → Prop}
theorem p2_left : ∀ {l : List α} {m : List β} {i : Nat} {a : α}, Paired F l m → l[i]? = some a → ∃ b, m[i]? = some b ∧ F a b
  | _, _, _, _, .nil, e => by simp at e
  | _, _, 0, _, .cons r _, e => by simp at e; subst e; exact ⟨_, rfl, r⟩
  | _, _, i + 1, a, .cons _ t, e => by
    obtain ⟨b, h1, h2⟩ := p2_left (i := i) (a := a) t (by simpa using e)
    exact ⟨b, by simpa using h1, h2⟩
theorem p2_right : ∀ {l : List α} {m : List β} {i : Nat} {b : β}, Paired F l m → m[i]? = some b → ∃ a, l[i]? = some a ∧ F a b
  | _, _, _, _, .nil, e => by simp at e
  | _, _, 0, _, .cons r _, e => by simp at e; subst e; exact ⟨_, rfl, r⟩
  | _, _, i + 1, b, .cons _ t, e => by
    obtain ⟨a, h1, h2⟩ := p2_right (i := i) (b := b) t (by simpa using e)
    exact ⟨a, by simpa using h1, h2⟩
theorem p2_take : ∀ {l : List α} {m : List β} (n : Nat), Paired F l m → Paired F (l.take n) (m.take n)
  | _, _, 0, _ => .nil
  | _, _, _ + 1, .nil => .nil
  | _, _, n + 1, .cons r t => .cons r (p2_take n t)
theorem p2_drop : ∀ {l : List α} {m : List β} (n : Nat), Paired F l m → Paired F (l.drop n) (m.drop n)
  | _, _, 0, r => r
  | _, _, _ + 1, .nil => .nil
  | _, _, n + 1, .cons _ t => p2_drop n t
theorem p2_set {a : α} {b : β} (r : F a b) : ∀ {l : List α} {m : List β} (i : Nat), Paired F l m → Paired F (l.set i a) (m.set i b)
  | _, _, _, .nil => .nil
  | _, _, 0, .cons _ t => .cons r t
  | _, _, i + 1, .cons q t => .cons q (p2_set r i t)
theorem p2_mono (h : ∀ a b, F a b → G a b) : ∀ {l : List α} {m : List β}, Paired F l m → Paired G l m
  | _, _, .nil => .nil
  | _, _, .cons r t => .cons (h _ _ r) (p2_mono h t)
theorem p2_map {γ : Type} {f : γ → β} {E : α → γ → Prop} (h : ∀ a c, E a c → F a (f c)) : ∀ {l : List α} {m : List γ}, Paired E l m → Paired F l (m.map f)
  | _, _, .nil => .nil
  | _, _, .cons r t => .cons (h _ _ r) (p2_map h t)
theorem p2_ints {G : V → Int → Prop} (h : ∀ v i, v = .int i → G v i) : ∀ (ns : List Int), Paired G (ns.map V.int) ns
  | [] => .nil
  | n :: ns => .cons (h _ _ rfl) (p2_ints h ns)
theorem p2_app : ∀ {l l' : List α} {m m' : List β}, Paired F l m → Paired F l' m' → Paired F (l ++ l') (m ++ m')
  | _, _, _, _, .nil, s => s
  | _, _, _, _, .cons r t, s => .cons r (p2_app t s)
end
theorem ints_eq : ∀ {l : List V} {m : List Int}, Paired (fun v i => v = V.int i) l m → l = m.map V.int
  | _, _, .nil => rfl
  | _, _, .cons r t => by rw [List.map_cons, ← ints_eq t, r]
/-- what a list holds, item by item -/
def Ls {β : Type} (R : Hp → V → β → Prop) (H : Hp) (v : V) (bs : List β) : Prop := ∃ a vs, v = .ref a ∧ H a = some (.lst vs) ∧ Paired (R H) vs bs
theorem Ls.mono {β : Type} {R : Hp → V → β → Prop} (m : ∀ {H H' v b}, Ex H H' → R H v b → R H' v b) {H H' : Hp} {v : V} {bs : List β} (h : Ls R H v bs) (e : Ex H H') : Ls R H' v bs := by
  obtain ⟨a, vs, h1, h2, h3⟩ := h
  exact ⟨a, vs, h1, e _ _ h2, p2_mono (fun _ _ r => m e r) h3⟩
def LsR (K : PySem.W.Frag) : Hp → V → List Rat → Prop := Ls (IsR K)
theorem LsR.mono {K : PySem.W.Frag} {H H' : Hp} {v : V} {bs : List Rat} (h : LsR K H v bs) (e : Ex H H') : LsR K H' v bs := Ls.mono (fun e r => r.mono e) h e
def IsI' (_ : Hp) (v : V) (i : Int) : Prop := v = .int i
/-- a list of ints -/
def LsI : Hp → V → List Int → Prop := fun H v ns => ∃ a, v = .ref a ∧ H a = some (.lst (ns.map V.int))
theorem LsI.mono {H H' : Hp} {v : V} {bs : List Int} (h : LsI H v bs) (e : Ex H H') : LsI H' v bs := by
  obtain ⟨a, h1, h2⟩ := h
  exact ⟨a, h1, e _ _ h2⟩
/-- a list or a tuple of numbers -/
def SqN (K : PySem.W.Frag) (H : Hp) (v : V) (qs : List Rat) : Prop := ∃ a vs, v = .ref a ∧ (H a = some (.lst vs) ∨ H a = some (.tup vs)) ∧ Paired (IsN K H) vs qs
theorem SqN.mono {K : PySem.W.Frag} {H H' : Hp} {v : V} {bs : List Rat} (h : SqN K H v bs) (e : Ex H H') : SqN K H' v bs := by
  obtain ⟨a, vs, h1, h2, h3⟩ := h
  exact ⟨a, vs, h1, h2.elim (fun h => .inl (e _ _ h)) (fun h => .inr (e _ _ h)), p2_mono (fun _ _ r => r.mono e) h3⟩
theorem LsR.sqN {K : PySem.W.Frag} {H : Hp} {v : V} {qs : List Rat} (h : LsR K H v qs) : SqN K H v qs := by
  obtain ⟨a, vs, h1, h2, h3⟩ := h
  exact ⟨a, vs, h1, .inl h2, p2_mono (fun _ _ r => .inr r) h3⟩
theorem cut_take (xs : List V) (n : Nat) : cutV xs none (some (n : Int)) = xs.take n := by
  unfold cutV
  rw [HT.sIx_none, HT.sIx_nat, List.drop_zero, Nat.sub_zero]
  by_cases h : n ≤ xs.length
  · rw [Nat.min_eq_left h]
  · rw [Nat.min_eq_right (by omega), List.take_length, List.take_of_length_le (by omega)]
theorem cut_sl (xs : List V) {i j : Nat} (hij : i ≤ j) (hj : j ≤ xs.length) : cutV xs (some (i : Int)) (some (j : Int)) = (xs.drop i).take (j - i) := by
  unfold cutV
  rw [HT.sIx_nat, HT.sIx_nat, Nat.min_eq_left (show i ≤ xs.length by omega), Nat.min_eq_left hj]
/-- a reading of values that new objects and changes of another object leave -/
structure Rep {β : Type} (R : Hp → V → β → Prop) : Prop where
  off : ∀ {H H' : Hp} {D : Addr} {v : V} {b : β}, v ≠ .ref D → (∀ a o, a ≠ D → H a = some o → H' a = some o) → R H v b → R H' v b
  mono : ∀ {H H' : Hp} {v : V} {b : β}, Ex H H' → R H v b → R H' v b
def IsB (_ : Hp) (v : V) (b : Bool) : Prop := v = .bl b
/-- a fraction of the law: a pair of ints -/
def IsT (H : Hp) (v : V) (q : Rat) : Prop := ∃ a, v = .ref a ∧ H a = some (.tup [.int q.num, .int (q.den : Int)])
theorem IsT.mono {H H' : Hp} {v : V} {q : Rat} (h : IsT H v q) (e : Ex H H') : IsT H' v q := by
  obtain ⟨a, h1, h2⟩ := h
  exact ⟨a, h1, e _ _ h2⟩
theorem rep_R {K : PySem.W.Frag} : Rep (IsR K) := ⟨fun {H H' D v b} hv h r => by
  obtain ⟨a, dx, h1, h2⟩ := r
  exact ⟨a, dx, h1, h a _ (fun e => hv (by rw [h1, e])) h2⟩, fun e r => r.mono e⟩
theorem rep_T : Rep IsT := ⟨fun {H H' D v b} hv h r => by
  obtain ⟨a, h1, h2⟩ := r
  exact ⟨a, h1, h a _ (fun e => hv (by rw [h1, e])) h2⟩, fun e r => r.mono e⟩
theorem rep_N {K : PySem.W.Frag} : Rep (IsN K) := ⟨fun {H H' D v b} hv h r => r.elim .inl fun r => .inr (rep_R.off hv h r), fun e r => r.mono e⟩
theorem rep_I : Rep IsI' := ⟨fun _ _ r => r, fun _ r => r⟩
theorem rep_B : Rep IsB := ⟨fun _ _ r => r, fun _ r => r⟩
theorem rep_L : Rep LsI := ⟨fun {H H' D v b} hv h r => by
  obtain ⟨a, h1, h2⟩ := r
  exact ⟨a, h1, h a _ (fun e => hv (by rw [h1, e])) h2⟩, fun e r => r.mono e⟩
theorem sep_R {K : PySem.W.Frag} {H : Hp} {v : V} {q : Rat} {D : Addr} {zs : List V} (r : IsR K H v q) (h : H D = some (.lst zs)) : v ≠ .ref D := by
  obtain ⟨a, dx, rfl, h2⟩ := r
  intro e
  injection e with e
  subst e
  rw [h] at h2
  cases h2
theorem sep_T {H : Hp} {v : V} {q : Rat} {D : Addr} {zs : List V} (r : IsT H v q) (h : H D = some (.lst zs)) : v ≠ .ref D := by
  obtain ⟨a, rfl, h2⟩ := r
  intro e
  injection e with e
  subst e
  rw [h] at h2
  cases h2
theorem sep_N {K : PySem.W.Frag} {H : Hp} {v : V} {q : Rat} {D : Addr} {zs : List V} (r : IsN K H v q) (h : H D = some (.lst zs)) : v ≠ .ref D := by
  rcases r with ⟨i, rfl, _⟩ | r
  · intro e; cases e
  · exact sep_R r h
/-- the items made so far, behind one more -/
theorem rep_snoc {β : Type} {R : Hp → V → β → Prop} (rp : Rep R) {H H' : Hp} {D : Addr} {zs : List V} {bs : List β} {v : V} {b : β} (hp : Paired (fun v b => v ≠ .ref D ∧ R H v b) zs bs) (e : Ex H H') (r : R H' v b) (hv : v ≠ .ref D) (o : HO) :
    Paired (fun v b => v ≠ .ref D ∧ R (upd H' D o) v b) (zs ++ [v]) (bs ++ [b]) := by
  have up : ∀ a o', a ≠ D → H' a = some o' → upd H' D o a = some o' := fun a o' ne h => by rw [upd_ne ne]; exact h
  exact Paired.snoc (p2_mono (fun _ _ r => ⟨r.1, rp.off r.1 up (rp.mono e r.2)⟩) hp) ⟨hv, rp.off hv up r⟩
theorem rep_same {β : Type} {R : Hp → V → β → Prop} (rp : Rep R) {H H' : Hp} {D : Addr} {zs : List V} {bs : List β} (hp : Paired (fun v b => v ≠ .ref D ∧ R H v b) zs bs) (e : Ex H H') : Paired (fun v b => v ≠ .ref D ∧ R H' v b) zs bs :=
  p2_mono (fun _ _ r => ⟨r.1, rp.mono e r.2⟩) hp
theorem yes_go {te : TE} {σ : L2.St} {H : Hp} {F : V → Hp → Prop} {G : Hp → Prop} (h : te σ H F) : tYes σ H fun b H3 => if b = true then te σ H3 F else G H3 := by
  show if true = true then te σ H F else G H
  rw [if_pos rfl]
  exact h
/-- the body of a comprehension over a list -/
theorem lc_map {β : Type} {K : PySem.W.Frag} {a : Addr} {xs : List V} {j : Nat} {te : TE} {vs : List Nat} {σ : L2.St} {H1 : Hp} {Q : VK} (ys : List β) {R : Hp → V → β → Prop} (rp : Rep R)
    (hs : SqL K H1 a xs) (hlen : xs.length = ys.length) (hz : xs.length ≤ 10000) (hw : ∀ x, wipe ((wipe σ vs).set j (some x)) vs = wipe σ vs)
    (step : ∀ (i : Nat) x b H D zs, xs[i]? = some x → ys[i]? = some b → Ex H1 H → H D = some (.lst zs) → ∀ Q' : VK, (∀ v H', Ex H H' → R H' v b → v ≠ .ref D → Q' v H') → te ((wipe σ vs).set j (some x)) H Q')
    (done : ∀ D H' zs, H1 D = none → Ex H1 H' → H' D = some (.lst zs) → Paired (R H') zs ys → Q (.ref D) H') : ∀ D, H1 D = none → ∃ W : Nat → Nat → Hp → Prop, (∃ m, W 0 m (upd H1 D (.lst []))) ∧ ∀ i m H, W i m H →
      ((Itl K a).stop i H ∧ Q (.ref D) H) ∨ ((Itl K a).go i H ∧ ∃ Nx : Hp → Prop, (∀ H', Nx H' → ∃ m', m' < m ∧ W (i + 1) m' H') ∧ ∀ x H', (Itl K a).yld i H x H' → gName j x (wipe σ vs) H' fun σ2 H2 => wipe σ2 vs = wipe σ vs ∧ tYes σ2 H2 fun b H3 =>
        if b = true then te σ2 H3 fun y H4 => ∃ acc, H4 D = some (.lst acc) ∧ acc.length < sizeLine ∧ Nx (upd H4 D (.lst (acc ++ [y]))) else Nx H3) := by
  intro D hD
  refine lc_list (xs := xs) (fun i H => Ex H1 H ∧ ∃ zs, H D = some (.lst zs) ∧ Paired (fun v b => v ≠ .ref D ∧ R H v b) zs (ys.take i)) ⟨Evl.Ex.new hD, [], upd_same, .nil⟩ (fun i H _ p => Evl.ex_l p.1 hs) ?_ ?_
  · rintro i x H hx ⟨e, zs, hz', hp⟩
    have hi : i < xs.length := (List.getElem?_eq_some_iff.mp hx).1
    obtain ⟨b, hb⟩ : ∃ b, ys[i]? = some b := ⟨ys[i]'(by omega), List.getElem?_eq_getElem (by omega)⟩
    refine ⟨hw x, yes_go ?_⟩
    refine step i x b H D zs hx hb e hz' _ fun v H' e' r hv => ?_
    have hl : zs.length = i := by
      rw [hp.length, List.length_take]; omega
    refine ⟨zs, e' _ _ hz', Nat.lt_of_lt_of_le (by omega : zs.length < 10001) (by decide), Evl.Ex.mut (e.trans e') hD, zs ++ [v], upd_same, ?_⟩
    rw [List.take_succ, hb]
    exact rep_snoc rp hp e' r hv _
  · rintro H ⟨e, zs, hz', hp⟩
    rw [List.take_of_length_le (by omega)] at hp
    exact done D H zs hD e hz' (p2_mono (fun _ _ r => r.2) hp)
/-- over a range -/
theorem lc_rmap {β : Type} {j : Nat} {te : TE} {vs : List Nat} {σ : L2.St} {H1 : Hp} {Q : VK} {lo : Int} {n : Nat} (ys : List β) {R : Hp → V → β → Prop} (rp : Rep R) (hlen : n = ys.length) (hz : n ≤ 10000) (hw : ∀ x, wipe ((wipe σ vs).set j (some x)) vs = wipe σ vs)
    (step : ∀ (i : Nat) b H D zs, i < n → ys[i]? = some b → Ex H1 H → H D = some (.lst zs) → ∀ Q' : VK, (∀ v H', Ex H H' → R H' v b → v ≠ .ref D → Q' v H') → te ((wipe σ vs).set j (some (.int (lo + (i : Int))))) H Q')
    (done : ∀ D H' zs, H1 D = none → Ex H1 H' → H' D = some (.lst zs) → Paired (R H') zs ys → Q (.ref D) H') : ∀ D, H1 D = none → ∃ W : Nat → Nat → Hp → Prop, (∃ m, W 0 m (upd H1 D (.lst []))) ∧ ∀ i m H, W i m H →
      ((Itr lo n).stop i H ∧ Q (.ref D) H) ∨ ((Itr lo n).go i H ∧ ∃ Nx : Hp → Prop, (∀ H', Nx H' → ∃ m', m' < m ∧ W (i + 1) m' H') ∧ ∀ x H', (Itr lo n).yld i H x H' → gName j x (wipe σ vs) H' fun σ2 H2 => wipe σ2 vs = wipe σ vs ∧ tYes σ2 H2 fun b H3 =>
        if b = true then te σ2 H3 fun y H4 => ∃ acc, H4 D = some (.lst acc) ∧ acc.length < sizeLine ∧ Nx (upd H4 D (.lst (acc ++ [y]))) else Nx H3) := by
  intro D hD
  refine lc_range (lo := lo) (n := n) (fun i H => Ex H1 H ∧ ∃ zs, H D = some (.lst zs) ∧ Paired (fun v b => v ≠ .ref D ∧ R H v b) zs (ys.take i)) ⟨Evl.Ex.new hD, [], upd_same, .nil⟩ ?_ ?_
  · rintro i H hi ⟨e, zs, hz', hp⟩
    obtain ⟨b, hb⟩ : ∃ b, ys[i]? = some b := ⟨ys[i]'(by omega), List.getElem?_eq_getElem (by omega)⟩
    refine ⟨hw _, yes_go ?_⟩
    refine step i b H D zs hi hb e hz' _ fun v H' e' r hv => ?_
    have hl : zs.length = i := by
      rw [hp.length, List.length_take]; omega
    refine ⟨zs, e' _ _ hz', Nat.lt_of_lt_of_le (by omega : zs.length < 10001) (by decide), Evl.Ex.mut (e.trans e') hD, zs ++ [v], upd_same, ?_⟩
    rw [List.take_succ, hb]
    exact rep_snoc rp hp e' r hv _
  · rintro H ⟨e, zs, hz', hp⟩
    rw [List.take_of_length_le (by omega)] at hp
    exact done D H zs hD e hz' (p2_mono (fun _ _ r => r.2) hp)
/-- over a tuple -/
theorem lc_tmap {β : Type} {K : PySem.W.Frag} {a : Addr} {xs : List V} {j : Nat} {te : TE} {vs : List Nat} {σ : L2.St} {H1 : Hp} {Q : VK} (ys : List β) {R : Hp → V → β → Prop} (rp : Rep R)
    (hs : SqT K H1 a xs) (hlen : xs.length = ys.length) (hz : xs.length ≤ 10000) (hw : ∀ x, wipe ((wipe σ vs).set j (some x)) vs = wipe σ vs)
    (step : ∀ (i : Nat) x b H D zs, xs[i]? = some x → ys[i]? = some b → Ex H1 H → H D = some (.lst zs) → ∀ Q' : VK, (∀ v H', Ex H H' → R H' v b → v ≠ .ref D → Q' v H') → te ((wipe σ vs).set j (some x)) H Q')
    (done : ∀ D H' zs, H1 D = none → Ex H1 H' → H' D = some (.lst zs) → Paired (R H') zs ys → Q (.ref D) H') : ∀ D, H1 D = none → ∃ W : Nat → Nat → Hp → Prop, (∃ m, W 0 m (upd H1 D (.lst []))) ∧ ∀ i m H, W i m H →
      ((Itt K a).stop i H ∧ Q (.ref D) H) ∨ ((Itt K a).go i H ∧ ∃ Nx : Hp → Prop, (∀ H', Nx H' → ∃ m', m' < m ∧ W (i + 1) m' H') ∧ ∀ x H', (Itt K a).yld i H x H' → gName j x (wipe σ vs) H' fun σ2 H2 => wipe σ2 vs = wipe σ vs ∧ tYes σ2 H2 fun b H3 =>
        if b = true then te σ2 H3 fun y H4 => ∃ acc, H4 D = some (.lst acc) ∧ acc.length < sizeLine ∧ Nx (upd H4 D (.lst (acc ++ [y]))) else Nx H3) := by
  intro D hD
  refine lc_tup (xs := xs) (fun i H => Ex H1 H ∧ ∃ zs, H D = some (.lst zs) ∧ Paired (fun v b => v ≠ .ref D ∧ R H v b) zs (ys.take i)) ⟨Evl.Ex.new hD, [], upd_same, .nil⟩ (fun i H _ p => Evl.ex_t p.1 hs) ?_ ?_
  · rintro i x H hx ⟨e, zs, hz', hp⟩
    have hi : i < xs.length := (List.getElem?_eq_some_iff.mp hx).1
    obtain ⟨b, hb⟩ : ∃ b, ys[i]? = some b := ⟨ys[i]'(by omega), List.getElem?_eq_getElem (by omega)⟩
    refine ⟨hw x, yes_go ?_⟩
    refine step i x b H D zs hx hb e hz' _ fun v H' e' r hv => ?_
    have hl : zs.length = i := by
      rw [hp.length, List.length_take]; omega
    refine ⟨zs, e' _ _ hz', Nat.lt_of_lt_of_le (by omega : zs.length < 10001) (by decide), Evl.Ex.mut (e.trans e') hD, zs ++ [v], upd_same, ?_⟩
    rw [List.take_succ, hb]
    exact rep_snoc rp hp e' r hv _
  · rintro H ⟨e, zs, hz', hp⟩
    rw [List.take_of_length_le (by omega)] at hp
    exact done D H zs hD e hz' (p2_mono (fun _ _ r => r.2) hp)
end K66

set_option Elab.async false
set_option linter.all false
set_option maxRecDepth 100000
set_option maxHeartbeats 2000000
namespace K66
open PySem PySem.Spec PyProof.Rows L2
open Evl (Ex)
section
variable {β : Type} {K : PySem.W.Frag} {a : Addr} {xs : List V} {j : Nat} {te : TE} {vs : List Nat} {σ : L2.St} {H1 : Hp} {Q : VK}
theorem LcL {tl : TE} (ys : List β) {R : Hp → V → β → Prop} (rp : Rep R) (hl : ∀ F : VK, F (.ref a) H1 → tl σ H1 F)
    (hs : SqL K H1 a xs) (hlen : xs.length = ys.length) (hz : xs.length ≤ 10000) (hw : ∀ x, wipe ((wipe σ vs).set j (some x)) vs = wipe σ vs)
    (step : ∀ (i : Nat) x b H D zs, xs[i]? = some x → ys[i]? = some b → Ex H1 H → H D = some (.lst zs) → ∀ Q' : VK, (∀ v H', Ex H H' → R H' v b → v ≠ .ref D → Q' v H') → te ((wipe σ vs).set j (some x)) H Q')
    (done : ∀ D H' zs, H1 D = none → Ex H1 H' → H' D = some (.lst zs) → Paired (R H') zs ys → Q (.ref D) H') : tLc (iList K tl) (gName j) tYes te vs σ H1 Q :=
  hl _ ⟨a, rfl, ⟨xs, hs⟩, lc_map ys rp hs hlen hz hw step done⟩
theorem LcT {tl : TE} (ys : List β) {R : Hp → V → β → Prop} (rp : Rep R) (hl : ∀ F : VK, F (.ref a) H1 → tl σ H1 F)
    (hs : SqT K H1 a xs) (hlen : xs.length = ys.length) (hz : xs.length ≤ 10000) (hw : ∀ x, wipe ((wipe σ vs).set j (some x)) vs = wipe σ vs)
    (step : ∀ (i : Nat) x b H D zs, xs[i]? = some x → ys[i]? = some b → Ex H1 H → H D = some (.lst zs) → ∀ Q' : VK, (∀ v H', Ex H H' → R H' v b → v ≠ .ref D → Q' v H') → te ((wipe σ vs).set j (some x)) H Q')
    (done : ∀ D H' zs, H1 D = none → Ex H1 H' → H' D = some (.lst zs) → Paired (R H') zs ys → Q (.ref D) H') : tLc (iTup K tl) (gName j) tYes te vs σ H1 Q :=
  hl _ ⟨a, rfl, ⟨xs, hs⟩, lc_tmap ys rp hs hlen hz hw step done⟩
theorem LcR1 {ta : TA} (n : Nat) (ys : List β) {R : Hp → V → β → Prop} (rp : Rep R) (hl : ∀ F : List V → Hp → Prop, F [.int (n : Int)] H1 → ta σ H1 F)
    (hlen : n = ys.length) (hz : n ≤ 10000) (hw : ∀ x, wipe ((wipe σ vs).set j (some x)) vs = wipe σ vs)
    (step : ∀ (i : Nat) b H D zs, i < n → ys[i]? = some b → Ex H1 H → H D = some (.lst zs) → ∀ Q' : VK, (∀ v H', Ex H H' → R H' v b → v ≠ .ref D → Q' v H') → te ((wipe σ vs).set j (some (.int (i : Int)))) H Q')
    (done : ∀ D H' zs, H1 D = none → Ex H1 H' → H' D = some (.lst zs) → Paired (R H') zs ys → Q (.ref D) H') : tLc (iRng1 ta) (gName j) tYes te vs σ H1 Q :=
  hl _ ⟨(n : Int), rfl, by omega, by omega, by
    rw [Int.toNat_natCast]
    refine lc_rmap ys rp hlen hz hw (fun i b H D zs hi hb e hD Q' q' => ?_) done
    rw [Int.zero_add]
    exact step i b H D zs hi hb e hD Q' q'⟩
/-- range(lo, lo + n), or none where the end lies below -/
theorem LcR2 {ta : TA} (lo : Nat) (hi : Int) (n : Nat) (ys : List β) {R : Hp → V → β → Prop} (rp : Rep R) (hl : ∀ F : List V → Hp → Prop, F [.int (lo : Int), .int hi] H1 → ta σ H1 F)
    (hn : n = (hi - lo).toNat) (hb1 : -(2 ^ 62) ≤ hi) (hb2 : hi < 2 ^ 62) (hb3 : lo ≤ 10000) (hlen : n = ys.length) (hz : n ≤ 10000) (hw : ∀ x, wipe ((wipe σ vs).set j (some x)) vs = wipe σ vs)
    (step : ∀ (i : Nat) b H D zs, i < n → ys[i]? = some b → Ex H1 H → H D = some (.lst zs) → ∀ Q' : VK, (∀ v H', Ex H H' → R H' v b → v ≠ .ref D → Q' v H') → te ((wipe σ vs).set j (some (.int (((lo + i : Nat) : Nat) : Int)))) H Q')
    (done : ∀ D H' zs, H1 D = none → Ex H1 H' → H' D = some (.lst zs) → Paired (R H') zs ys → Q (.ref D) H') : tLc (iRng2 ta) (gName j) tYes te vs σ H1 Q :=
  hl _ ⟨(lo : Int), hi, rfl, ⟨by omega, by omega, hb1, hb2⟩, by
    rw [← hn]
    refine lc_rmap ys rp hlen hz hw (fun i b H D zs hi hb e hD Q' q' => ?_) done
    rw [show (lo : Int) + (i : Int) = (((lo + i : Nat) : Nat) : Int) by omega]
    exact step i b H D zs hi hb e hD Q' q'⟩
end
section
variable {K : PySem.W.Frag} {a : Addr} {xs : List V} {g : TG} {tb : TS} {D : Ends} {σ : L2.St} {H : Hp}
theorem ForL {tl : TE} (Pv : Nat → L2.St → Hp → Prop) (hr : ∀ F : VK, F (.ref a) H → tl σ H F) (hs0 : SqL K H a xs) (h0 : Pv 0 σ H) (hl : ∀ i σ H, i ≤ xs.length → Pv i σ H → SqL K H a xs)
    (hs : ∀ i x σ H, xs[i]? = some x → Pv i σ H → g x σ H fun σ2 H2 => tb { D with nx := Pv (i + 1), ct := Pv (i + 1), bk := D.nx } σ2 H2) (hd : ∀ σ H, Pv xs.length σ H → D.nx σ H) : tFor (iList K tl) g tb D σ H :=
  hr _ ⟨a, rfl, ⟨xs, hs0⟩, for_list Pv h0 hl hs hd⟩
theorem ForT {tl : TE} (Pv : Nat → L2.St → Hp → Prop) (hr : ∀ F : VK, F (.ref a) H → tl σ H F) (hs0 : SqT K H a xs) (h0 : Pv 0 σ H) (hl : ∀ i σ H, i ≤ xs.length → Pv i σ H → SqT K H a xs)
    (hs : ∀ i x σ H, xs[i]? = some x → Pv i σ H → g x σ H fun σ2 H2 => tb { D with nx := Pv (i + 1), ct := Pv (i + 1), bk := D.nx } σ2 H2) (hd : ∀ σ H, Pv xs.length σ H → D.nx σ H) : tFor (iTup K tl) g tb D σ H :=
  hr _ ⟨a, rfl, ⟨xs, hs0⟩, for_tup Pv h0 hl hs hd⟩
theorem ForR1 {ta : TA} (n : Nat) (Pv : Nat → L2.St → Hp → Prop) (hr : ∀ F : List V → Hp → Prop, F [.int (n : Int)] H → ta σ H F) (hz : n ≤ 10000) (h0 : Pv 0 σ H)
    (hs : ∀ i σ H, i < n → Pv i σ H → g (.int (i : Int)) σ H fun σ2 H2 => tb { D with nx := Pv (i + 1), ct := Pv (i + 1), bk := D.nx } σ2 H2) (hd : ∀ σ H, Pv n σ H → D.nx σ H) : tFor (iRng1 ta) g tb D σ H :=
  hr _ ⟨(n : Int), rfl, by omega, by omega, by
    rw [Int.toNat_natCast]
    exact for_range Pv h0 (fun i σ H hi p => by rw [Int.zero_add]; exact hs i σ H hi p) hd⟩
theorem ForR2 {ta : TA} (lo : Nat) (hi : Int) (n : Nat) (Pv : Nat → L2.St → Hp → Prop) (hr : ∀ F : List V → Hp → Prop, F [.int (lo : Int), .int hi] H → ta σ H F) (hn : n = (hi - lo).toNat) (hb1 : -(2 ^ 62) ≤ hi) (hb2 : hi < 2 ^ 62) (hb3 : lo ≤ 10000) (h0 : Pv 0 σ H)
    (hs : ∀ i σ H, i < n → Pv i σ H → g (.int ((lo + i : Nat) : Int)) σ H fun σ2 H2 => tb { D with nx := Pv (i + 1), ct := Pv (i + 1), bk := D.nx } σ2 H2) (hd : ∀ σ H, Pv n σ H → D.nx σ H) : tFor (iRng2 ta) g tb D σ H :=
  hr _ ⟨(lo : Int), hi, rfl, ⟨by omega, by omega, hb1, hb2⟩, by
    rw [← hn]
    exact for_range Pv h0 (fun i σ H hi p => by rw [show (lo : Int) + (i : Int) = ((lo + i : Nat) : Int) by omega]; exact hs i σ H hi p) hd⟩
theorem ForE {ta : TA} {p q : Nat} (Pv : Nat → L2.St → Hp → Prop) (hr : ∀ F : List V → Hp → Prop, F [.ref a] H → ta σ H F) (hs0 : SqL K H a xs) (h0 : Pv 0 σ H) (hl : ∀ i σ H, i ≤ xs.length → Pv i σ H → SqL K H a xs)
    (hs : ∀ i x T σ H, xs[i]? = some x → Pv i σ H → H T = none → tb { D with nx := Pv (i + 1), ct := Pv (i + 1), bk := D.nx } ((σ.set p (some (.int (i : Int)))).set q (some x)) (upd H T (.tup [.int (i : Int), x]))) (hd : ∀ σ H, Pv xs.length σ H → D.nx σ H) :
    tFor (iEnum K ta) (gTup K 2 (gCons (gName p) (gCons (gName q) gNil))) tb D σ H := by
  refine hr _ ⟨a, xs, rfl, hs0, ?_⟩
  refine ⟨fun i m σ H => m = xs.length - i ∧ i ≤ xs.length ∧ Pv i σ H, ⟨xs.length, by simp, Nat.zero_le _, h0⟩, ?_⟩
  rintro i m σ H ⟨rfl, hi, pv⟩
  have hq := hl i σ H hi pv
  by_cases hlt : i < xs.length
  · refine .inr ⟨⟨xs, xs[i], hq, by simp [hlt]⟩, Pv (i + 1), fun σ' H' p' => ⟨xs.length - (i + 1), by omega, rfl, hlt, p'⟩, fun v H' y => ?_⟩
    obtain ⟨T, x, rfl, hT, rfl, hx⟩ := y
    exact ⟨T, _, rfl, .of upd_same, rfl, _, _, rfl, _, _, rfl, rfl, hs i x T σ H (hx xs hq) pv hT⟩
  · have e : i = xs.length := by omega
    subst e
    exact .inl ⟨⟨xs, hq, Nat.le_refl _⟩, hd σ H pv⟩
end
end K66

set_option Elab.async false
set_option linter.all false
set_option maxRecDepth 100000
set_option maxHeartbeats 2000000
namespace K66
open PySem PySem.Spec PyProof.Rows L2
open Evl (Ex)
theorem pg_tupK {X : Cx} {K : PySem.W.Frag} {es : List Expr} {k : Nat} {t : TGs} {n : Nat} {pos : Pos} (hK : X.K = K) (hc : X.calm = true) (h : PGs X es t)
    (hn : (assignEach es X.env).length = n := by rfl) (hst : (assignEach es X.env).findIdx? (·.1) = none := by rfl) : PG X (.Tuple es k pos) (gTup K n t) := by
  subst hK
  exact pg_tup hc h hn hst
theorem ix_tupK {X : Cx} {K : PySem.W.Frag} (hK : X.K = K) : IxR X (rIxT K) := by
  subst hK
  exact ix_tup
/-- what is left of a comprehension when its list is there -/
def LcB (J : It) (g : TG) (tt : TT) (te : TE) (vs : List Nat) (σ : L2.St) (Q : VK) (H1 : Hp) : Prop := ∀ D, H1 D = none → ∃ W : Nat → Nat → Hp → Prop, (∃ m, W 0 m (upd H1 D (.lst []))) ∧ ∀ i m H, W i m H →
  (J.stop i H ∧ Q (.ref D) H) ∨ (J.go i H ∧ ∃ Nx : Hp → Prop, (∀ H', Nx H' → ∃ m', m' < m ∧ W (i + 1) m' H') ∧ ∀ x H', J.yld i H x H' → g x (wipe σ vs) H' fun σ2 H2 => wipe σ2 vs = wipe σ vs ∧ tt σ2 H2 fun b H3 =>
    if b = true then te σ2 H3 fun y H4 => ∃ acc, H4 D = some (.lst acc) ∧ acc.length < sizeLine ∧ Nx (upd H4 D (.lst (acc ++ [y]))) else Nx H3)
theorem tLc_list {K : PySem.W.Frag} {tl : TE} {g : TG} {tt : TT} {te : TE} {vs : List Nat} {σ : L2.St} {H : Hp} {Q : VK} (h : tl σ H fun x H1 => ∃ a, x = .ref a ∧ (∃ xs, SqL K H1 a xs) ∧ LcB (Itl K a) g tt te vs σ Q H1) : tLc (iList K tl) g tt te vs σ H Q := h
theorem LcBL {β : Type} {K : PySem.W.Frag} {a : Addr} {xs : List V} {j : Nat} {te : TE} {vs : List Nat} {σ : L2.St} {H1 : Hp} {Q : VK} (ys : List β) {R : Hp → V → β → Prop} (rp : Rep R)
    (hs : SqL K H1 a xs) (hlen : xs.length = ys.length) (hz : xs.length ≤ 10000) (hw : ∀ x, wipe ((wipe σ vs).set j (some x)) vs = wipe σ vs)
    (step : ∀ (i : Nat) x b H D zs, xs[i]? = some x → ys[i]? = some b → Ex H1 H → H D = some (.lst zs) → ∀ Q' : VK, (∀ v H', Ex H H' → R H' v b → v ≠ .ref D → Q' v H') → te ((wipe σ vs).set j (some x)) H Q')
    (done : ∀ D H' zs, H1 D = none → Ex H1 H' → H' D = some (.lst zs) → Paired (R H') zs ys → Q (.ref D) H') : LcB (Itl K a) (gName j) tYes te vs σ Q H1 := lc_map ys rp hs hlen hz hw step done
section
variable {K : PySem.W.Frag} {a b : Addr} {xs ys : List V} {j p q : Nat} {te : TE} {tt : TT} {vs : List Nat} {σ : L2.St} {H1 : Hp} {Q : VK}
/-- over a range, by an invariant -/
theorem LcR1I {ta : TA} (n : Nat) (Pv : Addr → Nat → Hp → Prop) (hl : ∀ F : List V → Hp → Prop, F [.int (n : Int)] H1 → ta σ H1 F) (hz : n ≤ 10000) (hw : ∀ x, wipe ((wipe σ vs).set j (some x)) vs = wipe σ vs)
    (h0 : ∀ D, H1 D = none → Pv D 0 (upd H1 D (.lst [])))
    (step : ∀ D (i : Nat) H, i < n → Pv D i H → te ((wipe σ vs).set j (some (.int (i : Int)))) H fun y H4 => ∃ acc, H4 D = some (.lst acc) ∧ acc.length < sizeLine ∧ Pv D (i + 1) (upd H4 D (.lst (acc ++ [y]))))
    (done : ∀ D H', Pv D n H' → Q (.ref D) H') : tLc (iRng1 ta) (gName j) tYes te vs σ H1 Q :=
  hl _ ⟨(n : Int), rfl, by omega, by omega, by
    rw [Int.toNat_natCast]
    intro D hD
    refine lc_range (Pv D) (h0 D hD) (fun i H hi p => ⟨hw _, yes_go ?_⟩) (fun H p => done D H p)
    rw [Int.zero_add]
    exact step D i H hi p⟩
/-- over zip of two lists of the same length, plain values -/
theorem LcZ {ta : TA} (n : Nat) (f : Nat → V) (hr : ∀ F : List V → Hp → Prop, F [.ref a, .ref b] H1 → ta σ H1 F) (ha : SqL K H1 a xs) (hb : SqL K H1 b ys) (hx : xs.length = n) (hy : ys.length = n) (hz : n ≤ 10000)
    (hw : ∀ x y, wipe (((wipe σ vs).set p (some x)).set q (some y)) vs = wipe σ vs)
    (step : ∀ (i : Nat) x y H, xs[i]? = some x → ys[i]? = some y → Ex H1 H → ∀ F : VK, F (f i) H → te (((wipe σ vs).set p (some x)).set q (some y)) H F)
    (done : ∀ D H', H1 D = none → Ex H1 H' → H' D = some (.lst ((List.range n).map f)) → Q (.ref D) H') :
    tLc (iZip K ta) (gTup K 2 (gCons (gName p) (gCons (gName q) gNil))) tYes te vs σ H1 Q := by
  refine hr _ ⟨a, b, xs, ys, rfl, ha, hb, fun D hD => ?_⟩
  refine ⟨fun i m H => m = n - i ∧ i ≤ n ∧ Ex H1 H ∧ H D = some (.lst ((List.range i).map f)), ⟨n, by simp, Nat.zero_le _, Evl.Ex.new hD, upd_same⟩, ?_⟩
  rintro i m H ⟨rfl, hi, e, hd⟩
  have qa := Evl.ex_l e ha
  have qb := Evl.ex_l e hb
  by_cases hlt : i < n
  · obtain ⟨x, hx'⟩ : ∃ x, xs[i]? = some x := ⟨xs[i]'(by omega), List.getElem?_eq_getElem (by omega)⟩
    obtain ⟨y, hy'⟩ : ∃ y, ys[i]? = some y := ⟨ys[i]'(by omega), List.getElem?_eq_getElem (by omega)⟩
    refine .inr ⟨⟨xs, ys, x, y, qa, qb, hx', hy'⟩, fun H => i + 1 ≤ n ∧ Ex H1 H ∧ H D = some (.lst ((List.range (i + 1)).map f)), fun H' h => ⟨n - (i + 1), by omega, rfl, h⟩, ?_⟩
    rintro v H' ⟨T, x', y', rfl, hT, rfl, h1, h2⟩
    have e1 := h1 xs qa
    have e2 := h2 ys qb
    have ex := Evl.Ex.new (o := .tup [x', y']) hT
    refine ⟨T, _, rfl, .of upd_same, rfl, _, _, rfl, _, _, rfl, rfl, hw _ _, yes_go ?_⟩
    refine step i x' y' _ e1 e2 (e.trans ex) _ ⟨_, ex _ _ hd, ?_, hlt, Evl.Ex.mut (e.trans ex) hD, ?_⟩
    · rw [List.length_map, List.length_range]
      exact Nat.lt_of_lt_of_le (by omega : i < 10001) (by decide)
    · rw [upd_same, List.range_succ, List.map_append]; rfl
  · have e' : i = n := by omega
    subst e'
    exact .inl ⟨⟨xs, ys, qa, qb, .inl (by omega)⟩, done D H hD e hd⟩
theorem filter_snoc {l : List V} (k : V → Bool) (i : Nat) {x : V} (h : l[i]? = some x) : (l.take (i + 1)).filter k = (l.take i).filter k ++ if k x = true then [x] else [] := by
  rw [List.take_succ, h, List.filter_append]
  show _ ++ List.filter k [x] = _
  by_cases hk : k x = true
  · rw [if_pos hk, List.filter_cons, if_pos hk]; rfl
  · rw [if_neg hk, List.filter_cons, if_neg hk]; rfl
/-- over a list, with a test, the items themselves -/
theorem LcF {tl : TE} (k : V → Bool) (hl : ∀ F : VK, F (.ref a) H1 → tl σ H1 F) (hs : SqL K H1 a xs) (hz : xs.length ≤ 10000) (hw : ∀ x, wipe ((wipe σ vs).set j (some x)) vs = wipe σ vs)
    (test : ∀ x H, x ∈ xs → Ex H1 H → ∀ F : Bool → Hp → Prop, F (k x) H → tt ((wipe σ vs).set j (some x)) H F)
    (val : ∀ x H, x ∈ xs → Ex H1 H → ∀ F : VK, F x H → te ((wipe σ vs).set j (some x)) H F)
    (done : ∀ D H', H1 D = none → Ex H1 H' → H' D = some (.lst (xs.filter k)) → Q (.ref D) H') : tLc (iList K tl) (gName j) tt te vs σ H1 Q := by
  refine hl _ ⟨a, rfl, ⟨xs, hs⟩, fun D hD => ?_⟩
  refine lc_list (xs := xs) (fun i H => Ex H1 H ∧ H D = some (.lst ((xs.take i).filter k))) ⟨Evl.Ex.new hD, upd_same⟩ (fun i H _ p => Evl.ex_l p.1 hs) ?_ ?_
  · rintro i x H hx ⟨e, hd⟩
    have hm := List.mem_of_getElem? hx
    refine ⟨hw x, test x H hm e _ ?_⟩
    have hc := filter_snoc k i hx
    show if k x = true then te _ H _ else _
    by_cases h : k x = true
    · rw [if_pos h]
      refine val x H hm e _ ⟨_, hd, ?_, Evl.Ex.mut e hD, ?_⟩
      · have h1 := List.length_filter_le k (xs.take i)
        rw [List.length_take] at h1
        exact Nat.lt_of_lt_of_le (by omega : _ < 10001) (by decide)
      · rw [hc, if_pos h, upd_same]
    · rw [if_neg h]
      rw [if_neg h, List.append_nil] at hc
      exact ⟨e, by rw [hc]; exact hd⟩
  · rintro H ⟨e, hd⟩
    rw [List.take_length] at hd
    exact done D H hD e hd
/-- over range(lo, lo + n), with a test, the numbers themselves -/
theorem LcFR {ta : TA} (lo : Nat) (hi : Int) (n : Nat) (k : Nat → Bool) (hl : ∀ F : List V → Hp → Prop, F [.int (lo : Int), .int hi] H1 → ta σ H1 F)
    (hn : n = (hi - lo).toNat) (hb1 : -(2 ^ 62) ≤ hi) (hb2 : hi < 2 ^ 62) (hb3 : lo ≤ 10000) (hz : n ≤ 10000) (hw : ∀ x, wipe ((wipe σ vs).set j (some x)) vs = wipe σ vs)
    (test : ∀ (i : Nat) H, i < n → Ex H1 H → ∀ F : Bool → Hp → Prop, F (k i) H → tt ((wipe σ vs).set j (some (.int (((lo + i : Nat) : Nat) : Int)))) H F)
    (val : ∀ (i : Nat) H, i < n → Ex H1 H → ∀ F : VK, F (.int (((lo + i : Nat) : Nat) : Int)) H → te ((wipe σ vs).set j (some (.int (((lo + i : Nat) : Nat) : Int)))) H F)
    (done : ∀ D H' zs, H1 D = none → Ex H1 H' → H' D = some (.lst zs) → zs.length = ((List.range n).filter k).length → Q (.ref D) H') : tLc (iRng2 ta) (gName j) tt te vs σ H1 Q :=
  hl _ ⟨(lo : Int), hi, rfl, ⟨by omega, by omega, hb1, hb2⟩, by
    rw [← hn]
    intro D hD
    refine lc_range (lo := (lo : Int)) (n := n) (fun i H => Ex H1 H ∧ ∃ zs, H D = some (.lst zs) ∧ zs.length = ((List.range i).filter k).length) ⟨Evl.Ex.new hD, [], upd_same, rfl⟩ ?_ ?_
    · rintro i H hi ⟨e, zs, hd, hlen⟩
      rw [show (lo : Int) + (i : Int) = (((lo + i : Nat) : Nat) : Int) by omega]
      refine ⟨hw _, test i H hi e _ ?_⟩
      show if k i = true then te _ H _ else _
      have hr : (List.range (i + 1)).filter k = (List.range i).filter k ++ if k i = true then [i] else [] := by
        rw [List.range_succ, List.filter_append]
        by_cases hk : k i = true
        · rw [if_pos hk, List.filter_cons, if_pos hk]; rfl
        · rw [if_neg hk, List.filter_cons, if_neg hk]; rfl
      by_cases h : k i = true
      · rw [if_pos h]
        refine val i H hi e _ ⟨zs, hd, ?_, Evl.Ex.mut e hD, _, upd_same, ?_⟩
        · have h1 := List.length_filter_le k (List.range i)
          rw [List.length_range] at h1
          exact Nat.lt_of_lt_of_le (by omega : zs.length < 10001) (by decide)
        · rw [hr, if_pos h, List.length_append, List.length_append, hlen]; rfl
      · rw [if_neg h]
        refine ⟨e, zs, hd, ?_⟩
        rw [hr, if_neg h, List.append_nil]; exact hlen
    · rintro H ⟨e, zs, hd, hlen⟩
      exact done D H zs hD e hd hlen⟩
end
end K66

set_option Elab.async false
set_option linter.all false
namespace K66

def sm : Nat → (Nat → Rat) → Rat
  | 0, _ => 0
  | n + 1, f => sm n f + f n

theorem sm_congr {n : Nat} {f g : Nat → Rat} (h : ∀ i, i < n → f i = g i) : sm n f = sm n g := by
  induction n with
  | zero => rfl
  | succ n ih =>
    show sm n f + f n = sm n g + g n
    rw [ih fun i hi => h i (by omega), h n (by omega)]
theorem sm_zero {n : Nat} {f : Nat → Rat} (h : ∀ i, i < n → f i = 0) : sm n f = 0 := by
  induction n with
  | zero => rfl
  | succ n ih =>
    show sm n f + f n = 0
    rw [ih fun i hi => h i (by omega), h n (by omega)]; grind
theorem sm_add (n : Nat) (f g : Nat → Rat) : sm n (fun i => f i + g i) = sm n f + sm n g := by
  induction n with
  | zero => show (0 : Rat) = 0 + 0; grind
  | succ n ih =>
    show sm n (fun i => f i + g i) + (f n + g n) = (sm n f + f n) + (sm n g + g n)
    rw [ih]; grind
theorem sm_mul (n : Nat) (c : Rat) (f : Nat → Rat) : sm n (fun i => c * f i) = c * sm n f := by
  induction n with
  | zero => show (0 : Rat) = c * 0; grind
  | succ n ih =>
    show sm n (fun i => c * f i) + c * f n = c * (sm n f + f n)
    rw [ih]; grind
theorem sm_mulr (n : Nat) (c : Rat) (f : Nat → Rat) : sm n (fun i => f i * c) = sm n f * c := by
  rw [show (fun i => f i * c) = (fun i => c * f i) from funext fun i => by grind, sm_mul]; grind
theorem sm_succ_left (n : Nat) (f : Nat → Rat) : sm (n + 1) f = f 0 + sm n (fun i => f (i + 1)) := by
  induction n with
  | zero => show (0 : Rat) + f 0 = f 0 + 0; grind
  | succ n ih =>
    show sm (n + 1) f + f (n + 1) = f 0 + (sm n (fun i => f (i + 1)) + f (n + 1))
    rw [ih]; grind
theorem sm_swap (n m : Nat) (f : Nat → Nat → Rat) : sm n (fun i => sm m (fun j => f i j)) = sm m (fun j => sm n (fun i => f i j)) := by
  induction n with
  | zero =>
    show (0 : Rat) = sm m (fun _ => 0)
    exact (sm_zero fun _ _ => rfl).symm
  | succ n ih =>
    show sm n (fun i => sm m (fun j => f i j)) + sm m (fun j => f n j) = sm m (fun j => sm n (fun i => f i j) + f n j)
    rw [sm_add, ih]
theorem sm_one {n a : Nat} (x : Rat) (f : Nat → Rat) (ha : a < n) : sm n (fun i => f i * (if i = a then x else 0)) = f a * x := by
  induction n with
  | zero => omega
  | succ n ih =>
    show sm n (fun i => f i * (if i = a then x else 0)) + f n * (if n = a then x else 0) = f a * x
    by_cases h : n = a
    · subst h
      rw [sm_zero fun i hi => ?_, if_pos rfl]
      · grind
      · rw [if_neg (by omega)]; grind
    · rw [ih (by omega), if_neg h]; grind
theorem sm_nonneg {n : Nat} {f : Nat → Rat} (h : ∀ i, i < n → 0 ≤ f i) : 0 ≤ sm n f := by
  induction n with
  | zero => exact Rat.le_refl
  | succ n ih =>
    show 0 ≤ sm n f + f n
    have h1 := ih fun i hi => h i (by omega)
    have h2 := h n (by omega)
    grind

def bz (u w : Nat → Rat) : Nat → Nat → Rat
  | i, 0 => u (i + 1) * w 0 - u 0 * w (i + 1)
  | i, j + 1 => u (i + 1) * w (j + 1) - u (j + 1) * w (i + 1) + bz u w (i + 1) j

theorem bz_lin (a b : Rat) (u u' w : Nat → Rat) : ∀ j i, bz (fun i => a * u i + b * u' i) w i j = a * bz u w i j + b * bz u' w i j := by
  intro j
  induction j with
  | zero => intro i; simp only [bz]; grind
  | succ j ih => intro i; simp only [bz]; rw [ih]; grind
theorem bz_anti (u w : Nat → Rat) : ∀ j i, bz u w i j = - bz w u i j := by
  intro j
  induction j with
  | zero => intro i; simp only [bz]; grind
  | succ j ih => intro i; simp only [bz]; rw [ih]; grind
theorem bz_self (u : Nat → Rat) (i j : Nat) : bz u u i j = 0 := by
  have h := bz_anti u u j i
  grind
def sh (w : Nat → Rat) : Nat → Rat
  | 0 => 0
  | i + 1 => w i
theorem bz_sh (w : Nat → Rat) : ∀ j i, bz (sh w) w i j = w i * w j := by
  intro j
  induction j with
  | zero => intro i; simp only [bz, sh]; grind
  | succ j ih => intro i; simp only [bz, sh]; rw [ih]; grind
theorem bz_e (u w : Nat → Rat) (i j : Nat) : bz u w i (j + 1) - bz u w (j + 1) i = bz u w (i + 1) j - bz u w j (i + 1) := by
  have h1 : bz u w i (j + 1) = u (i + 1) * w (j + 1) - u (j + 1) * w (i + 1) + bz u w (i + 1) j := rfl
  have h2 : bz u w j (i + 1) = u (j + 1) * w (i + 1) - u (i + 1) * w (j + 1) + bz u w (j + 1) i := rfl
  grind
theorem bz_e0 (u w : Nat → Rat) : ∀ j i, bz u w i j - bz u w j i = bz u w (i + j) 0 - bz u w 0 (i + j) := by
  intro j
  induction j with
  | zero => intro i; rfl
  | succ j ih =>
    intro i
    rw [bz_e, ih (i + 1), show i + 1 + j = i + (j + 1) by omega]
theorem bz_symm (u w : Nat → Rat) (i j : Nat) : bz u w i j = bz u w j i := by
  have h1 := bz_e0 u w j i
  have h2 := bz_e0 u w (i + j) 0
  rw [Nat.zero_add] at h2
  grind
theorem bz_zero {u w : Nat → Rat} : ∀ j i, (∀ k, i < k → u k = 0) → (∀ k, i < k → w k = 0) → bz u w i j = 0 := by
  intro j
  induction j with
  | zero => intro i hu hw; simp only [bz]; rw [hu (i + 1) (by omega), hw (i + 1) (by omega)]; grind
  | succ j ih =>
    intro i hu hw
    simp only [bz]
    rw [hu (i + 1) (by omega), hw (i + 1) (by omega), ih (i + 1) (fun k hk => hu k (by omega)) (fun k hk => hw k (by omega))]; grind
theorem bz_top {u w : Nat → Rat} {i : Nat} (hu : ∀ k, i + 1 < k → u k = 0) (hw : ∀ k, i < k → w k = 0) (j : Nat) : bz u w i j = u (i + 1) * w j := by
  cases j with
  | zero => simp only [bz]; rw [hw (i + 1) (by omega)]; grind
  | succ j => simp only [bz]; rw [hw (i + 1) (by omega), bz_zero j (i + 1) hu fun k hk => hw k (by omega)]; grind

def qf (n : Nat) (b : Nat → Nat → Rat) (v : Nat → Rat) : Rat := sm n fun i => sm n fun j => b i j * v i * v j
def PSD (n : Nat) (u w : Nat → Rat) : Prop := ∀ v : Nat → Rat, 0 ≤ qf n (bz u w) v

theorem qf_congr {n : Nat} {b b' : Nat → Nat → Rat} {v v' : Nat → Rat} (h : ∀ i j, i < n → j < n → b i j = b' i j) (hv : ∀ i, i < n → v i = v' i) : qf n b v = qf n b' v' :=
  sm_congr fun i hi => sm_congr fun j hj => by rw [h i j hi hj, hv i hi, hv j hj]
theorem qf_lin (n : Nat) (x y : Rat) (b b' : Nat → Nat → Rat) (v : Nat → Rat) : qf n (fun i j => x * b i j + y * b' i j) v = x * qf n b v + y * qf n b' v := by
  unfold qf
  rw [← sm_mul, ← sm_mul, ← sm_add]
  refine sm_congr fun i _ => ?_
  rw [← sm_mul, ← sm_mul, ← sm_add]
  refine sm_congr fun j _ => ?_
  grind
theorem qf_sq (n : Nat) (w v : Nat → Rat) : qf n (fun i j => w i * w j) v = (sm n fun i => w i * v i) * (sm n fun i => w i * v i) := by
  unfold qf
  rw [← sm_mulr]
  refine sm_congr fun i _ => ?_
  rw [← sm_mul]
  exact sm_congr fun j _ => by grind
/-- the last row and column are nought -/
theorem qf_drop {n : Nat} {b : Nat → Nat → Rat} {v : Nat → Rat} (h1 : ∀ j, b n j = 0) (h2 : ∀ i, b i n = 0) : qf (n + 1) b v = qf n b v := by
  unfold qf
  show sm n (fun i => sm n (fun j => b i j * v i * v j) + b i n * v i * v n) + sm (n + 1) (fun j => b n j * v n * v j) = sm n fun i => sm n fun j => b i j * v i * v j
  rw [sm_zero (n := n + 1) fun j _ => by rw [h1]; grind]
  rw [show sm n (fun i => sm n (fun j => b i j * v i * v j) + b i n * v i * v n) = sm n fun i => sm n fun j => b i j * v i * v j from sm_congr fun i _ => by rw [h2]; grind]
  grind
theorem qf_two {n p q : Nat} (b : Nat → Nat → Rat) (x y : Rat) (hp : p < n) (hq : q < n) :
    qf n b (fun i => (if i = p then x else 0) + (if i = q then y else 0)) = b p p * x * x + b p q * x * y + b q p * y * x + b q q * y * y := by
  have inner : ∀ i, sm n (fun j => b i j * ((if i = p then x else 0) + (if i = q then y else 0)) * ((if j = p then x else 0) + (if j = q then y else 0))) = (b i p * x + b i q * y) * ((if i = p then x else 0) + (if i = q then y else 0)) := fun i => by
    have e : (fun j => b i j * ((if i = p then x else 0) + (if i = q then y else 0)) * ((if j = p then x else 0) + (if j = q then y else 0))) = fun j => (b i j * ((if i = p then x else 0) + (if i = q then y else 0))) * (if j = p then x else 0) + (b i j * ((if i = p then x else 0) + (if i = q then y else 0))) * (if j = q then y else 0) := funext fun j => by grind
    rw [e, sm_add, sm_one x _ hp, sm_one y _ hq]; grind
  unfold qf
  rw [show (fun i => sm n (fun j => b i j * ((if i = p then x else 0) + (if i = q then y else 0)) * ((if j = p then x else 0) + (if j = q then y else 0)))) = fun i => (b i p * x + b i q * y) * (if i = p then x else 0) + (b i p * x + b i q * y) * (if i = q then y else 0) from funext fun i => by rw [inner]; grind]
  rw [sm_add, sm_one x _ hp, sm_one y _ hq]; grind

theorem nn_mul {a b : Rat} (ha : 0 ≤ a) (hb : 0 ≤ b) : 0 ≤ a * b := Rat.mul_nonneg ha hb
theorem sq_nn (a : Rat) : 0 ≤ a * a := by
  rcases Rat.le_total (a := 0) (b := a) with h | h
  · exact nn_mul h h
  · have := nn_mul (a := -a) (b := -a) (by grind) (by grind); grind
theorem nn_of_mul {a b : Rat} (ha : 0 < a) (h : 0 ≤ a * b) : 0 ≤ b := by
  rcases Rat.le_total (a := 0) (b := b) with h' | h'
  · exact h'
  · have h1 : 0 ≤ a * (-b) := nn_mul (by grind) (by grind)
    have h2 : a * b = 0 := by grind
    have h3 : b = 0 := by
      rcases Rat.mul_eq_zero.mp h2 with e | e
      · grind
      · exact e
    grind
theorem sq_pos {a : Rat} (h : a ≠ 0) : 0 < a * a := by
  have h1 := sq_nn a
  have h2 : a * a ≠ 0 := fun e => by rcases Rat.mul_eq_zero.mp e with e | e <;> exact h e
  grind

/-- one step of the row of rests -/
theorem step_eq {u w z : Nat → Rat} {κ μ α β : Rat} {d : Nat} (hrel : ∀ i, κ * u i = α * sh w i + β * w i - μ * z i) (hw : ∀ k, d < k → w k = 0) (hz : ∀ k, d ≤ k → z k = 0) (v : Nat → Rat) :
    κ * qf (d + 1) (bz u w) v = α * ((sm (d + 1) fun i => w i * v i) * (sm (d + 1) fun i => w i * v i)) + μ * qf d (bz w z) v := by
  have hb : ∀ i j, κ * bz u w i j = α * (w i * w j) + μ * bz w z i j := fun i j => by
    have e1 : bz (fun i => κ * u i + 0 * u i) w i j = κ * bz u w i j + 0 * bz u w i j := bz_lin κ 0 u u w j i
    have e2 : bz (fun i => 1 * (fun i => α * sh w i + β * w i) i + (-μ) * z i) w i j = 1 * bz (fun i => α * sh w i + β * w i) w i j + (-μ) * bz z w i j := bz_lin 1 (-μ) _ z w j i
    have e3 : bz (fun i => α * sh w i + β * w i) w i j = α * bz (sh w) w i j + β * bz w w i j := bz_lin α β (sh w) w w j i
    have e4 : (fun i => κ * u i + 0 * u i) = (fun i => 1 * (fun i => α * sh w i + β * w i) i + (-μ) * z i) := funext fun i => by
      show κ * u i + 0 * u i = 1 * (α * sh w i + β * w i) + (-μ) * z i
      have := hrel i; grind
    rw [e4] at e1
    rw [e2, e3, bz_sh, bz_self, bz_anti z w] at e1
    grind
  have hd : qf (d + 1) (bz w z) v = qf d (bz w z) v := qf_drop (fun j => bz_zero j d hw fun k hk => hz k (by omega)) fun i => by
    rw [bz_symm]; exact bz_zero i d hw fun k hk => hz k (by omega)
  have h1 : κ * qf (d + 1) (bz u w) v = qf (d + 1) (fun i j => κ * bz u w i j + 0 * bz u w i j) v := by rw [qf_lin]; grind
  rw [h1, qf_congr (b' := fun i j => α * (w i * w j) + μ * bz w z i j) (fun i j _ _ => by have := hb i j; grind) (fun _ _ => rfl), qf_lin, qf_sq, hd]
theorem step_psd {u w z : Nat → Rat} {κ μ α β : Rat} {d : Nat} (hκ : 0 < κ) (hμ : 0 < μ) (hrel : ∀ i, κ * u i = α * sh w i + β * w i - μ * z i) (hw : ∀ k, d < k → w k = 0) (hz : ∀ k, d ≤ k → z k = 0) (hd : w d ≠ 0) :
    PSD (d + 1) u w ↔ 0 ≤ α ∧ PSD d w z := by
  constructor
  · intro h
    constructor
    · have e := step_eq hrel hw hz (fun i => if i = d then 1 else 0)
      rw [sm_one 1 w (Nat.lt_succ_self d)] at e
      have h0 : qf d (bz w z) (fun i => if i = d then 1 else 0) = 0 := sm_zero fun i hi => sm_zero fun j hj => by dsimp only; rw [if_neg (by omega : ¬ i = d)]; grind
      rw [h0] at e
      have h1 := nn_mul (Rat.le_of_lt hκ) (h fun i => if i = d then 1 else 0)
      rw [e] at h1
      exact nn_of_mul (sq_pos hd) (by grind)
    · intro v
      have e := step_eq hrel hw hz (fun i => if i = d then -(sm d fun i => w i * v i) / w d else v i)
      have s0 : (sm (d + 1) fun i => w i * (if i = d then -(sm d fun i => w i * v i) / w d else v i)) = 0 := by
        show (sm d fun i => w i * (if i = d then -(sm d fun i => w i * v i) / w d else v i)) + w d * (if d = d then -(sm d fun i => w i * v i) / w d else v d) = 0
        rw [if_pos rfl, sm_congr (g := fun i => w i * v i) fun i hi => by rw [if_neg (by omega)]]
        grind
      rw [s0] at e
      have e2 : qf d (bz w z) (fun i => if i = d then -(sm d fun i => w i * v i) / w d else v i) = qf d (bz w z) v := qf_congr (fun _ _ _ _ => rfl) fun i hi => by rw [if_neg (by omega)]
      rw [e2] at e
      have h1 := nn_mul (Rat.le_of_lt hκ) (h fun i => if i = d then -(sm d fun i => w i * v i) / w d else v i)
      rw [e] at h1
      exact nn_of_mul hμ (by grind)
  · rintro ⟨ha, h⟩ v
    have e := step_eq hrel hw hz v
    have h1 := nn_mul ha (sq_nn (sm (d + 1) fun i => w i * v i))
    have h2 := nn_mul (Rat.le_of_lt hμ) (h v)
    exact nn_of_mul hκ (by rw [e]; grind)
/-- a fall of the degree by two or more -/
theorem fall_psd {u w : Nat → Rat} {n e : Nat} (hu : ∀ k, n + 1 < k → u k = 0) (h1 : u (n + 1) ≠ 0) (hw : ∀ k, n ≤ k → w k = 0) (he : w e ≠ 0) : ¬ PSD (n + 1) u w := by
  intro h
  have hen : e < n := by
    rcases Nat.lt_or_ge e n with q | q
    · exact q
    · exact absurd (hw e q) he
  have a1 : bz u w n n = 0 := by rw [bz_top hu (fun k hk => hw k (by omega)), hw n (Nat.le_refl n)]; grind
  have a2 : bz u w n e = u (n + 1) * w e := bz_top hu (fun k hk => hw k (by omega)) e
  have a3 : bz u w e n = u (n + 1) * w e := by rw [bz_symm]; exact a2
  have hc : u (n + 1) * w e ≠ 0 := fun q => by rcases Rat.mul_eq_zero.mp q with q | q <;> contradiction
  have q := h (fun i => (if i = n then -(bz u w e e + 1) / (2 * (u (n + 1) * w e)) else 0) + (if i = e then 1 else 0))
  rw [qf_two _ _ _ (Nat.lt_succ_self n) (by omega), a1, a2, a3] at q
  have e : u (n + 1) * w e * (-(bz u w e e + 1) / (2 * (u (n + 1) * w e))) = -(bz u w e e + 1) / 2 := by grind
  rw [e] at q
  grind
theorem psd_nought (n : Nat) (u : Nat → Rat) : PSD n u (fun _ => 0) := fun v => by
  rw [show qf n (bz u fun _ => 0) v = 0 from sm_zero fun i _ => sm_zero fun j _ => by
    have : ∀ j i, bz u (fun _ => 0) i j = 0 := by
      intro j
      induction j with
      | zero => intro i; simp only [bz]; grind
      | succ j ih => intro i; simp only [bz]; rw [ih]; grind
    rw [this]; grind]
  exact Rat.le_refl
end K66

set_option Elab.async false
set_option linter.all false
namespace K66
def ap (s : Nat → Rat) : List Rat → Nat → Rat
  | [], _ => 0
  | a :: l, m => a * s m + ap s l (m + 1)
def bi (s : Nat → Rat) : List Rat → List Rat → Nat → Rat
  | [], _, _ => 0
  | a :: l, l', m => a * ap s l' m + bi s l l' (m + 1)
theorem bi_nil (s : Nat → Rat) : ∀ (l : List Rat) (m : Nat), bi s l [] m = 0
  | [], _ => rfl
  | a :: l, m => by
    show a * 0 + bi s l [] (m + 1) = 0
    rw [bi_nil s l]; grind
theorem bi_consr (s : Nat → Rat) : ∀ (l : List Rat) (b : Rat) (l' : List Rat) (m : Nat), bi s l (b :: l') m = b * ap s l m + bi s l l' (m + 1)
  | [], b, l', m => by show (0 : Rat) = b * 0 + 0; grind
  | a :: l, b, l', m => by
    show a * (b * s m + ap s l' (m + 1)) + bi s l (b :: l') (m + 1) = b * (a * s m + ap s l (m + 1)) + (a * ap s l' (m + 1) + bi s l l' (m + 1 + 1))
    rw [bi_consr s l b l' (m + 1)]; grind
theorem bi_killed {s : Nat → Rat} {P : List Rat} (h : ∀ m, ap s P m = 0) : ∀ (l : List Rat) (m : Nat), bi s l P m = 0
  | [], _ => rfl
  | a :: l, m => by
    show a * ap s P m + bi s l P (m + 1) = 0
    rw [h, bi_killed h l]; grind
def en (P : List Rat) (k : Nat) : Rat := P.getD k 0
theorem drop_step (P : List Rat) (k : Nat) : (P.drop k = [] ∧ P.drop (k + 1) = [] ∧ en P k = 0) ∨ P.drop k = en P k :: P.drop (k + 1) := by
  rcases Nat.lt_or_ge k P.length with h | h
  · right
    rw [List.drop_eq_getElem_cons h]
    unfold en
    rw [List.getD_eq_getElem?_getD, List.getElem?_eq_getElem h]; rfl
  · left
    refine ⟨List.drop_of_length_le h, List.drop_of_length_le (by omega), ?_⟩
    unfold en
    rw [List.getD_eq_getElem?_getD, List.getElem?_eq_none h]; rfl
theorem ap_drop (s : Nat → Rat) (P : List Rat) (k m : Nat) : ap s (P.drop k) m = en P k * s m + ap s (P.drop (k + 1)) (m + 1) := by
  rcases drop_step P k with ⟨h1, h2, h3⟩ | h
  · rw [h1, h2, h3]; show (0 : Rat) = 0 * s m + 0; grind
  · rw [h]; rfl
theorem bi_dropl (s : Nat → Rat) (P l' : List Rat) (k m : Nat) : bi s (P.drop k) l' m = en P k * ap s l' m + bi s (P.drop (k + 1)) l' (m + 1) := by
  rcases drop_step P k with ⟨h1, h2, h3⟩ | h
  · rw [h1, h2, h3]; show (0 : Rat) = 0 * ap s l' m + 0; grind
  · rw [h]; rfl
theorem bi_dropr (s : Nat → Rat) (l P : List Rat) (k m : Nat) : bi s l (P.drop k) m = en P k * ap s l m + bi s l (P.drop (k + 1)) (m + 1) := by
  rcases drop_step P k with ⟨h1, h2, h3⟩ | h
  · rw [h1, h2, h3, bi_nil, bi_nil]; grind
  · rw [h, bi_consr]
def der (p : Nat → Rat) (i : Nat) : Rat := ((i + 1 : Nat) : Rat) * p (i + 1)
/-- the Bezout matrix of p and its slope, by sums of powers -/
theorem bi_bz {s : Nat → Rat} {P : List Rat} (h1 : ∀ i, ap s (P.drop (i + 1)) 0 = der (en P) i) (h2 : ∀ m, ap s P m = 0) :
    ∀ j i, bi s (P.drop (i + 1)) (P.drop (j + 1)) 0 = bz (en P) (der (en P)) i j := by
  intro j
  induction j with
  | zero =>
    intro i
    have e1 := bi_dropl s P (P.drop (0 + 1)) (i + 1) 0
    have e2 := bi_dropr s (P.drop (i + 1 + 1)) P 0 0
    have e3 : bi s (P.drop (i + 1 + 1)) (P.drop 0) 0 = 0 := bi_killed h2 _ _
    rw [e3] at e2
    have e4 := h1 (i + 1)
    have e5 := h1 0
    show _ = en P (i + 1) * der (en P) 0 - en P 0 * der (en P) (i + 1)
    grind
  | succ j ih =>
    intro i
    have e1 := bi_dropl s P (P.drop (j + 1 + 1)) (i + 1) 0
    have e2 := bi_dropr s (P.drop (i + 1 + 1)) P (j + 1) 0
    have e3 := ih (i + 1)
    have e4 := h1 (i + 1)
    have e5 := h1 (j + 1)
    show _ = en P (i + 1) * der (en P) (j + 1) - en P (j + 1) * der (en P) (i + 1) + bz (en P) (der (en P)) (i + 1) j
    grind
theorem ap_sm (s : Nat → Rat) : ∀ (l : List Rat) (n m : Nat), l.length ≤ n → ap s l m = sm n fun k => en l k * s (k + m)
  | [], n, m, _ => (sm_zero fun k _ => by show (0 : Rat) * s (k + m) = 0; grind).symm
  | a :: l, 0, m, h => by simp at h
  | a :: l, n + 1, m, h => by
    rw [sm_succ_left]
    show a * s m + ap s l (m + 1) = a * s (0 + m) + sm n fun k => en l k * s (k + 1 + m)
    rw [ap_sm s l n (m + 1) (by simp at h; omega), Nat.zero_add]
    rw [show (fun k => en l k * s (k + (m + 1))) = fun k => en l k * s (k + 1 + m) from funext fun k => by rw [show k + (m + 1) = k + 1 + m by omega]]
theorem bi_sm (s : Nat → Rat) (l' : List Rat) (n' : Nat) (h' : l'.length ≤ n') : ∀ (l : List Rat) (n m : Nat), l.length ≤ n → bi s l l' m = sm n fun k => sm n' fun q => en l k * en l' q * s (k + q + m)
  | [], n, m, _ => (sm_zero fun k _ => sm_zero fun q _ => by show (0 : Rat) * _ * _ = 0; grind).symm
  | a :: l, 0, m, h => by simp at h
  | a :: l, n + 1, m, h => by
    rw [sm_succ_left]
    show a * ap s l' m + bi s l l' (m + 1) = (sm n' fun q => a * en l' q * s (0 + q + m)) + sm n fun k => sm n' fun q => en l k * en l' q * s (k + 1 + q + m)
    rw [ap_sm s l' n' m h', bi_sm s l' n' h' l n (m + 1) (by simp at h; omega), ← sm_mul]
    rw [show (fun q => a * (en l' q * s (q + m))) = fun q => a * en l' q * s (0 + q + m) from funext fun q => by rw [Nat.zero_add]; grind]
    rw [show (fun k => sm n' fun q => en l k * en l' q * s (k + q + (m + 1))) = fun k => sm n' fun q => en l k * en l' q * s (k + 1 + q + m) from funext fun k => sm_congr fun q _ => by rw [show k + q + (m + 1) = k + 1 + q + m by omega]]
theorem en_drop (P : List Rat) (i k : Nat) : en (P.drop i) k = en P (i + k) := by
  unfold en
  rw [List.getD_eq_getElem?_getD, List.getD_eq_getElem?_getD, List.getElem?_drop]
/-- a form under a change of the unknowns -/
theorem qf_sub (n : Nat) (A S : Nat → Nat → Rat) (v : Nat → Rat) : qf n (fun i j => sm n fun k => sm n fun l => A i k * A j l * S k l) v = qf n S fun k => sm n fun i => A i k * v i := by
  have e1 : qf n (fun i j => sm n fun k => sm n fun l => A i k * A j l * S k l) v = sm n fun i => sm n fun j => sm n fun k => sm n fun l => A i k * A j l * S k l * v i * v j := by
    refine sm_congr fun i _ => sm_congr fun j _ => ?_
    rw [← sm_mulr, ← sm_mulr]
    refine sm_congr fun k _ => ?_
    rw [← sm_mulr, ← sm_mulr]
  have e2 : qf n S (fun k => sm n fun i => A i k * v i) = sm n fun k => sm n fun l => sm n fun i => sm n fun j => A i k * A j l * S k l * v i * v j := by
    refine sm_congr fun k _ => sm_congr fun l _ => ?_
    show S k l * (sm n fun i => A i k * v i) * (sm n fun j => A j l * v j) = _
    rw [show S k l * (sm n fun i => A i k * v i) * (sm n fun j => A j l * v j) = (sm n fun i => A i k * v i) * (S k l * (sm n fun j => A j l * v j)) by grind, ← sm_mulr]
    refine sm_congr fun i _ => ?_
    rw [← Rat.mul_assoc, ← sm_mul]
    exact sm_congr fun j _ => by grind
  rw [e1, e2]
  -- i j k l to k l i j
  rw [show (fun i => sm n fun j => sm n fun k => sm n fun l => A i k * A j l * S k l * v i * v j) = fun i => sm n fun k => sm n fun j => sm n fun l => A i k * A j l * S k l * v i * v j from funext fun i => sm_swap n n _]
  rw [sm_swap]
  refine sm_congr fun k _ => ?_
  rw [show (fun i => sm n fun j => sm n fun l => A i k * A j l * S k l * v i * v j) = fun i => sm n fun l => sm n fun j => A i k * A j l * S k l * v i * v j from funext fun i => sm_swap n n _]
  rw [sm_swap]
/-- the unknowns can be found -/
theorem tri_solve {p : Nat → Rat} {N : Nat} (hp : ∀ k, N < k → p k = 0) (hN : p N ≠ 0) (c : Nat → Rat) : ∃ v : Nat → Rat, ∀ k, k < N → (sm N fun i => p (i + 1 + k) * v i) = c k := by
  have main : ∀ n, n ≤ N → ∃ v : Nat → Rat, ∀ i, i < n → (sm (i + 1) fun t => p (t + N - i) * v t) = c (N - 1 - i) := by
    intro n
    induction n with
    | zero => intro _; exact ⟨fun _ => 0, fun i hi => by omega⟩
    | succ n ih =>
      intro hn
      obtain ⟨v, hv⟩ := ih (by omega)
      refine ⟨fun t => if t = n then (c (N - 1 - n) - sm n fun t => p (t + N - n) * v t) / p N else v t, fun i hi => ?_⟩
      by_cases hin : i = n
      · subst hin
        show (sm i fun t => p (t + N - i) * (if t = i then _ else v t)) + p (i + N - i) * (if i = i then _ else v i) = _
        rw [sm_congr (g := fun t => p (t + N - i) * v t) fun t ht => by rw [if_neg (by omega)], if_pos rfl, show i + N - i = N by omega]
        grind
      · rw [← hv i (by omega)]
        exact sm_congr fun t ht => by dsimp only; rw [if_neg (by omega : ¬ t = n)]
  obtain ⟨v, hv⟩ := main N (Nat.le_refl N)
  refine ⟨v, fun k hk => ?_⟩
  have e := hv (N - 1 - k) (by omega)
  rw [show N - 1 - (N - 1 - k) = k by omega] at e
  rw [← e]
  have cut : ∀ m, N - k ≤ m → (sm m fun i => p (i + 1 + k) * v i) = sm (N - k) fun i => p (i + 1 + k) * v i := by
    intro m
    induction m with
    | zero => intro h; rw [show N - k = 0 by omega]
    | succ m ih =>
      intro h
      by_cases q : N - k = m + 1
      · rw [q]
      · show (sm m fun i => p (i + 1 + k) * v i) + p (m + 1 + k) * v m = _
        rw [ih (by omega), hp (m + 1 + k) (by omega)]; grind
  rw [cut N (by omega), show N - 1 - k + 1 = N - k by omega]
  exact sm_congr fun t ht => by rw [show t + N - (N - 1 - k) = t + 1 + k by omega]
def HPS (N : Nat) (s : Nat → Rat) : Prop := ∀ c : Nat → Rat, 0 ≤ qf N (fun i j => s (i + j)) c
theorem hps_psd {s : Nat → Rat} {P : List Rat} {N : Nat} (hl : P.length = N + 1) (hN : en P N ≠ 0) (h1 : ∀ i, ap s (P.drop (i + 1)) 0 = der (en P) i) (h2 : ∀ m, ap s P m = 0) :
    HPS N s ↔ PSD N (en P) (der (en P)) := by
  have key : ∀ v, qf N (bz (en P) (der (en P))) v = qf N (fun i j => s (i + j)) fun k => sm N fun i => en P (i + 1 + k) * v i := fun v => by
    rw [← qf_sub N (fun i k => en P (i + 1 + k)) (fun i j => s (i + j)) v]
    refine qf_congr (fun i j hi hj => ?_) fun _ _ => rfl
    rw [← bi_bz h1 h2 j i, bi_sm s (P.drop (j + 1)) N (by rw [List.length_drop]; omega) (P.drop (i + 1)) N 0 (by rw [List.length_drop]; omega)]
    exact sm_congr fun k _ => sm_congr fun l _ => by rw [en_drop, en_drop]; rfl
  constructor
  · intro h v
    rw [key]
    exact h _
  · intro h c
    obtain ⟨v, hv⟩ := tri_solve (p := en P) (N := N) (fun k hk => by unfold en; rw [List.getD_eq_getElem?_getD, List.getElem?_eq_none (by omega)]; rfl) hN c
    have e := h v
    rw [key, qf_congr (v' := c) (fun _ _ _ _ => rfl) hv] at e
    exact e
end K66

set_option Elab.async false
set_option linter.all false
namespace K66
def smi : Nat → (Nat → Int) → Int
  | 0, _ => 0
  | n + 1, f => smi n f + f n
theorem smi_cast (n : Nat) (f : Nat → Int) : ((smi n f : Int) : Rat) = sm n fun i => (f i : Rat) := by
  induction n with
  | zero => rfl
  | succ n ih =>
    show ((smi n f + f n : Int) : Rat) = sm n (fun i => (f i : Rat)) + (f n : Rat)
    rw [← ih, Rat.intCast_add]
theorem smi_congr {n : Nat} {f g : Nat → Int} (h : ∀ i, i < n → f i = g i) : smi n f = smi n g := by
  induction n with
  | zero => rfl
  | succ n ih =>
    show smi n f + f n = smi n g + g n
    rw [ih fun i hi => h i (by omega), h n (by omega)]
def Sl (c : Nat → Int) (N : Nat) : Nat → Nat → Int
  | 0 => fun _ => (N : Int)
  | n + 1 => fun k => if k ≤ n then Sl c N n k else
      0 - ((if n + 1 ≤ N then ((n + 1 : Nat) : Int) * c (N - (n + 1)) * c N ^ n else 0) + smi (min n N) fun b => c (N - (b + 1)) * c N ^ b * Sl c N n (n + 1 - (b + 1)))
/-- the sum of powers k, times as many leading numbers -/
def Sx (c : Nat → Int) (N k : Nat) : Int := Sl c N k k
theorem Sl_eq (c : Nat → Int) (N : Nat) : ∀ n k, k ≤ n → Sl c N n k = Sx c N k := by
  intro n
  induction n with
  | zero =>
    intro k hk
    obtain rfl : k = 0 := by omega
    rfl
  | succ n ih =>
    intro k hk
    by_cases h : k ≤ n
    · show (if k ≤ n then Sl c N n k else _) = _
      rw [if_pos h, ih k h]
    · obtain rfl : k = n + 1 := by omega
      rfl
theorem Sx_zero (c : Nat → Int) (N : Nat) : Sx c N 0 = N := rfl
theorem Sx_succ (c : Nat → Int) (N n : Nat) : Sx c N (n + 1) = 0 - ((if n + 1 ≤ N then ((n + 1 : Nat) : Int) * c (N - (n + 1)) * c N ^ n else 0) + smi (min n N) fun b => c (N - (b + 1)) * c N ^ b * Sx c N (n + 1 - (b + 1))) := by
  show (if n + 1 ≤ n then Sl c N n (n + 1) else _) = _
  rw [if_neg (by omega)]
  rw [smi_congr (g := fun b => c (N - (b + 1)) * c N ^ b * Sx c N (n + 1 - (b + 1))) fun b _ => by rw [Sl_eq c N n _ (by omega)]]

theorem sm_rev (n : Nat) (f : Nat → Rat) : sm n f = sm n fun i => f (n - 1 - i) := by
  induction n with
  | zero => rfl
  | succ n ih =>
    rw [sm_succ_left (f := fun i => f (n + 1 - 1 - i))]
    show sm n f + f n = f (n + 1 - 1 - 0) + sm n fun i => f (n + 1 - 1 - (i + 1))
    rw [ih, show n + 1 - 1 - 0 = n by omega, Rat.add_comm]
    rw [show (fun i => f (n + 1 - 1 - (i + 1))) = fun i => f (n - 1 - i) from funext fun i => by rw [show n + 1 - 1 - (i + 1) = n - 1 - i by omega]]

def sq (c : Nat → Int) (N k : Nat) : Rat := (Sx c N k : Rat) / (c N : Rat) ^ k
theorem pow_ne {x : Rat} (h : x ≠ 0) : ∀ n : Nat, x ^ n ≠ 0
  | 0 => by rw [Rat.pow_zero]; decide
  | n + 1 => by
    rw [Rat.pow_succ]
    intro e
    rcases Rat.mul_eq_zero.mp e with e | e
    · exact pow_ne h n e
    · exact h e
theorem pow_add' (x : Rat) (a : Nat) : ∀ b : Nat, x ^ (a + b) = x ^ a * x ^ b
  | 0 => by rw [Nat.add_zero, Rat.pow_zero]; grind
  | b + 1 => by rw [show a + (b + 1) = a + b + 1 by omega, Rat.pow_succ, Rat.pow_succ, pow_add' x a b]; grind
theorem sq_zero (c : Nat → Int) (N : Nat) : sq c N 0 = (N : Rat) := by
  unfold sq
  rw [Sx_zero, Rat.pow_zero]
  show ((N : Int) : Rat) / 1 = (N : Rat)
  rw [Rat.div_def]
  have : ((N : Int) : Rat) = (N : Rat) := rfl
  rw [this]; grind
/-- Newton's step, in fractions -/
theorem sq_step {c : Nat → Int} {N : Nat} (h : c N ≠ 0) (n : Nat) :
    (c N : Rat) * sq c N (n + 1) + (sm (min n N) fun b => (c (N - (b + 1)) : Rat) * sq c N (n - b)) + (if n + 1 ≤ N then ((n + 1 : Nat) : Rat) * (c (N - (n + 1)) : Rat) else 0) = 0 := by
  have hq : (c N : Rat) ≠ 0 := fun e => h (by exact_mod_cast e)
  have hp := pow_ne hq n
  have e1 : (c N : Rat) * sq c N (n + 1) = (Sx c N (n + 1) : Rat) / (c N : Rat) ^ n := by
    unfold sq
    rw [Rat.pow_succ]
    grind
  have e2 : (sm (min n N) fun b => (c (N - (b + 1)) : Rat) * sq c N (n - b)) = (sm (min n N) fun b => (c (N - (b + 1)) : Rat) * (c N : Rat) ^ b * (Sx c N (n + 1 - (b + 1)) : Rat)) / (c N : Rat) ^ n := by
    rw [Rat.div_def, ← sm_mulr]
    refine sm_congr fun b hb => ?_
    unfold sq
    rw [show n + 1 - (b + 1) = n - b by omega]
    have e3 : (c N : Rat) ^ n = (c N : Rat) ^ b * (c N : Rat) ^ (n - b) := by rw [← pow_add', show b + (n - b) = n by omega]
    rw [e3]
    have := pow_ne hq b
    have := pow_ne hq (n - b)
    rw [Rat.div_def]
    grind
  rw [e1, e2, Sx_succ]
  rw [Rat.intCast_sub, Rat.intCast_add, smi_cast]
  rw [show (fun i => ((c (N - (i + 1)) * c N ^ i * Sx c N (n + 1 - (i + 1)) : Int) : Rat)) = fun b => (c (N - (b + 1)) : Rat) * (c N : Rat) ^ b * (Sx c N (n + 1 - (b + 1)) : Rat) from funext fun i => by rw [Rat.intCast_mul, Rat.intCast_mul, Rat.intCast_pow]]
  generalize (sm (min n N) fun b => (c (N - (b + 1)) : Rat) * (c N : Rat) ^ b * (Sx c N (n + 1 - (b + 1)) : Rat)) = Y
  by_cases hn : n + 1 ≤ N
  · rw [if_pos hn, if_pos hn, Rat.intCast_mul, Rat.intCast_mul, Rat.intCast_pow]
    have : (((n + 1 : Nat) : Int) : Rat) = ((n + 1 : Nat) : Rat) := rfl
    rw [this]
    have : ((0 : Int) : Rat) = 0 := rfl
    rw [this]
    grind
  · rw [if_neg hn, if_neg hn]
    have : ((0 : Int) : Rat) = 0 := rfl
    rw [this]
    grind
section
variable {c : Nat → Int} {N : Nat} {P : List Rat}
/-- the two facts of Newton's steps -/
theorem newton1 (h : c N ≠ 0) (hl : P.length = N + 1) (hP : ∀ k, k ≤ N → en P k = (c k : Rat)) (j : Nat) (hj : j ≤ N) : (sm (j + 1) fun k => en P (N - j + k) * sq c N k) = ((N - j : Nat) : Rat) * en P (N - j) := by
  cases j with
  | zero =>
    show (0 : Rat) + en P (N - 0 + 0) * sq c N 0 = _
    rw [sq_zero, show N - 0 + 0 = N by omega, Nat.sub_zero]; grind
  | succ n =>
    have e := sq_step h n
    rw [if_pos hj, show min n N = n by omega] at e
    rw [sm_succ_left, sq_zero]
    show _ + ((sm n fun k => en P (N - (n + 1) + (k + 1)) * sq c N (k + 1)) + en P (N - (n + 1) + (n + 1)) * sq c N (n + 1)) = _
    rw [sm_rev n]
    rw [sm_congr (g := fun b => (c (N - (b + 1)) : Rat) * sq c N (n - b)) fun b hb => by rw [hP _ (by omega), show N - (n + 1) + (n - 1 - b + 1) = N - (b + 1) by omega, show n - 1 - b + 1 = n - b by omega]]
    rw [show N - (n + 1) + (n + 1) = N by omega, show N - (n + 1) + 0 = N - (n + 1) by omega, hP N (Nat.le_refl N), hP (N - (n + 1)) (by omega)]
    have e5 : ((N - (n + 1) : Nat) : Rat) = (N : Rat) - ((n + 1 : Nat) : Rat) := by
      have q : (N : Rat) = ((N - (n + 1) + (n + 1) : Nat) : Rat) := by rw [show N - (n + 1) + (n + 1) = N by omega]
      rw [q, Rat.natCast_add]; grind
    rw [e5]
    grind
theorem newton2 (h : c N ≠ 0) (hl : P.length = N + 1) (hP : ∀ k, k ≤ N → en P k = (c k : Rat)) (m : Nat) : (sm (N + 1) fun k => en P k * sq c N (k + m)) = 0 := by
  cases m with
  | zero =>
    have e := newton1 h hl hP N (Nat.le_refl N)
    rw [Nat.sub_self] at e
    rw [sm_congr (g := fun k => en P (0 + k) * sq c N k) fun k _ => by rw [Nat.zero_add]; rfl, e]
    show ((0 : Nat) : Rat) * _ = 0
    have : ((0 : Nat) : Rat) = 0 := rfl
    rw [this]; grind
  | succ m =>
    have e := sq_step h (N + m)
    rw [if_neg (by omega), show min (N + m) N = N by omega] at e
    show (sm N fun k => en P k * sq c N (k + (m + 1))) + en P N * sq c N (N + (m + 1)) = 0
    rw [sm_rev N]
    rw [sm_congr (g := fun b => (c (N - (b + 1)) : Rat) * sq c N (N + m - b)) fun b hb => by rw [hP _ (by omega), show N - 1 - b = N - (b + 1) by omega, show N - (b + 1) + (m + 1) = N + m - b by omega]]
    rw [hP N (Nat.le_refl N), show N + (m + 1) = N + m + 1 by omega]
    grind
/-- the table of INTEGERS tells whether the Bezout form is at least 0 -/
theorem table_psd (h : c N ≠ 0) (hl : P.length = N + 1) (hP : ∀ k, k ≤ N → en P k = (c k : Rat)) :
    (∀ v : Nat → Rat, 0 ≤ qf N (fun i j => (Sx c N (i + j) : Rat)) v) ↔ PSD N (en P) (der (en P)) := by
  have hq : (c N : Rat) ≠ 0 := fun e => h (by exact_mod_cast e)
  have hN : en P N ≠ 0 := by rw [hP N (Nat.le_refl N)]; exact hq
  have big : ∀ k, N < k → en P k = 0 := fun k hk => by unfold en; rw [List.getD_eq_getElem?_getD, List.getElem?_eq_none (by omega)]; rfl
  have h1 : ∀ i, ap (sq c N) (P.drop (i + 1)) 0 = der (en P) i := fun i => by
    rcases Nat.lt_or_ge i N with hi | hi
    · rw [ap_sm (sq c N) (P.drop (i + 1)) (N - 1 - i + 1) 0 (by rw [List.length_drop]; omega)]
      rw [sm_congr (g := fun k => en P (N - (N - 1 - i) + k) * sq c N k) fun k _ => by rw [en_drop, show N - (N - 1 - i) = i + 1 by omega]; rfl]
      rw [newton1 h hl hP _ (by omega), show N - (N - 1 - i) = i + 1 by omega]; rfl
    · rw [List.drop_of_length_le (by omega)]
      show (0 : Rat) = ((i + 1 : Nat) : Rat) * en P (i + 1)
      rw [big _ (by omega)]; grind
  have h2 : ∀ m, ap (sq c N) P m = 0 := fun m => by
    rw [ap_sm (sq c N) P (N + 1) m (by omega)]
    exact newton2 h hl hP m
  rw [← hps_psd hl hN h1 h2]
  have key : ∀ v : Nat → Rat, qf N (fun i j => (Sx c N (i + j) : Rat)) v = qf N (fun i j => sq c N (i + j)) fun i => (c N : Rat) ^ i * v i := fun v => by
    refine sm_congr fun i _ => sm_congr fun j _ => ?_
    have hp := pow_ne hq (i + j)
    show _ = sq c N (i + j) * ((c N : Rat) ^ i * v i) * ((c N : Rat) ^ j * v j)
    unfold sq
    rw [show ((Sx c N (i + j) : Rat) / (c N : Rat) ^ (i + j)) * ((c N : Rat) ^ i * v i) * ((c N : Rat) ^ j * v j) = ((Sx c N (i + j) : Rat) / (c N : Rat) ^ (i + j)) * ((c N : Rat) ^ i * (c N : Rat) ^ j) * v i * v j by grind, ← pow_add']
    grind
  constructor
  · intro hh v
    have e := hh fun i => v i / (c N : Rat) ^ i
    rw [key] at e
    rw [show (fun i => (c N : Rat) ^ i * (v i / (c N : Rat) ^ i)) = v from funext fun i => by have := pow_ne hq i; grind] at e
    exact e
  · intro hh v
    rw [key]
    exact hh _
end
end K66

set_option Elab.async false
set_option linter.all false
namespace K66
def alt (g : Nat → List Nat → Rat) : List Nat → Rat
  | [] => 0
  | c :: cs => g c cs - alt (fun c' cs' => g c' (c :: cs')) cs
abbrev Rw := Nat → Rat
def dt : List Rw → List Nat → Rat
  | [], _ => 1
  | r :: rs, cs => alt (fun c rest => r c * dt rs rest) cs

theorem alt_congr : ∀ {cs : List Nat} {g g' : Nat → List Nat → Rat}, (∀ c rest, c ∈ cs → (∀ x ∈ rest, x ∈ cs) → rest.length + 1 = cs.length → g c rest = g' c rest) → alt g cs = alt g' cs
  | [], _, _, _ => rfl
  | c :: cs, g, g', h => by
    show g c cs - alt (fun c' cs' => g c' (c :: cs')) cs = g' c cs - alt (fun c' cs' => g' c' (c :: cs')) cs
    rw [h c cs (List.mem_cons_self ..) (fun x hx => List.mem_cons_of_mem _ hx) rfl]
    rw [alt_congr (cs := cs) (g := fun c' cs' => g c' (c :: cs')) (g' := fun c' cs' => g' c' (c :: cs')) fun c' rest hc hr hl => h c' (c :: rest) (List.mem_cons_of_mem _ hc) (fun x hx => by
      rcases List.mem_cons.mp hx with e | hx
      · rw [e]; exact List.mem_cons_self ..
      · exact List.mem_cons_of_mem _ (hr x hx)) (by rw [List.length_cons, List.length_cons, hl])]
theorem alt_lin (a b : Rat) : ∀ (cs : List Nat) (g g' : Nat → List Nat → Rat), alt (fun c rest => a * g c rest + b * g' c rest) cs = a * alt g cs + b * alt g' cs
  | [], _, _ => by show (0 : Rat) = a * 0 + b * 0; grind
  | c :: cs, g, g' => by
    have e := alt_lin a b cs (fun c' cs' => g c' (c :: cs')) (fun c' cs' => g' c' (c :: cs'))
    show a * g c cs + b * g' c cs - alt (fun c' cs' => a * g c' (c :: cs') + b * g' c' (c :: cs')) cs = a * (g c cs - alt (fun c' cs' => g c' (c :: cs')) cs) + b * (g' c cs - alt (fun c' cs' => g' c' (c :: cs')) cs)
    rw [e]; grind
theorem alt_mul (a : Rat) (cs : List Nat) (g : Nat → List Nat → Rat) : alt (fun c rest => a * g c rest) cs = a * alt g cs := by
  have e := alt_lin a 0 cs g g
  rw [show (fun c rest => a * g c rest + 0 * g c rest) = fun c rest => a * g c rest from funext fun c => funext fun r => by grind] at e
  rw [e]; grind
theorem alt_zero {cs : List Nat} {g : Nat → List Nat → Rat} (h : ∀ c rest, c ∈ cs → (∀ x ∈ rest, x ∈ cs) → rest.length + 1 = cs.length → g c rest = 0) : alt g cs = 0 := by
  rw [alt_congr (g' := fun c rest => 0 * g c rest) fun c rest h1 h2 h3 => by rw [h c rest h1 h2 h3]; grind, alt_mul]; grind
theorem alt_add (cs : List Nat) (g g' : Nat → List Nat → Rat) : alt (fun c rest => g c rest + g' c rest) cs = alt g cs + alt g' cs := by
  have e := alt_lin 1 1 cs g g'
  rw [show (fun c rest => 1 * g c rest + 1 * g' c rest) = fun c rest => g c rest + g' c rest from funext fun c => funext fun r => by grind] at e
  rw [e]; grind
def alt2 (F : Nat → Nat → List Nat → Rat) (cs : List Nat) : Rat := alt (fun c rest => alt (fun c' rest' => F c c' rest') rest) cs
theorem alt2_swap : ∀ (cs : List Nat) (F : Nat → Nat → List Nat → Rat), alt2 F cs = - alt2 (fun c c' r => F c' c r) cs
  | [], _ => by show (0 : Rat) = -0; grind
  | c :: cs, F => by
    have ih := alt2_swap cs fun a b r => F a b (c :: r)
    have e1 : alt2 F (c :: cs) = alt (fun c' r => F c c' r) cs - (alt (fun c1 r => F c1 c r) cs - alt2 (fun a b r => F a b (c :: r)) cs) := by
      show alt (fun c' r => F c c' r) cs - alt (fun c1 r1 => F c1 c r1 - alt (fun c' r' => F c1 c' (c :: r')) r1) cs = _
      have e := alt_lin 1 (-1) cs (fun c1 r1 => F c1 c r1) (fun c1 r1 => alt (fun c' r' => F c1 c' (c :: r')) r1)
      rw [show (fun c1 r1 => F c1 c r1 - alt (fun c' r' => F c1 c' (c :: r')) r1) = fun c1 r1 => 1 * F c1 c r1 + (-1) * alt (fun c' r' => F c1 c' (c :: r')) r1 from funext fun a => funext fun r => by grind, e]
      show _ = alt (fun c' r => F c c' r) cs - (alt (fun c1 r => F c1 c r) cs - alt (fun c1 r1 => alt (fun c' r' => F c1 c' (c :: r')) r1) cs)
      grind
    have e2 : alt2 (fun a b r => F b a r) (c :: cs) = alt (fun c' r => F c' c r) cs - (alt (fun c1 r => F c c1 r) cs - alt2 (fun a b r => F b a (c :: r)) cs) := by
      show alt (fun c' r => F c' c r) cs - alt (fun c1 r1 => F c c1 r1 - alt (fun c' r' => F c' c1 (c :: r')) r1) cs = _
      have e := alt_lin 1 (-1) cs (fun c1 r1 => F c c1 r1) (fun c1 r1 => alt (fun c' r' => F c' c1 (c :: r')) r1)
      rw [show (fun c1 r1 => F c c1 r1 - alt (fun c' r' => F c' c1 (c :: r')) r1) = fun c1 r1 => 1 * F c c1 r1 + (-1) * alt (fun c' r' => F c' c1 (c :: r')) r1 from funext fun a => funext fun r => by grind, e]
      show _ = alt (fun c' r => F c' c r) cs - (alt (fun c1 r => F c c1 r) cs - alt (fun c1 r1 => alt (fun c' r' => F c' c1 (c :: r')) r1) cs)
      grind
    rw [e1, e2]
    grind
theorem dt2 (r1 r2 : Rw) (rs : List Rw) (cs : List Nat) : dt (r1 :: r2 :: rs) cs = alt2 (fun c c' r => r1 c * (r2 c' * dt rs r)) cs := by
  show alt (fun c rest => r1 c * alt (fun c' rest' => r2 c' * dt rs rest') rest) cs = alt (fun c rest => alt (fun c' r => r1 c * (r2 c' * dt rs r)) rest) cs
  exact alt_congr fun c rest _ _ _ => (alt_mul (r1 c) rest _).symm
theorem dt_swap (r1 r2 : Rw) (rs : List Rw) (cs : List Nat) : dt (r1 :: r2 :: rs) cs = - dt (r2 :: r1 :: rs) cs := by
  rw [dt2, dt2, alt2_swap]
  rw [show (fun c c' r => (fun c c' r => r1 c * (r2 c' * dt rs r)) c' c r) = fun c c' r => r2 c * (r1 c' * dt rs r) from funext fun a => funext fun b => funext fun r => by grind]
theorem dt_dup : ∀ (rs : List Rw) (r : Rw) (cs : List Nat), r ∈ rs → dt (r :: rs) cs = 0
  | [], _, _, h => by cases h
  | r' :: rs, r, cs, h => by
    rcases List.mem_cons.mp h with e | h
    · subst e
      have := dt_swap r r rs cs
      grind
    · rw [dt_swap]
      have : dt (r' :: r :: rs) cs = 0 := alt_zero fun c rest _ _ _ => by rw [dt_dup rs r rest h]; grind
      grind
theorem dt_lastdup : ∀ (rs : List Rw) (r : Rw) (cs : List Nat), r ∈ rs → dt (rs ++ [r]) cs = 0
  | [], _, _, h => by cases h
  | r' :: rs, r, cs, h => by
    rcases List.mem_cons.mp h with e | h
    · subst e
      exact dt_dup (rs ++ [r]) r cs (by simp)
    · exact alt_zero fun c rest _ _ _ => by
        show r' c * dt (rs ++ [r]) rest = 0
        rw [dt_lastdup rs r rest h]; grind
theorem dt_lastlin (a b : Rat) (e e' : Rw) : ∀ (rs : List Rw) (cs : List Nat), dt (rs ++ [fun c => a * e c + b * e' c]) cs = a * dt (rs ++ [e]) cs + b * dt (rs ++ [e']) cs
  | [], cs => by
    show alt (fun c rest => (a * e c + b * e' c) * 1) cs = a * alt (fun c rest => e c * 1) cs + b * alt (fun c rest => e' c * 1) cs
    rw [← alt_lin]
    exact alt_congr fun c rest _ _ _ => by grind
  | r :: rs, cs => by
    show alt (fun c rest => r c * dt (rs ++ [fun c => a * e c + b * e' c]) rest) cs = a * alt (fun c rest => r c * dt (rs ++ [e]) rest) cs + b * alt (fun c rest => r c * dt (rs ++ [e']) rest) cs
    rw [← alt_lin]
    exact alt_congr fun c rest _ _ _ => by rw [dt_lastlin a b e e' rs rest]; grind
/-- sums of rows, each so many times -/
inductive Comb (rs : List Rw) : Rw → Prop where
  | nil : Comb rs fun _ => 0
  | add {f r : Rw} (h : Comb rs f) (hr : r ∈ rs) (y : Rat) : Comb rs fun c => f c + y * r c
theorem Comb.mono {rs rs' : List Rw} {f : Rw} (h : Comb rs f) (hs : ∀ r ∈ rs, r ∈ rs') : Comb rs' f := by
  induction h with
  | nil => exact .nil
  | add h hr y ih => exact ih.add (hs _ hr) y
theorem Comb.lin {rs : List Rw} {f g : Rw} (a : Rat) (hf : Comb rs f) (hg : Comb rs g) : Comb rs fun c => f c + a * g c := by
  induction hg with
  | nil =>
    rw [show (fun c => f c + a * 0) = f from funext fun c => by grind]
    exact hf
  | @add g r h hr y ih =>
    have := ih.add hr (a * y)
    rw [show (fun c => f c + a * (g c + y * r c)) = fun c => f c + a * g c + a * y * r c from funext fun c => by grind]
    exact this
theorem Comb.one {rs : List Rw} {r : Rw} (hr : r ∈ rs) (y : Rat) : Comb rs fun c => y * r c := by
  have := (Comb.nil (rs := rs)).add hr y
  rw [show (fun c => y * r c) = fun c => (0 : Rat) + y * r c from funext fun c => by grind]
  exact this
theorem dt_comb {rs : List Rw} {e f : Rw} (h : Comb rs f) (cs : List Nat) : dt (rs ++ [fun c => e c + f c]) cs = dt (rs ++ [e]) cs := by
  induction h with
  | nil => rw [show (fun c => e c + 0) = e from funext fun c => by grind]
  | @add f r h hr y ih =>
    have q := dt_lastlin 1 y (fun c => e c + f c) r rs cs
    rw [dt_lastdup rs r cs hr, ih] at q
    rw [show (fun c => e c + (f c + y * r c)) = fun c => 1 * (fun c => e c + f c) c + y * r c from funext fun c => by grind, q]
    grind
theorem alt_app (j : Nat) : ∀ (cs : List Nat) (g : Nat → List Nat → Rat), (g j cs = 0) → alt g (cs ++ [j]) = alt (fun c rest => g c (rest ++ [j])) cs + 0
  | [], g, h => by
    show g j [] - 0 = 0 + 0
    rw [h]; grind
  | c :: cs, g, h => by
    have := alt_app j cs (fun c' cs' => g c' (c :: cs')) h
    show g c (cs ++ [j]) - alt (fun c' cs' => g c' (c :: cs')) (cs ++ [j]) = g c (cs ++ [j]) - alt (fun c' cs' => g c' (c :: cs' ++ [j])) cs + 0
    rw [this]
    rw [show (fun c' rest => g c' (c :: (rest ++ [j]))) = fun c' cs' => g c' (c :: cs' ++ [j]) from rfl]
    grind
theorem dt_zero_last (e : Rw) : ∀ (rs : List Rw) (cs : List Nat), (∀ c ∈ cs, e c = 0) → dt (rs ++ [e]) cs = 0
  | [], cs, h => alt_zero fun c rest hc _ _ => by rw [h c hc]; grind
  | r :: rs, cs, h => alt_zero fun c rest _ hr _ => by
    show r c * dt (rs ++ [e]) rest = 0
    rw [dt_zero_last e rs rest fun x hx => h x (hr x hx)]; grind
theorem dt_last (e : Rw) (j : Nat) : ∀ (rs : List Rw) (cs : List Nat), rs.length = cs.length → (∀ c ∈ cs, e c = 0) → dt (rs ++ [e]) (cs ++ [j]) = dt rs cs * e j
  | [], [], _, _ => by
    show e j * 1 - 0 = 1 * e j
    grind
  | [], c :: cs, h, _ => by simp at h
  | r :: rs, cs, h, hz => by
    show alt (fun c rest => r c * dt (rs ++ [e]) rest) (cs ++ [j]) = alt (fun c rest => r c * dt rs rest) cs * e j
    rw [alt_app j cs _ (by show r j * dt (rs ++ [e]) cs = 0; rw [dt_zero_last e rs cs hz]; grind)]
    rw [alt_congr (g' := fun c rest => e j * (r c * dt rs rest)) fun c rest _ hr hl => by
      show r c * dt (rs ++ [e]) (rest ++ [j]) = e j * (r c * dt rs rest)
      rw [dt_last e j rs rest (by simp at h; omega) fun x hx => hz x (hr x hx)]; grind]
    rw [alt_mul]; grind
theorem dt_congr : ∀ {rs rs' : List Rw} {cs : List Nat}, rs.length = rs'.length → (∀ (k : Nat) (r r' : Rw), rs[k]? = some r → rs'[k]? = some r' → ∀ c ∈ cs, r c = r' c) → dt rs cs = dt rs' cs
  | [], [], _, _, _ => rfl
  | [], _ :: _, _, h, _ => by simp at h
  | _ :: _, [], _, h, _ => by simp at h
  | r :: rs, r' :: rs', cs, h, hk => alt_congr fun c rest hc hr _ => by
    rw [hk 0 r r' rfl rfl c hc, dt_congr (rs := rs) (rs' := rs') (cs := rest) (by simpa using h) fun k a b h1 h2 x hx => hk (k + 1) a b (by simpa using h1) (by simpa using h2) x (hr x hx)]
def IsI (x : Rat) : Prop := ∃ z : Int, x = (z : Rat)
theorem IsI.mul {x y : Rat} : IsI x → IsI y → IsI (x * y) := fun ⟨a, ha⟩ ⟨b, hb⟩ => ⟨a * b, by rw [ha, hb, Rat.intCast_mul]⟩
theorem IsI.sub {x y : Rat} : IsI x → IsI y → IsI (x - y) := fun ⟨a, ha⟩ ⟨b, hb⟩ => ⟨a - b, by rw [ha, hb, Rat.intCast_sub]⟩
theorem alt_int : ∀ (cs : List Nat) (g : Nat → List Nat → Rat), (∀ c rest, IsI (g c rest)) → IsI (alt g cs)
  | [], _, _ => ⟨0, rfl⟩
  | c :: cs, g, h => (h c cs).sub (alt_int cs (fun c' cs' => g c' (c :: cs')) fun c' r => h c' (c :: r))
theorem dt_int : ∀ (rs : List Rw) (cs : List Nat), (∀ r ∈ rs, ∀ c, IsI (r c)) → IsI (dt rs cs)
  | [], _, _ => ⟨1, rfl⟩
  | r :: rs, cs, h => alt_int cs _ fun c rest => (h r (List.mem_cons_self ..) c).mul (dt_int rs rest fun q hq => h q (List.mem_cons_of_mem _ hq))
def Bd (x b : Rat) : Prop := -b ≤ x ∧ x ≤ b
theorem Bd.mul {x y a b : Rat} (hx : Bd x a) (hy : Bd y b) : Bd (x * y) (a * b) := by
  obtain ⟨h1, h2⟩ := hx
  obtain ⟨h3, h4⟩ := hy
  have p1 := nn_mul (a := a - x) (b := b - y) (by grind) (by grind)
  have p2 := nn_mul (a := a + x) (b := b + y) (by grind) (by grind)
  have p3 := nn_mul (a := a - x) (b := b + y) (by grind) (by grind)
  have p4 := nn_mul (a := a + x) (b := b - y) (by grind) (by grind)
  constructor <;> grind
theorem Bd.sub {x y a b : Rat} (hx : Bd x a) (hy : Bd y b) : Bd (x - y) (a + b) := by
  obtain ⟨h1, h2⟩ := hx
  obtain ⟨h3, h4⟩ := hy
  constructor <;> grind
theorem Bd.nn {x b : Rat} (h : Bd x b) : 0 ≤ b := by
  obtain ⟨h1, h2⟩ := h
  grind
theorem Bd.mono {x a b : Rat} (h : Bd x a) (hab : a ≤ b) : Bd x b := by
  obtain ⟨h1, h2⟩ := h
  constructor <;> grind
theorem alt_bd {b : Rat} (hb : 0 ≤ b) : ∀ (cs : List Nat) (g : Nat → List Nat → Rat), (∀ c rest, c ∈ cs → (∀ x ∈ rest, x ∈ cs) → rest.length + 1 = cs.length → Bd (g c rest) b) → Bd (alt g cs) ((cs.length : Rat) * b)
  | [], _, _ => by
    show Bd 0 (((0 : Nat) : Rat) * b)
    have : ((0 : Nat) : Rat) = 0 := rfl
    rw [this]
    constructor <;> grind
  | c :: cs, g, h => by
    have h1 := h c cs (List.mem_cons_self ..) (fun x hx => List.mem_cons_of_mem _ hx) rfl
    have h2 := alt_bd hb cs (fun c' cs' => g c' (c :: cs')) fun c' rest hc hr hl => h c' (c :: rest) (List.mem_cons_of_mem _ hc) (fun x hx => by
      rcases List.mem_cons.mp hx with e | hx
      · rw [e]; exact List.mem_cons_self ..
      · exact List.mem_cons_of_mem _ (hr x hx)) (by rw [List.length_cons, List.length_cons, hl])
    have h3 := h1.sub h2
    refine h3.mono ?_
    rw [List.length_cons]
    have : ((cs.length + 1 : Nat) : Rat) = (cs.length : Rat) + 1 := Rat.natCast_add _ _
    rw [this]; grind
theorem dt_bd {n : Nat} {B : Rat} (hB : 0 ≤ B) : ∀ (rs : List Rw) (cs : List Nat), cs.length ≤ n → (∀ r ∈ rs, ∀ c ∈ cs, Bd (r c) B) → Bd (dt rs cs) (((n : Rat) * B) ^ rs.length)
  | [], _, _, _ => by
    show Bd 1 (_ ^ 0)
    rw [Rat.pow_zero]
    constructor <;> grind
  | r :: rs, cs, hn, h => by
    have hn0 : (0 : Rat) ≤ (n : Rat) := by exact_mod_cast Nat.zero_le n
    have hnB : 0 ≤ (n : Rat) * B := nn_mul hn0 hB
    have hp : 0 ≤ ((n : Rat) * B) ^ rs.length := Rat.pow_nonneg hnB
    have h1 := alt_bd (b := B * ((n : Rat) * B) ^ rs.length) (nn_mul hB hp) cs (fun c rest => r c * dt rs rest) fun c rest hc hr hl =>
      (h r (List.mem_cons_self ..) c hc).mul (dt_bd hB rs rest (by omega) fun q hq x hx => h q (List.mem_cons_of_mem _ hq) x (hr x hx))
    refine h1.mono ?_
    rw [List.length_cons, Rat.pow_succ]
    have hl : ((cs.length : Nat) : Rat) ≤ (n : Rat) := by exact_mod_cast hn
    have := nn_mul (a := (n : Rat) - (cs.length : Rat)) (b := B * ((n : Rat) * B) ^ rs.length) (by grind) (nn_mul hB hp)
    grind
end K66

set_option Elab.async false
set_option linter.all false
namespace K66
def ls : List Nat → (Nat → Rat) → Rat
  | [], _ => 0
  | a :: l, f => f a + ls l f
theorem ls_congr : ∀ {l : List Nat} {f g : Nat → Rat}, (∀ i ∈ l, f i = g i) → ls l f = ls l g
  | [], _, _, _ => rfl
  | a :: l, f, g, h => by
    show f a + ls l f = g a + ls l g
    rw [h a (List.mem_cons_self ..), ls_congr fun i hi => h i (List.mem_cons_of_mem _ hi)]
theorem ls_add (l : List Nat) (f g : Nat → Rat) : ls l (fun i => f i + g i) = ls l f + ls l g := by
  induction l with
  | nil => show (0 : Rat) = 0 + 0; grind -verbose
  | cons a l ih =>
    show f a + g a + ls l (fun i => f i + g i) = (f a + ls l f) + (g a + ls l g)
    rw [ih]; grind -verbose
theorem ls_mul (l : List Nat) (c : Rat) (f : Nat → Rat) : ls l (fun i => c * f i) = c * ls l f := by
  induction l with
  | nil => show (0 : Rat) = c * 0; grind -verbose
  | cons a l ih =>
    show c * f a + ls l (fun i => c * f i) = c * (f a + ls l f)
    rw [ih]; grind -verbose
theorem ls_zero {l : List Nat} {f : Nat → Rat} (h : ∀ i ∈ l, f i = 0) : ls l f = 0 := by
  rw [ls_congr (g := fun i => 0 * f i) fun i hi => by rw [h i hi]; grind -verbose, ls_mul]; grind -verbose
theorem filter_ne {l : List Nat} {p : Nat} (h : p ∉ l) : l.filter (· != p) = l := by
  rw [List.filter_eq_self]
  intro a ha
  have : a ≠ p := fun e => h (e ▸ ha)
  simpa using this
theorem ls_split : ∀ {l : List Nat} {p : Nat} (f : Nat → Rat), l.Nodup → p ∈ l → ls l f = f p + ls (l.filter (· != p)) f
  | [], _, _, _, h => by cases h
  | a :: l, p, f, hn, h => by
    rw [List.nodup_cons] at hn
    by_cases e : a = p
    · subst e
      rw [List.filter_cons, if_neg (by simp), filter_ne hn.1]; rfl
    · have hp : p ∈ l := by
        rcases List.mem_cons.mp h with q | q
        · exact absurd q.symm e
        · exact q
      rw [List.filter_cons, if_pos (by simpa using e)]
      show f a + ls l f = f p + (f a + ls (l.filter (· != p)) f)
      rw [ls_split f hn.2 hp]; grind -verbose
theorem ls_ind {l : List Nat} {p : Nat} (f : Nat → Rat) (hn : l.Nodup) (h : p ∈ l) : ls l (fun i => if i = p then f i else 0) = f p := by
  rw [ls_split _ hn h, if_pos rfl, ls_zero fun i hi => ?_]
  · grind -verbose
  · have := (List.mem_filter.mp hi).2
    rw [if_neg (by simpa using this)]
theorem ls_range (n : Nat) (f : Nat → Rat) : ls (List.range n) f = sm n f := by
  have app : ∀ (l : List Nat) (a : Nat), ls (l ++ [a]) f = ls l f + f a := by
    intro l a
    induction l with
    | nil => show f a + 0 = 0 + f a; grind -verbose
    | cons b l ih =>
      show f b + ls (l ++ [a]) f = f b + ls l f + f a
      rw [ih]; grind -verbose
  induction n with
  | zero => rfl
  | succ n ih => rw [List.range_succ, app, ih]; rfl
def lq (l : List Nat) (b : Nat → Nat → Rat) (v : Nat → Rat) : Rat := ls l fun i => ls l fun j => b i j * v i * v j
theorem lq_congr {l : List Nat} {b b' : Nat → Nat → Rat} {v v' : Nat → Rat} (h : ∀ i ∈ l, ∀ j ∈ l, b i j = b' i j) (hv : ∀ i ∈ l, v i = v' i) : lq l b v = lq l b' v' :=
  ls_congr fun i hi => ls_congr fun j hj => by rw [h i hi j hj, hv i hi, hv j hj]
/-- one unknown is split off -/
theorem lq_split {l : List Nat} {p : Nat} (b : Nat → Nat → Rat) (v : Nat → Rat) (hn : l.Nodup) (h : p ∈ l) (hs : ∀ i ∈ l, b i p = b p i) :
    lq l b v = b p p * v p * v p + 2 * v p * (ls (l.filter (· != p)) fun j => b p j * v j) + lq (l.filter (· != p)) b v := by
  unfold lq
  rw [ls_split _ hn h, ls_split _ hn h]
  rw [ls_congr (l := l.filter (· != p)) (f := fun i => ls l fun j => b i j * v i * v j) (g := fun i => b i p * v i * v p + ls (l.filter (· != p)) fun j => b i j * v i * v j) fun i _ => ls_split _ hn h]
  rw [ls_add]
  rw [ls_congr (l := l.filter (· != p)) (f := fun i => b i p * v i * v p) (g := fun i => v p * (b p i * v i)) fun i hi => by rw [hs i (List.mem_filter.mp hi).1]; grind -verbose, ls_mul]
  rw [ls_congr (l := l.filter (· != p)) (f := fun j => b p j * v p * v j) (g := fun j => v p * (b p j * v j)) fun j _ => by grind -verbose, ls_mul]
  grind -verbose
theorem np_mul {x y : Rat} (hx : x ≤ 0) (hy : y ≤ 0) : 0 ≤ x * y := by
  have := nn_mul (a := -x) (b := -y) (by grind -verbose) (by grind -verbose)
  grind -verbose
theorem lt_of {x : Rat} (h : 0 ≤ x) (h' : x ≠ 0) : 0 < x := by grind -verbose
theorem alg0 {P L X : Rat} (hP : P ≠ 0) (h : 0 ≤ P * ((-L / P + L / P) * (-L / P + L / P)) + X) : 0 ≤ X := by
  have : -L / P + L / P = 0 := by grind -verbose
  rw [this] at h
  grind -verbose
theorem alg1 {m f mp fp x y z P A : Rat} (hA : A ≠ 0) (hP : P ≠ 0) (h1 : m + f = x / A) (h2 : mp + fp = z / A) : m + (f + -(y / P) * (fp + 1 * (1 * mp))) = (P * x - y * z) / (A * P) := by
  have e : m + (f + -(y / P) * (fp + 1 * (1 * mp))) = (m + f) - y / P * (mp + fp) := by grind -verbose
  rw [e, h1, h2]
  grind -verbose
theorem alg2 {m f mp fp y P A : Rat} (hP : P ≠ 0) (hA : A ≠ 0) (h1 : m + f = y / A) (h2 : mp + fp = P / A) : m + (f + -(y / P) * (fp + 1 * (1 * mp))) = 0 := by
  rw [alg1 hA hP h1 h2]
  grind -verbose
theorem alg3 {m f mp fp y : Rat} (h1 : m + f = 0) (h2 : mp + fp = 0) : m + (f + -y * (fp + 1 * (1 * mp))) = 0 := by
  have e : m + (f + -y * (fp + 1 * (1 * mp))) = (m + f) - y * (mp + fp) := by grind -verbose
  rw [e, h1, h2]
  grind -verbose
theorem alg4 {A P x d : Rat} (hA : A ≠ 0) (hP : P ≠ 0) (h : d = P * (x / (A * P))) : x = A * d := by
  rw [h]; grind -verbose
theorem alg5 {A P x d : Rat} (hA : A ≠ 0) (hP : P ≠ 0) (h : d = P * (x / (A * P))) : d = x / A := by
  rw [h]; grind -verbose
theorem alg6 {A P x : Rat} (hA : A ≠ 0) (hP : P ≠ 0) : x / (A * P) = x / A / P := by grind -verbose
theorem alg7 {A P x y z : Rat} (hA : A ≠ 0) (hP : P ≠ 0) : (P * x - y * z) / A / P = x / A - y / A * (z / A) / (P / A) := by grind -verbose
theorem alg8 {A P : Rat} (hA : A ≠ 0) (hP : P ≠ 0) : P / A * (A * A) = P * A ∧ P / A ≠ 0 := by
  constructor
  · grind -verbose
  · intro e; grind -verbose
/-- the step of a form: a square off -/
theorem lq_step {l : List Nat} {p : Nat} {b b' : Nat → Nat → Rat} (hn : l.Nodup) (h : p ∈ l) (hs : ∀ i ∈ l, b i p = b p i) (hp : b p p ≠ 0)
    (hb : ∀ i ∈ l.filter (· != p), ∀ j ∈ l.filter (· != p), b' i j = b i j - b i p * b p j / b p p) :
    (∀ v, 0 ≤ lq l b v) ↔ 0 < b p p ∧ ∀ v, 0 ≤ lq (l.filter (· != p)) b' v := by
  have key : ∀ v, lq l b v = b p p * ((v p + (ls (l.filter (· != p)) fun j => b p j * v j) / b p p) * (v p + (ls (l.filter (· != p)) fun j => b p j * v j) / b p p)) + lq (l.filter (· != p)) b' v := fun v => by
    have e : lq (l.filter (· != p)) b' v = lq (l.filter (· != p)) b v - (ls (l.filter (· != p)) fun j => b p j * v j) * (ls (l.filter (· != p)) fun j => b p j * v j) / b p p := by
      have e1 : lq (l.filter (· != p)) b' v = lq (l.filter (· != p)) b v + (-1 / b p p) * ls (l.filter (· != p)) fun i => (ls (l.filter (· != p)) fun j => b p j * v j) * (b p i * v i) := by
        unfold lq
        rw [← ls_mul, ← ls_add]
        refine ls_congr fun i hi => ?_
        rw [show (-1 / b p p) * ((ls (l.filter (· != p)) fun j => b p j * v j) * (b p i * v i)) = ((-1 / b p p) * (b p i * v i)) * (ls (l.filter (· != p)) fun j => b p j * v j) by grind -verbose, ← ls_mul, ← ls_add]
        refine ls_congr fun j hj => ?_
        rw [hb i hi j hj, hs i (List.mem_filter.mp hi).1]
        grind -verbose
      rw [e1, ls_mul]; grind -verbose
    rw [lq_split b v hn h hs, e]
    grind -verbose
  constructor
  · intro hv
    constructor
    · have e := hv fun i => if i = p then 1 else 0
      have z : ∀ (g : Nat → Rat), (ls (l.filter (· != p)) fun j => g j * (if j = p then 1 else 0)) = 0 := fun g => ls_zero fun j hj => by
        have := (List.mem_filter.mp hj).2
        rw [if_neg (by simpa using this)]; grind -verbose
      have z2 : lq (l.filter (· != p)) b (fun i => if i = p then 1 else 0) = 0 := ls_zero fun i hi => ls_zero fun j hj => by
        have := (List.mem_filter.mp hj).2
        dsimp only
        rw [if_neg (by simpa using this : ¬ j = p)]; grind -verbose
      rw [lq_split b _ hn h hs, z2, z (b p)] at e
      rw [if_pos rfl] at e
      have : 0 ≤ b p p := by grind -verbose
      grind -verbose
    · intro v
      have e := hv fun i => if i = p then -(ls (l.filter (· != p)) fun j => b p j * v j) / b p p else v i
      have off : ∀ i ∈ l.filter (· != p), (if i = p then -(ls (l.filter (· != p)) fun j => b p j * v j) / b p p else v i) = v i := fun i hi => by
        have := (List.mem_filter.mp hi).2
        rw [if_neg (by simpa using this)]
      rw [key, lq_congr (v' := v) (fun _ _ _ _ => rfl) off] at e
      rw [ls_congr (f := fun j => b p j * (if j = p then -(ls (l.filter (· != p)) fun j => b p j * v j) / b p p else v j)) (g := fun j => b p j * v j) fun j hj => by rw [off j hj], if_pos rfl] at e
      exact alg0 hp e
  · rintro ⟨h1, h2⟩ v
    rw [key]
    have := nn_mul (Rat.le_of_lt h1) (sq_nn (v p + (ls (l.filter (· != p)) fun j => b p j * v j) / b p p))
    have := h2 v
    grind -verbose

def rw' (M : Nat → Nat → Int) (i : Nat) : Rw := fun c => (M i c : Rat)
/-- what the steps keep: S the places that were taken, left those that are left, R their numbers, t how often two were added -/
structure BI' (n : Nat) (B : Rat) (Orig pos : Prop) (S left : List Nat) (R : Nat → Nat → Int) (ahead : Int) (t : Nat) (M : Nat → Nat → Int) : Prop where
  bd : ∀ i j, Bd (M i j : Rat) (4 ^ t * B)
  ne : ahead ≠ 0
  ah : (ahead : Rat) = dt (S.map (rw' M)) S
  nd : left.Nodup
  off : ∀ i ∈ left, i ∉ S
  len : S.length + left.length = n
  ts : t ≤ S.length + 1
  rows : ∀ i ∈ left, ∃ f : Rw, Comb (S.map (rw' M)) f ∧ (∀ c ∈ S, (M i c : Rat) + f c = 0) ∧ ∀ j ∈ left, (M i j : Rat) + f j = (R i j : Rat) / (ahead : Rat)
  sy : ∀ i ∈ left, ∀ j ∈ left, R i j = R j i
  form : Orig ↔ pos ∧ ∀ v, 0 ≤ lq left (fun i j => (R i j : Rat) / (ahead : Rat)) v
def BI (n : Nat) (B : Rat) (Orig pos : Prop) (S left : List Nat) (R : Nat → Nat → Int) (ahead : Int) (t : Nat) : Prop := ∃ M, BI' n B Orig pos S left R ahead t M
section
variable {n t : Nat} {B : Rat} {Orig pos : Prop} {S left : List Nat} {R R' : Nat → Nat → Int} {ahead : Int} {M : Nat → Nat → Int}
theorem BI'.minor (h : BI' n B Orig pos S left R ahead t M) {i j : Nat} (hi : i ∈ left) (hj : j ∈ left) : (R i j : Rat) = dt (S.map (rw' M) ++ [rw' M i]) (S ++ [j]) := by
  obtain ⟨f, hf, hz, hv⟩ := h.rows i hi
  have hne : (ahead : Rat) ≠ 0 := fun e => h.ne (by exact_mod_cast e)
  rw [← dt_comb (e := rw' M i) hf (S ++ [j])]
  rw [dt_last (fun c => rw' M i c + f c) j (S.map (rw' M)) S (by rw [List.length_map]) hz, ← h.ah]
  show _ = (ahead : Rat) * ((M i j : Rat) + f j)
  rw [hv j hj]; grind -verbose
theorem BI'.isI (h : BI' n B Orig pos S left R ahead t M) (rs : List Rw) (hr : ∀ r ∈ rs, ∃ i, r = rw' M i) (cs : List Nat) : IsI (dt rs cs) := dt_int rs cs fun r hr' c => by
  obtain ⟨i, rfl⟩ := hr r hr'
  exact ⟨M i c, rfl⟩
theorem pivot {p : Nat} (h : BI n B Orig pos S left R ahead t) (hp : p ∈ left) (hR : R p p ≠ 0)
    (hR' : ∀ i ∈ left.filter (· != p), ∀ j ∈ left.filter (· != p), R' i j = (R p p * R i j - R i p * R p j).fdiv ahead) :
    BI n B Orig (pos ∧ (0 < R p p ↔ 0 < ahead)) (S ++ [p]) (left.filter (· != p)) R' (R p p) t := by
  obtain ⟨M, h⟩ := h
  have hne : (ahead : Rat) ≠ 0 := fun e => h.ne (by exact_mod_cast e)
  have hpp : (R p p : Rat) ≠ 0 := fun e => hR (by exact_mod_cast e)
  have inl : ∀ {i}, i ∈ left.filter (· != p) → i ∈ left ∧ i ≠ p := fun hi => ⟨(List.mem_filter.mp hi).1, by simpa using (List.mem_filter.mp hi).2⟩
  have ah2 : (R p p : Rat) = dt ((S ++ [p]).map (rw' M)) (S ++ [p]) := by
    rw [List.map_append]
    exact h.minor hp hp
  obtain ⟨fp, cp, zp, vp⟩ := h.rows p hp
  -- the new rows
  have rows2 : ∀ i ∈ left.filter (· != p), ∃ f : Rw, Comb ((S ++ [p]).map (rw' M)) f ∧ (∀ c ∈ S ++ [p], (M i c : Rat) + f c = 0) ∧ ∀ j ∈ left.filter (· != p), (M i j : Rat) + f j = ((R p p : Rat) * (R i j : Rat) - (R i p : Rat) * (R p j : Rat)) / ((ahead : Rat) * (R p p : Rat)) := by
    intro i hi
    obtain ⟨f, cf, zf, vf⟩ := h.rows i (inl hi).1
    have mem : rw' M p ∈ (S ++ [p]).map (rw' M) := List.mem_map.mpr ⟨p, by simp, rfl⟩
    have sub : ∀ r ∈ S.map (rw' M), r ∈ (S ++ [p]).map (rw' M) := fun r hr => by rw [List.map_append]; exact List.mem_append_left _ hr
    have c1 := (cf.mono sub).lin (-((R i p : Rat) / (R p p : Rat))) ((cp.mono sub).lin 1 (Comb.one mem 1))
    refine ⟨_, c1, fun c hc => ?_, fun j hj => ?_⟩
    · rcases List.mem_append.mp hc with hc | hc
      · have a1 := zf c hc
        have a2 := zp c hc
        exact alg3 a1 a2
      · obtain rfl : c = p := by simpa using hc
        have a1 := vf c hp
        have a2 := vp c hp
        exact alg2 hpp hne a1 a2
    · have a1 := vf j (inl hj).1
      have a2 := vp j (inl hj).1
      exact alg1 hne hpp a1 a2
  -- what is divided goes in
  have exact' : ∀ i ∈ left.filter (· != p), ∀ j ∈ left.filter (· != p), (R' i j : Rat) = ((R p p : Rat) * (R i j : Rat) - (R i p : Rat) * (R p j : Rat)) / (ahead : Rat) := by
    intro i hi j hj
    obtain ⟨f, cf, zf, vf⟩ := rows2 i hi
    have e1 : dt ((S ++ [p]).map (rw' M) ++ [rw' M i]) (S ++ [p] ++ [j]) = (R p p : Rat) * ((M i j : Rat) + f j) := by
      rw [← dt_comb (e := rw' M i) cf (S ++ [p] ++ [j])]
      rw [dt_last (fun c => rw' M i c + f c) j ((S ++ [p]).map (rw' M)) (S ++ [p]) (by rw [List.length_map]) zf, ← ah2]; rfl
    rw [vf j hj] at e1
    obtain ⟨z, hz⟩ := h.isI ((S ++ [p]).map (rw' M) ++ [rw' M i]) (fun r hr => by
      rcases List.mem_append.mp hr with hr | hr
      · obtain ⟨k, _, e⟩ := List.mem_map.mp hr
        exact ⟨k, e.symm⟩
      · exact ⟨i, by simpa using hr⟩) (S ++ [p] ++ [j])
    rw [hz] at e1
    have e2 : (R p p * R i j - R i p * R p j : Int) = ahead * z := by
      have : ((R p p * R i j - R i p * R p j : Int) : Rat) = ((ahead * z : Int) : Rat) := by
        rw [Rat.intCast_sub, Rat.intCast_mul, Rat.intCast_mul, Rat.intCast_mul]
        exact alg4 hne hpp e1
      exact_mod_cast this
    rw [hR' i hi j hj, e2, Int.mul_fdiv_cancel_left _ h.ne]
    exact alg5 hne hpp e1
  refine ⟨M, h.bd, hR, ah2, h.nd.sublist List.filter_sublist, fun i hi hc => ?_, ?_, ?_, fun i hi => ?_, fun i hi j hj => ?_, ?_⟩
  · rcases List.mem_append.mp hc with hc | hc
    · exact h.off i (inl hi).1 hc
    · exact (inl hi).2 (by simpa using hc)
  · have q : left.length = (left.filter (· != p)).length + 1 := by
      have := h.nd
      have hh := hp
      have aux : ∀ (l : List Nat), l.Nodup → p ∈ l → l.length = (l.filter (· != p)).length + 1 := by
        intro l
        induction l with
        | nil => intro _ hm; cases hm
        | cons a l ih =>
          intro hn hm
          rw [List.nodup_cons] at hn
          by_cases e : a = p
          · subst e
            rw [List.filter_cons, if_neg (by simp), filter_ne hn.1, List.length_cons]
          · have hpl : p ∈ l := by
              rcases List.mem_cons.mp hm with q | q
              · exact absurd q.symm e
              · exact q
            rw [List.filter_cons, if_pos (by simpa using e), List.length_cons, List.length_cons, ih hn.2 hpl]
      exact aux left h.nd hp
    have := h.len
    rw [List.length_append, List.length_singleton]
    omega
  · have := h.ts
    rw [List.length_append, List.length_singleton]
    omega
  · obtain ⟨f, cf, zf, vf⟩ := rows2 i hi
    refine ⟨f, cf, zf, fun j hj => ?_⟩
    rw [vf j hj, exact' i hi j hj]
    exact alg6 hne hpp
  · rw [hR' i hi j hj, hR' j hj i hi, h.sy i (inl hi).1 j (inl hj).1, h.sy i (inl hi).1 p hp, h.sy p hp j (inl hj).1]
    rw [Int.mul_comm (R p i) (R j p)]
  · rw [h.form]
    have st := lq_step (b := fun i j => (R i j : Rat) / (ahead : Rat)) (b' := fun i j => (R' i j : Rat) / (R p p : Rat)) h.nd hp (fun i hi => by rw [h.sy i hi p hp]) (alg8 hne hpp).2 (fun i hi j hj => by
      rw [exact' i hi j hj]
      exact alg7 hne hpp)
    rw [st]
    have sg : (0 : Rat) < (R p p : Rat) / (ahead : Rat) ↔ (0 < R p p ↔ 0 < ahead) := by
      have c1 : (0 < R p p) ↔ (0 : Rat) < (R p p : Rat) := ⟨fun h => by exact_mod_cast h, fun h => by exact_mod_cast h⟩
      have c2 : (0 < ahead) ↔ (0 : Rat) < (ahead : Rat) := ⟨fun h => by exact_mod_cast h, fun h => by exact_mod_cast h⟩
      rw [c1, c2]
      have m := (alg8 hne hpp).1
      have hs := sq_pos hne
      constructor
      · intro h0
        have h1 : 0 ≤ (R p p : Rat) * (ahead : Rat) := by rw [← m]; exact nn_mul (Rat.le_of_lt h0) (Rat.le_of_lt hs)
        have h2 : (R p p : Rat) * (ahead : Rat) ≠ 0 := fun e => by rcases Rat.mul_eq_zero.mp e with e | e <;> contradiction
        constructor
        · intro hq
          exact lt_of (nn_of_mul hq h1) hne
        · intro hq
          exact lt_of (nn_of_mul (a := (ahead : Rat)) (b := (R p p : Rat)) hq (by rw [Rat.mul_comm]; exact h1)) hpp
      · intro hq
        have h1 : 0 ≤ (R p p : Rat) * (ahead : Rat) := by
          rcases Rat.le_total (a := 0) (b := (ahead : Rat)) with h' | h'
          · have : (0 : Rat) < (R p p : Rat) := hq.mpr (lt_of h' hne)
            exact nn_mul (Rat.le_of_lt this) h'
          · have : ¬ (0 : Rat) < (R p p : Rat) := fun z => Rat.not_lt.mpr h' (hq.mp z)
            exact np_mul (Rat.not_lt.mp this) h'
        have h2 : 0 ≤ (R p p : Rat) / (ahead : Rat) := by
          refine nn_of_mul hs ?_
          rw [Rat.mul_comm, m]; exact h1
        have h3 := (alg8 hne hpp).2
        exact lt_of h2 h3
    rw [sg, and_assoc]
/-- the add-up of the place a and the place b -/
theorem addup {a b : Nat} (h : BI n B Orig pos S left R ahead t) (ht : t ≤ S.length) (hB : 0 ≤ B) (ha : a ∈ left) (hb : b ∈ left) (hab : a ≠ b)
    (hR' : ∀ i ∈ left, ∀ j ∈ left, R' i j = R i j + (if i = a then R b j else 0) + (if j = a then R i b else 0) + (if i = a then (if j = a then R b b else 0) else 0)) :
    BI n B Orig pos S left R' ahead (t + 1) := by
  obtain ⟨M, h⟩ := h
  have hne : (ahead : Rat) ≠ 0 := fun e => h.ne (by exact_mod_cast e)
  have naS := h.off a ha
  have nbS := h.off b hb
  let M2 : Nat → Nat → Int := fun i j => M i j + (if i = a then M b j else 0) + (if j = a then M i b else 0) + (if i = a then (if j = a then M b b else 0) else 0)
  let τ : Rw → Rw := fun f c => f c + (if c = a then f b else 0)
  have rowS : ∀ i, i ≠ a → rw' M2 i = τ (rw' M i) := fun i hi => funext fun c => by
    show ((M i c + (if i = a then M b c else 0) + (if c = a then M i b else 0) + (if i = a then (if c = a then M b b else 0) else 0) : Int) : Rat) = (M i c : Rat) + (if c = a then (M i b : Rat) else 0)
    rw [if_neg hi, if_neg hi]
    split
    · rw [Rat.intCast_add, Rat.intCast_add, Rat.intCast_add]
      have : ((0 : Int) : Rat) = 0 := rfl
      rw [this]; grind -verbose
    · rw [Rat.intCast_add, Rat.intCast_add, Rat.intCast_add]
      have : ((0 : Int) : Rat) = 0 := rfl
      rw [this]; grind -verbose
  have rowA : rw' M2 a = fun c => τ (rw' M a) c + τ (rw' M b) c := funext fun c => by
    show ((M a c + (if a = a then M b c else 0) + (if c = a then M a b else 0) + (if a = a then (if c = a then M b b else 0) else 0) : Int) : Rat) = (M a c : Rat) + (if c = a then (M a b : Rat) else 0) + ((M b c : Rat) + (if c = a then (M b b : Rat) else 0))
    rw [if_pos rfl, if_pos rfl]
    split
    · rw [Rat.intCast_add, Rat.intCast_add, Rat.intCast_add]; grind -verbose
    · rw [Rat.intCast_add, Rat.intCast_add, Rat.intCast_add]
      have : ((0 : Int) : Rat) = 0 := rfl
      rw [this]; grind -verbose
  have mapS : S.map (rw' M2) = (S.map (rw' M)).map τ := by
    rw [List.map_map]
    exact List.map_congr_left fun i hi => rowS i fun e => naS (e ▸ hi)
  have combτ : ∀ f, Comb (S.map (rw' M)) f → Comb (S.map (rw' M2)) (τ f) := by
    intro f hf
    rw [mapS]
    induction hf with
    | nil =>
      rw [show τ (fun _ => 0) = fun _ => 0 from funext fun c => by show (0 : Rat) + (if c = a then 0 else 0) = 0; split <;> grind -verbose]
      exact .nil
    | @add f r hf hr y ih =>
      have := ih.add (List.mem_map.mpr ⟨r, hr, rfl⟩) y
      rw [show τ (fun c => f c + y * r c) = fun c => τ f c + y * τ r c from funext fun c => by
        show (f c + y * r c) + (if c = a then f b + y * r b else 0) = (f c + (if c = a then f b else 0)) + y * (r c + (if c = a then r b else 0))
        split <;> grind -verbose]
      exact this
  have dtS : dt (S.map (rw' M2)) S = dt (S.map (rw' M)) S := dt_congr (by rw [List.length_map, List.length_map]) fun k r r' h1 h2 c hc => by
    rw [mapS, List.getElem?_map, h2] at h1
    have e : τ r' = r := Option.some.inj h1
    rw [← e]
    show r' c + (if c = a then r' b else 0) = r' c
    rw [if_neg (fun e : c = a => naS (e ▸ hc))]; grind -verbose
  have four : (4 : Rat) ^ (t + 1) * B = 4 * (4 ^ t * B) := by rw [Rat.pow_succ]; grind -verbose
  refine ⟨M2, fun i j => ?_, h.ne, by rw [dtS]; exact h.ah, h.nd, h.off, h.len, by omega, fun i hi => ?_, fun i hi j hj => ?_, ?_⟩
  · have b0 : ∀ x y, Bd (M x y : Rat) (4 ^ t * B) := h.bd
    have hz : Bd (((0 : Int)) : Rat) (4 ^ t * B) := by
      have := (b0 0 0).nn
      have e : ((0 : Int) : Rat) = 0 := rfl
      rw [e]
      constructor <;> grind -verbose
    have q1 : ∀ (c : Prop) [Decidable c] x y, Bd ((if c then M x y else 0 : Int) : Rat) (4 ^ t * B) := fun c _ x y => by
      split
      · exact b0 x y
      · exact hz
    have q2 : Bd ((if i = a then (if j = a then M b b else 0) else 0 : Int) : Rat) (4 ^ t * B) := by
      split
      · exact q1 _ b b
      · exact hz
    have a1 := b0 i j
    have a2 := q1 (i = a) b j
    have a3 := q1 (j = a) i b
    rw [four]
    show Bd ((M i j + (if i = a then M b j else 0) + (if j = a then M i b else 0) + (if i = a then (if j = a then M b b else 0) else 0) : Int) : Rat) _
    rw [Rat.intCast_add, Rat.intCast_add, Rat.intCast_add]
    obtain ⟨a11, a12⟩ := a1
    obtain ⟨a21, a22⟩ := a2
    obtain ⟨a31, a32⟩ := a3
    obtain ⟨a41, a42⟩ := q2
    constructor <;> grind -verbose
  · by_cases e : i = a
    · subst e
      obtain ⟨f, cf, zf, vf⟩ := h.rows i ha
      obtain ⟨g, cg, zg, vg⟩ := h.rows b hb
      refine ⟨fun c => τ f c + 1 * τ g c, (combτ f cf).lin 1 (combτ g cg), fun c hc => ?_, fun j hj => ?_⟩
      · have hca : c ≠ i := fun e => naS (e ▸ hc)
        have e1 : (M2 i c : Rat) = τ (rw' M i) c + τ (rw' M b) c := congrFun rowA c
        have a1 := zf c hc
        have a2 := zg c hc
        rw [e1]
        show ((M i c : Rat) + (if c = i then (M i b : Rat) else 0)) + ((M b c : Rat) + (if c = i then (M b b : Rat) else 0)) + ((f c + (if c = i then f b else 0)) + 1 * (g c + (if c = i then g b else 0))) = 0
        rw [if_neg hca, if_neg hca, if_neg hca, if_neg hca]; grind -verbose
      · have e1 : (M2 i j : Rat) = τ (rw' M i) j + τ (rw' M b) j := congrFun rowA j
        have a1 := vf j hj
        have a2 := vg j hj
        have a3 := vf b hb
        have a4 := vg b hb
        rw [e1, hR' i hi j hj, if_pos rfl, if_pos rfl]
        show ((M i j : Rat) + (if j = i then (M i b : Rat) else 0)) + ((M b j : Rat) + (if j = i then (M b b : Rat) else 0)) + ((f j + (if j = i then f b else 0)) + 1 * (g j + (if j = i then g b else 0))) = _
        by_cases q : j = i
        · rw [if_pos q, if_pos q, if_pos q, if_pos q, if_pos q, if_pos q, Rat.intCast_add, Rat.intCast_add, Rat.intCast_add]; grind -verbose
        · rw [if_neg q, if_neg q, if_neg q, if_neg q, if_neg q, if_neg q, Rat.intCast_add, Rat.intCast_add, Rat.intCast_add]
          have : ((0 : Int) : Rat) = 0 := rfl
          rw [this]; grind -verbose
    · obtain ⟨f, cf, zf, vf⟩ := h.rows i hi
      refine ⟨τ f, combτ f cf, fun c hc => ?_, fun j hj => ?_⟩
      · have hca : c ≠ a := fun e => naS (e ▸ hc)
        have e1 : (M2 i c : Rat) = τ (rw' M i) c := congrFun (rowS i e) c
        have a1 := zf c hc
        rw [e1]
        show ((M i c : Rat) + (if c = a then (M i b : Rat) else 0)) + (f c + (if c = a then f b else 0)) = 0
        rw [if_neg hca, if_neg hca]; grind -verbose
      · have e1 : (M2 i j : Rat) = τ (rw' M i) j := congrFun (rowS i e) j
        have a1 := vf j hj
        have a3 := vf b hb
        rw [e1, hR' i hi j hj, if_neg e, if_neg e]
        show ((M i j : Rat) + (if j = a then (M i b : Rat) else 0)) + (f j + (if j = a then f b else 0)) = _
        by_cases q : j = a
        · rw [if_pos q, if_pos q, if_pos q, Rat.intCast_add, Rat.intCast_add, Rat.intCast_add]
          have : ((0 : Int) : Rat) = 0 := rfl
          rw [this]; grind -verbose
        · rw [if_neg q, if_neg q, if_neg q, Rat.intCast_add, Rat.intCast_add, Rat.intCast_add]
          have : ((0 : Int) : Rat) = 0 := rfl
          rw [this]; grind -verbose
  · rw [hR' i hi j hj, hR' j hj i hi, h.sy i hi j hj, h.sy b hb j hj, h.sy i hi b hb]
    by_cases q1 : i = a <;> by_cases q2 : j = a <;> simp [q1, q2] <;> omega
  · rw [h.form]
    have key : ∀ v, lq left (fun i j => (R' i j : Rat) / (ahead : Rat)) v = lq left (fun i j => (R i j : Rat) / (ahead : Rat)) fun i => v i + (if i = b then v a else 0) := fun v => by
      let r : Nat → Nat → Rat := fun i j => (R i j : Rat) / (ahead : Rat)
      have e1 : lq left (fun i j => (R' i j : Rat) / (ahead : Rat)) v = lq left (fun i j => r i j + (if i = a then r b j else 0) + (if j = a then r i b else 0) + (if i = a then (if j = a then r b b else 0) else 0)) v := lq_congr (fun i hi j hj => by
        rw [hR' i hi j hj]
        show ((R i j + (if i = a then R b j else 0) + (if j = a then R i b else 0) + (if i = a then (if j = a then R b b else 0) else 0) : Int) : Rat) / (ahead : Rat) = (R i j : Rat) / (ahead : Rat) + (if i = a then (R b j : Rat) / (ahead : Rat) else 0) + (if j = a then (R i b : Rat) / (ahead : Rat) else 0) + (if i = a then (if j = a then (R b b : Rat) / (ahead : Rat) else 0) else 0)
        rw [Rat.intCast_add, Rat.intCast_add, Rat.intCast_add]
        have z : ((0 : Int) : Rat) = 0 := rfl
        by_cases q1 : i = a <;> by_cases q2 : j = a <;> simp only [q1, q2, if_true, if_false, z] <;> grind -verbose) fun _ _ => rfl
      rw [e1]
      have s1 : ∀ (x : Nat → Rat), (ls left fun i => if i = a then x i else 0) = x a := fun x => ls_ind x h.nd ha
      have s2 : ∀ (x : Nat → Rat), (ls left fun i => if i = b then x i else 0) = x b := fun x => ls_ind x h.nd hb
      have L : lq left (fun i j => r i j + (if i = a then r b j else 0) + (if j = a then r i b else 0) + (if i = a then (if j = a then r b b else 0) else 0)) v
          = lq left r v + v a * (ls left fun j => r b j * v j) + v a * (ls left fun i => r i b * v i) + r b b * v a * v a := by
        have inner : ∀ i, (ls left fun j => (r i j + (if i = a then r b j else 0) + (if j = a then r i b else 0) + (if i = a then (if j = a then r b b else 0) else 0)) * v i * v j)
            = (ls left fun j => r i j * v i * v j) + (if i = a then v i * (ls left fun j => r b j * v j) else 0) + v a * (r i b * v i) + (if i = a then r b b * v i * v a else 0) := fun i => by
          have x1 : (fun j => (r i j + (if i = a then r b j else 0) + (if j = a then r i b else 0) + (if i = a then (if j = a then r b b else 0) else 0)) * v i * v j)
              = fun j => (r i j * v i * v j + (if i = a then v i else 0) * (r b j * v j)) + ((if j = a then r i b * v i * v j else 0) + (if j = a then (if i = a then r b b * v i * v j else 0) else 0)) := funext fun j => by
            by_cases q1 : i = a <;> by_cases q2 : j = a <;> simp only [q1, q2, if_true, if_false] <;> grind -verbose
          rw [x1, ls_add, ls_add, ls_add, ls_mul, s1 (fun j => r i b * v i * v j), s1 (fun j => if i = a then r b b * v i * v j else 0)]
          by_cases q1 : i = a <;> simp only [q1, if_true, if_false] <;> grind -verbose
        unfold lq
        rw [ls_congr fun i _ => inner i, ls_add, ls_add, ls_add, s1 (fun i => v i * (ls left fun j => r b j * v j)), ls_mul, s1 (fun i => r b b * v i * v a)]
      have Rr : lq left r (fun i => v i + (if i = b then v a else 0)) = lq left r v + v a * (ls left fun j => r b j * v j) + v a * (ls left fun i => r i b * v i) + r b b * v a * v a := by
        have inner : ∀ i, (ls left fun j => r i j * (v i + (if i = b then v a else 0)) * (v j + (if j = b then v a else 0)))
            = (ls left fun j => r i j * v i * v j) + (if i = b then v a * (ls left fun j => r i j * v j) else 0) + v a * (r i b * v i) + (if i = b then r i b * v a * v a else 0) := fun i => by
          have x1 : (fun j => r i j * (v i + (if i = b then v a else 0)) * (v j + (if j = b then v a else 0)))
              = fun j => (r i j * v i * v j + (if i = b then v a else 0) * (r i j * v j)) + ((if j = b then r i j * v i * v a else 0) + (if j = b then (if i = b then r i j * v a * v a else 0) else 0)) := funext fun j => by
            by_cases q1 : i = b <;> by_cases q2 : j = b <;> simp only [q1, q2, if_true, if_false] <;> grind -verbose
          rw [x1, ls_add, ls_add, ls_add, ls_mul, s2 (fun j => r i j * v i * v a), s2 (fun j => if i = b then r i j * v a * v a else 0)]
          by_cases q1 : i = b <;> simp only [q1, if_true, if_false] <;> grind -verbose
        unfold lq
        rw [ls_congr fun i _ => inner i, ls_add, ls_add, ls_add, s2 (fun i => v a * (ls left fun j => r i j * v j)), ls_mul, s2 (fun i => r i b * v a * v a)]
      rw [L, Rr]
    have hab' : ¬ a = b := hab
    constructor
    · rintro ⟨hp, hv⟩
      exact ⟨hp, fun v => by rw [key]; exact hv _⟩
    · rintro ⟨hp, hv⟩
      refine ⟨hp, fun v => ?_⟩
      have e := hv fun i => v i - (if i = b then v a else 0)
      rw [key] at e
      rw [show (fun i => v i - (if i = b then v a else 0) + (if i = b then v a - (if a = b then v a else 0) else 0)) = v from funext fun i => by
        rw [if_neg hab']
        by_cases q : i = b <;> simp only [q, if_true, if_false] <;> grind -verbose] at e
      exact e
theorem BI.done (h : BI n B Orig pos S left R ahead t) (hz : ∀ i ∈ left, ∀ j ∈ left, R i j = 0) : Orig ↔ pos := by
  obtain ⟨M, h⟩ := h
  rw [h.form]
  refine ⟨fun q => q.1, fun q => ⟨q, fun v => ?_⟩⟩
  rw [show lq left (fun i j => (R i j : Rat) / (ahead : Rat)) v = 0 from ls_zero fun i hi => ls_zero fun j hj => by
    show (R i j : Rat) / (ahead : Rat) * v i * v j = 0
    rw [hz i hi j hj]
    have : ((0 : Int) : Rat) = 0 := rfl
    rw [this]; grind -verbose]
  exact Rat.le_refl
theorem BI.bound (h : BI n B Orig pos S left R ahead t) {i j : Nat} (hi : i ∈ left) (hj : j ∈ left) : Bd (R i j : Rat) (((n : Rat) * (4 ^ t * B)) ^ (S.length + 1)) := by
  obtain ⟨M, h⟩ := h
  rw [h.minor hi hj]
  have hB := (h.bd 0 0).nn
  have hl : left.length ≠ 0 := fun e => by
    have : left = [] := List.eq_nil_of_length_eq_zero e
    rw [this] at hi; cases hi
  have q := dt_bd (n := n) hB (S.map (rw' M) ++ [rw' M i]) (S ++ [j]) (by rw [List.length_append, List.length_singleton]; have := h.len; omega) fun r hr c _ => by
    rcases List.mem_append.mp hr with hr | hr
    · obtain ⟨k, _, e⟩ := List.mem_map.mp hr
      rw [← e]; exact h.bd k c
    · have e : r = rw' M i := by simpa using hr
      rw [e]; exact h.bd i c
  rw [List.length_append, List.length_map, List.length_singleton] at q
  exact q
theorem BI.boundA (h : BI n B Orig pos S left R ahead t) : Bd (ahead : Rat) (((n : Rat) * (4 ^ t * B)) ^ S.length) := by
  obtain ⟨M, h⟩ := h
  rw [h.ah]
  have hB := (h.bd 0 0).nn
  have q := dt_bd (n := n) hB (S.map (rw' M)) S (by have := h.len; omega) fun r hr c _ => by
    obtain ⟨k, _, e⟩ := List.mem_map.mp hr
    rw [← e]; exact h.bd k c
  rw [List.length_map] at q
  exact q
theorem BI.start {M : Nat → Nat → Int} (hs : ∀ i j, M i j = M j i) (hb : ∀ i j, Bd (M i j : Rat) B) (hR : ∀ i, i < n → ∀ j, j < n → R i j = M i j) :
    BI n B (∀ v, 0 ≤ qf n (fun i j => (M i j : Rat)) v) True [] (List.range n) R 1 0 := by
  refine ⟨M, fun i j => by rw [Rat.pow_zero]; have := hb i j; rw [show (1 : Rat) * B = B by grind -verbose]; exact this, by decide, rfl, List.nodup_range, fun i _ h => (by cases h), by simp, by simp, fun i hi => ?_, fun i hi j hj => ?_, ?_⟩
  · refine ⟨fun _ => 0, .nil, fun c hc => (by cases hc), fun j hj => ?_⟩
    rw [hR i (List.mem_range.mp hi) j (List.mem_range.mp hj)]
    have : ((1 : Int) : Rat) = 1 := rfl
    rw [this]; grind -verbose
  · rw [hR i (List.mem_range.mp hi) j (List.mem_range.mp hj), hR j (List.mem_range.mp hj) i (List.mem_range.mp hi), hs]
  · have e : ∀ v, qf n (fun i j => (M i j : Rat)) v = lq (List.range n) (fun i j => (R i j : Rat) / ((1 : Int) : Rat)) v := fun v => by
      unfold lq
      rw [ls_range]
      refine sm_congr fun i hi => ?_
      rw [ls_range]
      refine sm_congr fun j hj => ?_
      show (M i j : Rat) * v i * v j = (R i j : Rat) / ((1 : Int) : Rat) * v i * v j
      rw [hR i hi j hj]
      have : ((1 : Int) : Rat) = 1 := rfl
      rw [this]; grind -verbose
    constructor
    · intro h
      exact ⟨True.intro, fun v => by rw [← e]; exact h v⟩
    · rintro ⟨_, h⟩ v
      rw [e]; exact h v
end
end K66

set_option Elab.async false
set_option linter.all false
namespace K66
def eI (l : List Int) (k : Nat) : Rat := ((l.getD k 0 : Int) : Rat)
def top (l : List Int) : Int := l.getD (l.length - 1) 0
/-- not empty, the last entry not 0 -/
def NE (l : List Int) : Prop := l ≠ [] ∧ top l ≠ 0
def Nrm (l : List Int) : Prop := l = [] ∨ top l ≠ 0
theorem NE.pos {l : List Int} (h : NE l) : 0 < l.length := by
  cases l with
  | nil => exact absurd rfl h.1
  | cons a l => simp
theorem eI_big {l : List Int} {k : Nat} (h : l.length ≤ k) : eI l k = 0 := by
  unfold eI
  rw [List.getD_eq_getElem?_getD, List.getElem?_eq_none h]; rfl
theorem eI_top {l : List Int} : eI l (l.length - 1) = (top l : Rat) := rfl
def pm (q w : Nat → Rat) (i : Nat) : Rat := sm (i + 1) fun k => q k * w (i - k)
/-- u times κ is w times q, less z times μ -/
def Rel (u w z : List Int) : Prop := ∃ κ μ : Rat, 0 < κ ∧ 0 < μ ∧ ∃ q : Nat → Rat, (∀ k, u.length - w.length < k → q k = 0) ∧ ∀ i, κ * eI u i = pm q (eI w) i - μ * eI z i
theorem pm_two {q w : Nat → Rat} (h : ∀ k, 1 < k → q k = 0) (i : Nat) : pm q w i = q 1 * sh w i + q 0 * w i := by
  unfold pm
  cases i with
  | zero => show (0 : Rat) + q 0 * w (0 - 0) = q 1 * 0 + q 0 * w 0; grind -verbose
  | succ i =>
    rw [sm_succ_left, sm_succ_left, sm_zero fun k _ => by rw [h (k + 1 + 1) (by omega)]; grind -verbose]
    show q 0 * w (i + 1 - 0) + (q 1 * w (i + 1 - 1) + 0) = q 1 * w i + q 0 * w (i + 1)
    rw [show i + 1 - 0 = i + 1 by omega, show i + 1 - 1 = i by omega]; grind -verbose
def Gd (u w : List Int) : Prop := w.length + 1 = u.length ∧ (0 < top u ↔ 0 < top w)
theorem pos_cast {x : Int} : (0 < x) ↔ (0 : Rat) < (x : Rat) := ⟨fun h => by exact_mod_cast h, fun h => by exact_mod_cast h⟩
theorem sgn_alg {κ a b q : Rat} (hκ : 0 < κ) (ha : a ≠ 0) (hb : b ≠ 0) (h : κ * a = q * b) : 0 ≤ q ↔ (0 < a ↔ 0 < b) := by
  have e : q * (b * b) = κ * (a * b) := by
    rw [← Rat.mul_assoc, ← h, Rat.mul_assoc]
  have hbb := sq_pos hb
  have hab : a * b ≠ 0 := fun e => by rcases Rat.mul_eq_zero.mp e with e | e <;> contradiction
  constructor
  · intro hq
    have h1 : 0 ≤ κ * (a * b) := by rw [← e]; exact nn_mul hq (Rat.le_of_lt hbb)
    have h2 := nn_of_mul hκ h1
    constructor
    · intro h3
      have := nn_of_mul h3 h2
      grind -verbose
    · intro h3
      have := nn_of_mul (b := a) h3 (by rw [Rat.mul_comm]; exact h2)
      grind -verbose
  · intro hs
    have h2 : 0 ≤ a * b := by
      rcases Rat.le_total (a := 0) (b := a) with h3 | h3
      · have : 0 < b := hs.mp (by grind -verbose)
        exact nn_mul h3 (Rat.le_of_lt this)
      · have hb0 : ¬ 0 < b := fun z => by have := hs.mpr z; grind -verbose
        have := nn_mul (a := -a) (b := -b) (by grind -verbose) (by grind -verbose)
        grind -verbose
    refine nn_of_mul hbb ?_
    rw [Rat.mul_comm, e]
    exact nn_mul (Rat.le_of_lt hκ) h2
theorem pair_psd {u w z : List Int} (hu : NE u) (hw : NE w) (h1 : w.length < u.length) (hz : z.length < w.length) (r : Rel u w z) :
    PSD (u.length - 1) (eI u) (eI w) ↔ Gd u w ∧ PSD (w.length - 1) (eI w) (eI z) := by
  have pu := hu.pos
  have pw := hw.pos
  have tu : (top u : Rat) ≠ 0 := fun e => hu.2 (by exact_mod_cast e)
  have tw : (top w : Rat) ≠ 0 := fun e => hw.2 (by exact_mod_cast e)
  by_cases hd : w.length + 1 = u.length
  · obtain ⟨κ, μ, hκ, hμ, q, hq, hr⟩ := r
    have q2 : ∀ k, 1 < k → q k = 0 := fun k hk => hq k (by omega)
    have hrel : ∀ i, κ * eI u i = q 1 * sh (eI w) i + q 0 * eI w i - μ * eI z i := fun i => by rw [hr, pm_two q2]
    obtain ⟨d, hd2⟩ : ∃ d, w.length = d + 1 := ⟨w.length - 1, by omega⟩
    have e1 : u.length - 1 = d + 1 := by omega
    have e2 : w.length - 1 = d := by omega
    have st := step_psd hκ hμ hrel (d := d) (fun k hk => eI_big (by omega)) (fun k hk => eI_big (by omega)) (by rw [← e2, eI_top]; exact tw)
    rw [e1, e2, st]
    have tp := hrel (d + 1)
    have e3 : eI u (d + 1) = (top u : Rat) := by rw [← e1]; rfl
    have e4 : sh (eI w) (d + 1) = (top w : Rat) := by show eI w d = _; rw [← e2]; rfl
    rw [e3, e4, eI_big (l := w) (by omega), eI_big (l := z) (by omega)] at tp
    have sg := sgn_alg hκ tu tw (q := q 1) (by rw [tp]; grind -verbose)
    rw [sg]
    unfold Gd
    rw [← pos_cast, ← pos_cast]
    constructor
    · rintro ⟨a, b⟩
      exact ⟨⟨hd, a⟩, b⟩
    · rintro ⟨⟨_, a⟩, b⟩
      exact ⟨a, b⟩
  · constructor
    · intro h
      obtain ⟨n, hn⟩ : ∃ n, u.length = n + 2 := ⟨u.length - 2, by omega⟩
      rw [show u.length - 1 = n + 1 by omega] at h
      exact absurd h (fall_psd (e := w.length - 1) (fun k hk => eI_big (by omega)) (by
        have : eI u (n + 1) = (top u : Rat) := by rw [show n + 1 = u.length - 1 by omega]; rfl
        rw [this]; exact tu) (fun k hk => eI_big (by omega)) (by rw [eI_top]; exact tw))
    · rintro ⟨⟨h, _⟩, _⟩
      exact absurd h hd
/-- a row of rests -/
def Ch : List (List Int) → Prop
  | u :: w :: z :: rest => NE u ∧ NE w ∧ w.length < u.length ∧ z.length < w.length ∧ Rel u w z ∧ Ch (w :: z :: rest)
  | [u, w] => NE u ∧ Nrm w ∧ w.length < u.length
  | _ => False
theorem Ch.snoc {a b c : List Int} (hb : NE b) (hc : Nrm c) (hl : c.length < b.length) (hr : Rel a b c) : ∀ {l : List (List Int)}, Ch (l ++ [a, b]) → Ch (l ++ [a, b, c])
  | [], h => by
    obtain ⟨h1, h2, h3⟩ := h
    exact ⟨h1, hb, h3, hl, hr, hb, hc, hl⟩
  | [u], h => by
    obtain ⟨h1, h2, h3, h4, h5, h6⟩ := h
    exact ⟨h1, h2, h3, h4, h5, Ch.snoc (l := []) hb hc hl hr h6⟩
  | [u, w], h => by
    obtain ⟨h1, h2, h3, h4, h5, h6⟩ := h
    exact ⟨h1, h2, h3, h4, h5, Ch.snoc (l := [w]) hb hc hl hr h6⟩
  | u :: w :: z :: l, h => by
    obtain ⟨h1, h2, h3, h4, h5, h6⟩ := h
    exact ⟨h1, h2, h3, h4, h5, Ch.snoc (l := w :: z :: l) hb hc hl hr h6⟩
def good : List (List Int) → Prop
  | u :: w :: rest => Gd u w ∧ good (w :: rest)
  | _ => True
theorem Ch.psd : ∀ {rows : List (List Int)} {u : List Int}, Ch (u :: rows ++ [[]]) → (PSD (u.length - 1) (eI u) (eI ((rows ++ [[]]).headD [])) ↔ good (u :: rows))
  | [], u, h => by
    have e : eI ([] : List Int) = fun _ => 0 := funext fun k => eI_big (by simp)
    show PSD (u.length - 1) (eI u) (eI []) ↔ True
    rw [e]
    exact ⟨fun _ => True.intro, fun _ => psd_nought _ _⟩
  | [w], u, h => by
    obtain ⟨h1, h2, h3, h4, h5, h6⟩ := h
    have := Ch.psd (rows := []) (u := w) h6
    show PSD (u.length - 1) (eI u) (eI w) ↔ Gd u w ∧ good [w]
    rw [pair_psd h1 h2 h3 h4 h5, ← this]; rfl
  | w :: z :: rest, u, h => by
    obtain ⟨h1, h2, h3, h4, h5, h6⟩ := h
    have := Ch.psd (rows := z :: rest) (u := w) h6
    show PSD (u.length - 1) (eI u) (eI w) ↔ Gd u w ∧ good (w :: z :: rest)
    rw [pair_psd h1 h2 h3 h4 h5, ← this]; rfl
def chg : List Bool → Int
  | a :: b :: l => (if a = b then 0 else 1) + chg (b :: l)
  | _ => 0
def far (r : List Int) : Bool := decide (0 < top r)
def odd (r : List Int) : Bool := !decide ((r.length : Int) / 2 * 2 = (r.length : Int))
def near (r : List Int) : Bool := far r == odd r
def Dec : List (List Int) → Prop
  | u :: w :: rest => w.length < u.length ∧ Dec (w :: rest)
  | _ => True
theorem Ch.dec : ∀ {rows : List (List Int)}, Ch rows → Dec rows
  | [], h => h.elim
  | [_], h => h.elim
  | [u, w], h => ⟨h.2.2, True.intro⟩
  | u :: w :: z :: rest, h => ⟨h.2.2.1, Ch.dec (rows := w :: z :: rest) h.2.2.2.2.2⟩
theorem Dec.init {a : List Int} : ∀ {rows : List (List Int)}, Dec (rows ++ [a]) → Dec rows
  | [], _ => True.intro
  | [_], _ => True.intro
  | u :: w :: rest, h => ⟨h.1, Dec.init (rows := w :: rest) h.2⟩
theorem cnt_pair {u w : List Int} (h : w.length < u.length) :
    ((if near u = near w then 0 else 1 : Int) - (if far u = far w then 0 else 1) ≤ u.length - w.length) ∧
    ((if near u = near w then 0 else 1 : Int) - (if far u = far w then 0 else 1) = u.length - w.length ↔ Gd u w) := by
  have hodd : ∀ r : List Int, odd r = true ↔ r.length % 2 = 1 := fun r => by
    unfold odd
    rw [Bool.not_eq_true', decide_eq_false_iff_not]
    omega
  have hgd : Gd u w ↔ (w.length + 1 = u.length ∧ far u = far w) := by
    unfold Gd far
    rw [decide_eq_decide]
  rw [hgd]
  have ou := hodd u
  have ow := hodd w
  unfold near
  cases fu : far u <;> cases fw : far w <;> cases hu : odd u <;> cases hw : odd w <;> rw [hu] at ou <;> rw [hw] at ow <;> simp at ou ow ⊢ <;> omega
theorem cnt : ∀ {rows : List (List Int)} {u : List Int}, Dec (u :: rows) →
    chg ((u :: rows).map near) - chg ((u :: rows).map far) ≤ u.length - ((u :: rows).getLastD []).length ∧
    (chg ((u :: rows).map near) - chg ((u :: rows).map far) = u.length - ((u :: rows).getLastD []).length ↔ good (u :: rows))
  | [], u, _ => by
    show (0 : Int) - 0 ≤ u.length - u.length ∧ ((0 : Int) - 0 = u.length - u.length ↔ True)
    constructor
    · omega
    · simp
  | w :: rows, u, h => by
    obtain ⟨a1, a2⟩ := cnt_pair h.1
    obtain ⟨b1, b2⟩ := cnt h.2
    have e1 : chg ((u :: w :: rows).map near) = (if near u = near w then 0 else 1) + chg ((w :: rows).map near) := rfl
    have e2 : chg ((u :: w :: rows).map far) = (if far u = far w then 0 else 1) + chg ((w :: rows).map far) := rfl
    have e3 : (u :: w :: rows).getLastD [] = (w :: rows).getLastD [] := rfl
    rw [e1, e2, e3]
    show _ ∧ (_ ↔ Gd u w ∧ good (w :: rows))
    rw [← a2, ← b2]
    generalize (if near u = near w then 0 else 1 : Int) = x1 at *
    generalize (if far u = far w then 0 else 1 : Int) = x2 at *
    generalize chg ((w :: rows).map near) = x3 at *
    generalize chg ((w :: rows).map far) = x4 at *
    constructor
    · omega
    · omega
theorem pm_add (q q' w : Nat → Rat) (i : Nat) : pm (fun k => q k + q' k) w i = pm q w i + pm q' w i := by
  unfold pm
  rw [← sm_add]
  exact sm_congr fun k _ => by grind -verbose
theorem pm_mul (c : Rat) (q w : Nat → Rat) (i : Nat) : pm (fun k => c * q k) w i = c * pm q w i := by
  unfold pm
  rw [← sm_mul]
  exact sm_congr fun k _ => by grind -verbose
theorem pm_ind (c : Rat) (s : Nat) (w : Nat → Rat) (i : Nat) : pm (fun k => if k = s then c else 0) w i = if s ≤ i then c * w (i - s) else 0 := by
  unfold pm
  by_cases h : s ≤ i
  · rw [if_pos h]
    have := sm_one (n := i + 1) (a := s) c (fun k => w (i - k)) (by omega)
    rw [show (fun k => (if k = s then c else 0) * w (i - k)) = fun k => w (i - k) * (if k = s then c else 0) from funext fun k => by grind -verbose, this]
    grind -verbose
  · rw [if_neg h]
    exact sm_zero fun k hk => by
      show (if k = s then c else 0) * w (i - k) = 0
      rw [if_neg (by omega)]; grind -verbose
/-- what a rest keeps: one times κ is other times q, and r added -/
def Rst (one other r : List Int) : Prop := ∃ κ : Rat, 0 < κ ∧ ∃ q : Nat → Rat, (∀ k, one.length - other.length < k → q k = 0) ∧ ∀ i, κ * eI one i = pm q (eI other) i + eI r i
theorem Rst.start (one other : List Int) : Rst one other one := ⟨1, by grind -verbose, fun _ => 0, fun _ _ => rfl, fun i => by
  have : pm (fun _ => 0) (eI other) i = 0 := sm_zero fun k _ => by grind -verbose
  rw [this]; grind -verbose⟩
/-- one turn: size is the size of other's last, last that of r, with other's sign -/
theorem Rst.turn {one other r r' : List Int} (h : Rst one other r) (hl : r.length ≤ one.length) (hr : other.length ≤ r.length) (size last : Int) (hs : 0 < size)
    (he : ∀ i, r'.getD i 0 = r.getD i 0 * size - (if r.length - other.length ≤ i then last * other.getD (i - (r.length - other.length)) 0 else 0)) : Rst one other r' := by
  obtain ⟨κ, hκ, q, hq, hi⟩ := h
  have hs' : (0 : Rat) < (size : Rat) := pos_cast.mp hs
  refine ⟨(size : Rat) * κ, ?_, fun k => (size : Rat) * q k + (if k = r.length - other.length then (last : Rat) else 0), fun k hk => ?_, fun i => ?_⟩
  · have h1 := nn_mul (Rat.le_of_lt hs') (Rat.le_of_lt hκ)
    have h2 : (size : Rat) * κ ≠ 0 := fun e => by rcases Rat.mul_eq_zero.mp e with e | e <;> grind -verbose
    grind -verbose
  · show (size : Rat) * q k + (if k = r.length - other.length then (last : Rat) else 0) = 0
    rw [hq k hk, if_neg (by omega)]; grind -verbose
  · rw [pm_add, pm_mul, pm_ind]
    have e1 := hi i
    have e2 : eI r' i = eI r i * (size : Rat) - (if r.length - other.length ≤ i then (last : Rat) * eI other (i - (r.length - other.length)) else 0) := by
      unfold eI
      rw [he, Rat.intCast_sub, Rat.intCast_mul]
      split
      · rw [Rat.intCast_mul]
      · rfl
    rw [e2]
    grind -verbose
theorem Rst.same {one other r r' : List Int} (h : Rst one other r) (he : ∀ i, r'.getD i 0 = r.getD i 0) : Rst one other r' := by
  obtain ⟨κ, hκ, q, hq, hi⟩ := h
  exact ⟨κ, hκ, q, hq, fun i => by rw [hi]; unfold eI; rw [he]⟩
/-- the end: the common part c is divided out, the signs turned -/
theorem Rst.rel {one other r z : List Int} (h : Rst one other r) (c : Int) (hc : 0 < c) (he : ∀ i, r.getD i 0 = - (c * z.getD i 0)) : Rel one other z := by
  obtain ⟨κ, hκ, q, hq, hi⟩ := h
  refine ⟨κ, (c : Rat), hκ, pos_cast.mp hc, q, hq, fun i => ?_⟩
  rw [hi]
  have : eI r i = - ((c : Rat) * eI z i) := by
    unfold eI
    rw [he, Rat.intCast_neg, Rat.intCast_mul]
  rw [this]; grind -verbose
end K66

set_option Elab.async false
set_option linter.all false
namespace K66
theorem psd2_of {α β γ : Rat} (h : ∀ x y : Rat, 0 ≤ α * x * x + 2 * β * x * y + γ * y * y) : 0 ≤ α ∧ 0 ≤ γ ∧ β * β ≤ α * γ := by
  have h1 := h 1 0
  have h2 := h 0 1
  have ha : 0 ≤ α := by grind -verbose
  have hg : 0 ≤ γ := by grind -verbose
  refine ⟨ha, hg, ?_⟩
  by_cases e : γ = 0
  · subst e
    have e2 : α * 0 = 0 := by grind -verbose
    rw [e2]
    by_cases b0 : β = 0
    · subst b0; grind -verbose
    · have h3 := h 1 (-(α + 1) / (2 * β))
      have : 2 * β * 1 * (-(α + 1) / (2 * β)) = -(α + 1) := by grind -verbose
      rw [this] at h3
      grind -verbose
  · have h3 := h γ (-β)
    have hg' : 0 < γ := by grind -verbose
    have e3 : α * γ * γ + 2 * β * γ * (-β) + γ * (-β) * (-β) = γ * (α * γ - β * β) := by grind -verbose
    rw [e3] at h3
    have := nn_of_mul hg' h3
    grind -verbose
theorem psd2_to {α β γ : Rat} (ha : 0 ≤ α) (hg : 0 ≤ γ) (h : β * β ≤ α * γ) (x y : Rat) : 0 ≤ α * x * x + 2 * β * x * y + γ * y * y := by
  by_cases e : γ = 0
  · subst e
    have b0 : β * β = 0 := by
      have := sq_nn β
      grind -verbose
    have b1 : β = 0 := by rcases Rat.mul_eq_zero.mp b0 with e | e <;> exact e
    subst b1
    have := nn_mul ha (sq_nn x)
    grind -verbose
  · have hg' : 0 < γ := by grind -verbose
    refine nn_of_mul hg' ?_
    have e3 : γ * (α * x * x + 2 * β * x * y + γ * y * y) = (γ * y + β * x) * (γ * y + β * x) + (α * γ - β * β) * (x * x) := by grind -verbose
    rw [e3]
    have h1 := sq_nn (γ * y + β * x)
    have h2 := nn_mul (a := α * γ - β * β) (b := x * x) (by grind -verbose) (sq_nn x)
    grind -verbose
theorem le_of_sq {x y : Rat} (hy : 0 ≤ y) (h : x * x ≤ y * y) : x ≤ y := by
  rcases Rat.le_total (a := x) (b := y) with h' | h'
  · exact h'
  · by_cases e : x = y
    · rw [e]; exact Rat.le_refl
    · have h1 : 0 < x - y := by grind -verbose
      have h2 : 0 < x + y := by grind -verbose
      have h3 := nn_of_mul (a := x - y) (b := -(x + y)) h1 (by
        have : (x - y) * -(x + y) = y * y - x * x := by grind -verbose
        rw [this]; grind -verbose)
      grind -verbose
def N4 (a b e w0 w1 w2 : Rat) : Rat := (b * b + a * e + 2 * a * a * a) * w0 * w0 + (2 * a * a - e) * w1 * w1 + a * w2 * w2 - 4 * a * b * w0 * w1 - 2 * e * w0 * w2 - 2 * b * w1 * w2
def K4 (a b e : Rat) : Prop := ∀ w0 w1 w2 : Rat, 0 ≤ N4 a b e w0 w1 w2
theorem K4.facts {a b e : Rat} (h : K4 a b e) : 0 ≤ a ∧ b * b ≤ (2 * a * a - e) * a ∧ e * e ≤ (b * b + a * e + 2 * a * a * a) * a := by
  have h1 := psd2_of (α := 2 * a * a - e) (β := -b) (γ := a) fun x y => by
    have := h 0 x y
    unfold N4 at this
    grind -verbose
  have h2 := psd2_of (α := b * b + a * e + 2 * a * a * a) (β := -e) (γ := a) fun x y => by
    have := h x 0 y
    unfold N4 at this
    grind -verbose
  refine ⟨h1.2.1, ?_, ?_⟩
  · have := h1.2.2; grind -verbose
  · have := h2.2.2; grind -verbose
theorem K4.e {a b e : Rat} (h : K4 a b e) : e ≤ 2 * (a * a) ∧ -(2 * (a * a)) ≤ e := by
  obtain ⟨ha, hb, he⟩ := h.facts
  have h1 : e * e ≤ (2 * (a * a)) * (2 * (a * a)) := by
    have := nn_mul (a := (2 * a * a - e) * a - b * b) (b := a) (by grind -verbose) ha
    grind -verbose
  have hn : 0 ≤ 2 * (a * a) := by have := sq_nn a; grind -verbose
  refine ⟨le_of_sq hn h1, ?_⟩
  have := le_of_sq (x := -e) hn (by grind -verbose)
  grind -verbose
theorem K4.b {a b e : Rat} (h : K4 a b e) : b * b ≤ 4 * (a * a * a) := by
  obtain ⟨ha, hb, he⟩ := h.facts
  have h1 := h.e
  have := nn_mul (a := e + 2 * (a * a)) (b := a) (by grind -verbose) ha
  grind -verbose
theorem K4.zero {b e : Rat} (h : K4 0 b e) : b = 0 ∧ e = 0 := by
  have h1 := h.e
  have h2 := h.b
  have h3 := sq_nn b
  constructor
  · have : b * b = 0 := by grind -verbose
    rcases Rat.mul_eq_zero.mp this with e | e <;> exact e
  · grind -verbose
theorem K4.add {a b e a' b' e' : Rat} (h : K4 a b e) (h' : K4 a' b' e') : K4 (a + a') (b + b') (e + e') := by
  by_cases ea : a = 0
  · subst ea
    obtain ⟨rfl, rfl⟩ := h.zero
    rw [show (0 : Rat) + a' = a' by grind -verbose, show (0 : Rat) + b' = b' by grind -verbose, show (0 : Rat) + e' = e' by grind -verbose]
    exact h'
  by_cases ea' : a' = 0
  · subst ea'
    obtain ⟨rfl, rfl⟩ := h'.zero
    rw [show a + 0 = a by grind -verbose, show b + 0 = b by grind -verbose, show e + 0 = e by grind -verbose]
    exact h
  have f1 := h.facts
  have f2 := h'.facts
  have pa : 0 < a := by grind -verbose
  have pa' : 0 < a' := by grind -verbose
  have e1 := h.e
  have e2 := h'.e
  have g1 : 0 ≤ 6 * (a * a * a) + a * e - b * b := by
    have := nn_mul (a := e + 2 * (a * a)) (b := a) (by grind -verbose) f1.1
    grind -verbose
  have g2 : 0 ≤ 6 * (a' * a' * a') + a' * e' - b' * b' := by
    have := nn_mul (a := e' + 2 * (a' * a')) (b := a') (by grind -verbose) f2.1
    grind -verbose
  have det : (-2 * (a * b' + a' * b)) * (-2 * (a * b' + a' * b)) ≤ (2 * b * b' + a * e' + a' * e + 6 * a * a' * (a + a')) * (4 * a * a') := by
    have t1 := nn_mul (sq_nn a) g2
    have t2 := nn_mul (sq_nn a') g1
    grind -verbose
  have hY : 0 ≤ 4 * a * a' := by have := nn_mul f1.1 f2.1; grind -verbose
  have hX : 0 ≤ 2 * b * b' + a * e' + a' * e + 6 * a * a' * (a + a') := by
    have hYp : 0 < 4 * a * a' := by
      have : 4 * a * a' ≠ 0 := fun z => by
        rcases Rat.mul_eq_zero.mp z with z | z
        · rcases Rat.mul_eq_zero.mp z with z | z
          · grind -verbose
          · exact ea z
        · exact ea' z
      grind -verbose
    have := sq_nn (-2 * (a * b' + a' * b))
    refine nn_of_mul hYp ?_
    rw [Rat.mul_comm]
    exact Rat.le_trans this det
  intro w0 w1 w2
  have p1 := h w0 w1 w2
  have p2 := h' w0 w1 w2
  have p3 := psd2_to hX hY det w0 w1
  have key : N4 (a + a') (b + b') (e + e') w0 w1 w2 = N4 a b e w0 w1 w2 + N4 a' b' e' w0 w1 w2 + ((2 * b * b' + a * e' + a' * e + 6 * a * a' * (a + a')) * w0 * w0 + 2 * (-2 * (a * b' + a' * b)) * w0 * w1 + 4 * a * a' * w1 * w1) := by
    unfold N4; grind -verbose
  rw [key]
  grind -verbose
def K3 (a b : Rat) : Prop := 0 ≤ a ∧ b * b ≤ a * a * a
theorem K3.add {a b a' b' : Rat} (h : K3 a b) (h' : K3 a' b') : K3 (a + a') (b + b') := by
  obtain ⟨ha, hb⟩ := h
  obtain ⟨ha', hb'⟩ := h'
  refine ⟨by grind -verbose, ?_⟩
  have hp := nn_mul ha ha'
  have cube : 0 ≤ a * a * a := nn_mul (nn_mul ha ha) ha
  have cube' : 0 ≤ a' * a' * a' := nn_mul (nn_mul ha' ha') ha'
  have m1 : (b * b) * (b' * b') ≤ (a * a * a) * (a' * a' * a') := by
    have t1 := nn_mul (a := a * a * a - b * b) (b := a' * a' * a') (by grind -verbose) cube'
    have t2 := nn_mul (a := b * b) (b := a' * a' * a' - b' * b') (sq_nn b) (by grind -verbose)
    grind -verbose
  have m2 : 2 * (b * b') ≤ 3 * (a * a' * (a + a')) := by
    refine le_of_sq (by have := nn_mul hp (a := a * a') (b := a + a') (by grind -verbose); grind -verbose) ?_
    have t3 := nn_mul (nn_mul hp hp) (sq_nn (a - a'))
    have t4 := nn_mul (nn_mul hp hp) (sq_nn (a + a'))
    grind -verbose
  grind -verbose
def a4 (c2 c3 : Rat) : Rat := (3 * c3 * c3 - 8 * c2) / 48
def b4 (c1 c2 c3 : Rat) : Rat := (8 * c1 - 4 * c2 * c3 + c3 * c3 * c3) / 32
def e4 (c0 c1 c2 c3 : Rat) : Rat := (c0 - c1 * c3 / 4 + c2 * c3 * c3 / 16 - 3 * c3 * c3 * c3 * c3 / 256) / 3 - a4 c2 c3 * a4 c2 c3
def a3 (c1 c2 : Rat) : Rat := (c2 * c2 - 3 * c1) / 9
def b3 (c0 c1 c2 : Rat) : Rat := (27 * c0 - 9 * c1 * c2 + 2 * c2 * c2 * c2) / 54
def R4 (x0 x1 x2 x3 x4 : Rat) : Prop := K4 (a4 (x2 / x4) (x3 / x4)) (b4 (x1 / x4) (x2 / x4) (x3 / x4)) (e4 (x0 / x4) (x1 / x4) (x2 / x4) (x3 / x4))
def R3 (x0 x1 x2 x3 : Rat) : Prop := K3 (a3 (x1 / x3) (x2 / x3)) (b3 (x0 / x3) (x1 / x3) (x2 / x3))
def R2 (x0 x1 x2 : Rat) : Prop := 0 ≤ x1 * x1 - 4 * x0 * x2
def Z2 (x0 x1 x2 : Rat) : Prop := x2 ≠ 0 → R2 x0 x1 x2
def Z3 (x0 x1 x2 x3 : Rat) : Prop := (x3 = 0 → Z2 x0 x1 x2) ∧ (x3 ≠ 0 → R3 x0 x1 x2 x3)
def Z4 (x0 x1 x2 x3 x4 : Rat) : Prop := (x4 = 0 → Z3 x0 x1 x2 x3) ∧ (x4 ≠ 0 → R4 x0 x1 x2 x3 x4)
/-- the slope -/
theorem Z4.slope {x0 x1 x2 x3 x4 : Rat} (h : Z4 x0 x1 x2 x3 x4) : Z3 x1 (2 * x2) (3 * x3) (4 * x4) := by
  constructor
  · intro h4
    have h4' : x4 = 0 := by grind -verbose
    obtain ⟨h3, h3'⟩ := h.1 h4'
    intro hx
    have hx3 : x3 ≠ 0 := by grind -verbose
    have q := (h3' hx3).1
    unfold R2
    unfold a3 at q
    have e : (2 * x2) * (2 * x2) - 4 * x1 * (3 * x3) = 4 * (x3 * x3) * (9 * ((x2 / x3 * (x2 / x3) - 3 * (x1 / x3)) / 9)) := by grind -verbose
    rw [e]
    have := sq_nn x3
    exact nn_mul (by grind -verbose) (by grind -verbose)
  · intro hx
    have hx4 : x4 ≠ 0 := by grind -verbose
    have k := h.2 hx4
    have f := k.facts
    have fb := k.b
    unfold R3
    have e1 : a3 (2 * x2 / (4 * x4)) (3 * x3 / (4 * x4)) = a4 (x2 / x4) (x3 / x4) := by unfold a3 a4; grind -verbose
    have e2 : b3 (x1 / (4 * x4)) (2 * x2 / (4 * x4)) (3 * x3 / (4 * x4)) = b4 (x1 / x4) (x2 / x4) (x3 / x4) / 2 := by unfold b3 b4; grind -verbose
    rw [e1, e2]
    refine ⟨f.1, ?_⟩
    grind -verbose
theorem Z3.slope {x0 x1 x2 x3 : Rat} (h : Z3 x0 x1 x2 x3) : Z2 x1 (2 * x2) (3 * x3) := by
  intro hx
  have hx3 : x3 ≠ 0 := by grind -verbose
  have q := (h.2 hx3).1
  unfold R2
  unfold a3 at q
  have e : (2 * x2) * (2 * x2) - 4 * x1 * (3 * x3) = 4 * (x3 * x3) * (9 * ((x2 / x3 * (x2 / x3) - 3 * (x1 / x3)) / 9)) := by grind -verbose
  rw [e]
  have := sq_nn x3
  exact nn_mul (by grind -verbose) (by grind -verbose)
theorem scale2 {k x0 x1 x2 : Rat} (hk : k ≠ 0) : Z2 (k * x0) (k * x1) (k * x2) ↔ Z2 x0 x1 x2 := by
  unfold Z2 R2
  have e : k * x1 * (k * x1) - 4 * (k * x0) * (k * x2) = k * k * (x1 * x1 - 4 * x0 * x2) := by grind -verbose
  rw [e]
  have hk2 := sq_pos hk
  have hz : k * x2 ≠ 0 ↔ x2 ≠ 0 := by
    constructor
    · intro h e; exact h (by rw [e]; grind -verbose)
    · intro h e; rcases Rat.mul_eq_zero.mp e with e | e <;> contradiction
  rw [hz]
  constructor
  · intro h hx; exact nn_of_mul hk2 (h hx)
  · intro h hx; exact nn_mul (Rat.le_of_lt hk2) (h hx)
theorem div_scale {k x y : Rat} (hk : k ≠ 0) (hy : y ≠ 0) : k * x / (k * y) = x / y := by grind -verbose
theorem scale3 {k x0 x1 x2 x3 : Rat} (hk : k ≠ 0) : Z3 (k * x0) (k * x1) (k * x2) (k * x3) ↔ Z3 x0 x1 x2 x3 := by
  unfold Z3
  rw [scale2 hk]
  have hz : k * x3 = 0 ↔ x3 = 0 := by
    constructor
    · intro e; rcases Rat.mul_eq_zero.mp e with e | e
      · contradiction
      · exact e
    · intro e; rw [e]; grind -verbose
  rw [ne_eq, hz]
  by_cases h3 : x3 = 0
  · simp [h3]
  · have e : R3 (k * x0) (k * x1) (k * x2) (k * x3) ↔ R3 x0 x1 x2 x3 := by
      unfold R3
      rw [div_scale hk h3, div_scale hk h3, div_scale hk h3]
    rw [e]
theorem scale4 {k x0 x1 x2 x3 x4 : Rat} (hk : k ≠ 0) : Z4 (k * x0) (k * x1) (k * x2) (k * x3) (k * x4) ↔ Z4 x0 x1 x2 x3 x4 := by
  unfold Z4
  rw [scale3 hk]
  have hz : k * x4 = 0 ↔ x4 = 0 := by
    constructor
    · intro e; rcases Rat.mul_eq_zero.mp e with e | e
      · contradiction
      · exact e
    · intro e; rw [e]; grind -verbose
  rw [ne_eq, hz]
  by_cases h4 : x4 = 0
  · simp [h4]
  · have e : R4 (k * x0) (k * x1) (k * x2) (k * x3) (k * x4) ↔ R4 x0 x1 x2 x3 x4 := by
      unfold R4
      rw [div_scale hk h4, div_scale hk h4, div_scale hk h4, div_scale hk h4]
    rw [e]
theorem close2 {q0 q1 q2 f0 f1 f2 : Rat} (hg : Z2 (2 * q2) (2 * q1) q0) (hf : Z2 f0 f1 f2) : Z2 (q0 * f0 + q1 * f1 + 2 * q2 * f2) (q0 * f1 + 2 * q1 * f2) (q0 * f2) := by
  intro h
  have h1 : q0 ≠ 0 := fun e => h (by rw [e]; grind -verbose)
  have h2 : f2 ≠ 0 := fun e => h (by rw [e]; grind -verbose)
  have g := hg h1
  have f := hf h2
  unfold R2 at *
  have e : (q0 * f1 + 2 * q1 * f2) * (q0 * f1 + 2 * q1 * f2) - 4 * (q0 * f0 + q1 * f1 + 2 * q2 * f2) * (q0 * f2) = q0 * q0 * (f1 * f1 - 4 * f0 * f2) + f2 * f2 * (2 * q1 * (2 * q1) - 4 * (2 * q2) * q0) := by grind -verbose
  rw [e]
  have t1 := nn_mul (sq_nn q0) f
  have t2 := nn_mul (sq_nn f2) g
  grind -verbose
theorem core3 {q0 q1 q2 q3 f0 f1 f2 f3 : Rat} (h1 : q0 ≠ 0) (h2 : f3 ≠ 0) (hg : R3 (6 * q3) (6 * q2) (3 * q1) q0) (hf : R3 f0 f1 f2 f3) :
    R3 (q0 * f0 + q1 * f1 + 2 * q2 * f2 + 6 * q3 * f3) (q0 * f1 + 2 * q1 * f2 + 6 * q2 * f3) (q0 * f2 + 3 * q1 * f3) (q0 * f3) := by
  have t := K3.add hg hf
  unfold R3
  have ea : a3 ((q0 * f1 + 2 * q1 * f2 + 6 * q2 * f3) / (q0 * f3)) ((q0 * f2 + 3 * q1 * f3) / (q0 * f3)) = a3 (6 * q2 / q0) (3 * q1 / q0) + a3 (f1 / f3) (f2 / f3) := by
    have d1 : (q0 * f1 + 2 * q1 * f2 + 6 * q2 * f3) / (q0 * f3) = f1 / f3 + 2 * (q1 / q0) * (f2 / f3) + 6 * (q2 / q0) := by grind -verbose
    have d2 : (q0 * f2 + 3 * q1 * f3) / (q0 * f3) = f2 / f3 + 3 * (q1 / q0) := by grind -verbose
    have d3 : 6 * q2 / q0 = 6 * (q2 / q0) := by grind -verbose
    have d4 : 3 * q1 / q0 = 3 * (q1 / q0) := by grind -verbose
    rw [d1, d2, d3, d4]
    generalize q1 / q0 = x
    generalize q2 / q0 = y
    generalize f1 / f3 = z
    generalize f2 / f3 = w
    unfold a3; grind -verbose
  have eb : b3 ((q0 * f0 + q1 * f1 + 2 * q2 * f2 + 6 * q3 * f3) / (q0 * f3)) ((q0 * f1 + 2 * q1 * f2 + 6 * q2 * f3) / (q0 * f3)) ((q0 * f2 + 3 * q1 * f3) / (q0 * f3)) = b3 (6 * q3 / q0) (6 * q2 / q0) (3 * q1 / q0) + b3 (f0 / f3) (f1 / f3) (f2 / f3) := by
    have d0 : (q0 * f0 + q1 * f1 + 2 * q2 * f2 + 6 * q3 * f3) / (q0 * f3) = f0 / f3 + (q1 / q0) * (f1 / f3) + 2 * (q2 / q0) * (f2 / f3) + 6 * (q3 / q0) := by grind -verbose
    have d1 : (q0 * f1 + 2 * q1 * f2 + 6 * q2 * f3) / (q0 * f3) = f1 / f3 + 2 * (q1 / q0) * (f2 / f3) + 6 * (q2 / q0) := by grind -verbose
    have d2 : (q0 * f2 + 3 * q1 * f3) / (q0 * f3) = f2 / f3 + 3 * (q1 / q0) := by grind -verbose
    have d3 : 6 * q2 / q0 = 6 * (q2 / q0) := by grind -verbose
    have d4 : 3 * q1 / q0 = 3 * (q1 / q0) := by grind -verbose
    have d5 : 6 * q3 / q0 = 6 * (q3 / q0) := by grind -verbose
    rw [d0, d1, d2, d3, d4, d5]
    generalize q1 / q0 = x
    generalize q2 / q0 = y
    generalize q3 / q0 = u
    generalize f0 / f3 = v
    generalize f1 / f3 = z
    generalize f2 / f3 = w
    unfold b3; grind -verbose
  rw [ea, eb]
  exact t
theorem dv2 {q0 q1 q2 f2 f3 f4 : Rat} (h1 : q0 ≠ 0) (h2 : f4 ≠ 0) : (q0 * f2 + 3 * q1 * f3 + 12 * q2 * f4) / (q0 * f4) = f2 / f4 + 3 * (q1 / q0) * (f3 / f4) + 12 * (q2 / q0) := by grind -verbose
theorem dv3 {q0 q1 f3 f4 : Rat} (h1 : q0 ≠ 0) (h2 : f4 ≠ 0) : (q0 * f3 + 4 * q1 * f4) / (q0 * f4) = f3 / f4 + 4 * (q1 / q0) := by grind -verbose
theorem core4 {q0 q1 q2 q3 q4 f0 f1 f2 f3 f4 : Rat} (h1 : q0 ≠ 0) (h2 : f4 ≠ 0) (hg : R4 (24 * q4) (24 * q3) (12 * q2) (4 * q1) q0) (hf : R4 f0 f1 f2 f3 f4) :
    R4 (q0 * f0 + q1 * f1 + 2 * q2 * f2 + 6 * q3 * f3 + 24 * q4 * f4) (q0 * f1 + 2 * q1 * f2 + 6 * q2 * f3 + 24 * q3 * f4) (q0 * f2 + 3 * q1 * f3 + 12 * q2 * f4) (q0 * f3 + 4 * q1 * f4) (q0 * f4) := by
  have t := K4.add hg hf
  unfold R4
  have d0 : (q0 * f0 + q1 * f1 + 2 * q2 * f2 + 6 * q3 * f3 + 24 * q4 * f4) / (q0 * f4) = f0 / f4 + (q1 / q0) * (f1 / f4) + 2 * (q2 / q0) * (f2 / f4) + 6 * (q3 / q0) * (f3 / f4) + 24 * (q4 / q0) := by grind -verbose
  have d1 : (q0 * f1 + 2 * q1 * f2 + 6 * q2 * f3 + 24 * q3 * f4) / (q0 * f4) = f1 / f4 + 2 * (q1 / q0) * (f2 / f4) + 6 * (q2 / q0) * (f3 / f4) + 24 * (q3 / q0) := by grind -verbose
  have d2 := dv2 (q1 := q1) (q2 := q2) (f2 := f2) (f3 := f3) h1 h2
  have d3 := dv3 (q1 := q1) (f3 := f3) h1 h2
  have d4 : 24 * q4 / q0 = 24 * (q4 / q0) := by grind -verbose
  have d5 : 24 * q3 / q0 = 24 * (q3 / q0) := by grind -verbose
  have d6 : 12 * q2 / q0 = 12 * (q2 / q0) := by grind -verbose
  have d7 : 4 * q1 / q0 = 4 * (q1 / q0) := by grind -verbose
  rw [d0, d1, d2, d3]
  rw [d4, d5, d6, d7] at t
  revert t
  generalize q1 / q0 = x1
  generalize q2 / q0 = x2
  generalize q3 / q0 = x3
  generalize q4 / q0 = x4
  generalize f0 / f4 = y0
  generalize f1 / f4 = y1
  generalize f2 / f4 = y2
  generalize f3 / f4 = y3
  intro t
  have ea : a4 (y2 + 3 * x1 * y3 + 12 * x2) (y3 + 4 * x1) = a4 (12 * x2) (4 * x1) + a4 y2 y3 := by unfold a4; grind -verbose
  have eb : b4 (y1 + 2 * x1 * y2 + 6 * x2 * y3 + 24 * x3) (y2 + 3 * x1 * y3 + 12 * x2) (y3 + 4 * x1) = b4 (24 * x3) (12 * x2) (4 * x1) + b4 y1 y2 y3 := by unfold b4; grind -verbose
  have ee : e4 (y0 + x1 * y1 + 2 * x2 * y2 + 6 * x3 * y3 + 24 * x4) (y1 + 2 * x1 * y2 + 6 * x2 * y3 + 24 * x3) (y2 + 3 * x1 * y3 + 12 * x2) (y3 + 4 * x1) = e4 (24 * x4) (24 * x3) (12 * x2) (4 * x1) + e4 y0 y1 y2 y3 := by unfold e4 a4; grind -verbose
  rw [ea, eb, ee]
  exact t
theorem close3 {q0 q1 q2 q3 f0 f1 f2 f3 : Rat} (hg : Z3 (6 * q3) (6 * q2) (3 * q1) q0) (hf : Z3 f0 f1 f2 f3) :
    Z3 (q0 * f0 + q1 * f1 + 2 * q2 * f2 + 6 * q3 * f3) (q0 * f1 + 2 * q1 * f2 + 6 * q2 * f3) (q0 * f2 + 3 * q1 * f3) (q0 * f3) := by
  by_cases h2 : f3 = 0
  · subst h2
    have g2 : Z2 (2 * q2) (2 * q1) q0 := by
      have := hg.slope
      rw [show 6 * q2 = 3 * (2 * q2) by grind -verbose, show 2 * (3 * q1) = 3 * (2 * q1) by grind -verbose] at this
      exact (scale2 (by grind -verbose)).mp this
    have r := close2 g2 (hf.1 rfl)
    rw [show q0 * f0 + q1 * f1 + 2 * q2 * f2 + 6 * q3 * 0 = q0 * f0 + q1 * f1 + 2 * q2 * f2 by grind -verbose, show q0 * f1 + 2 * q1 * f2 + 6 * q2 * 0 = q0 * f1 + 2 * q1 * f2 by grind -verbose, show q0 * f2 + 3 * q1 * 0 = q0 * f2 by grind -verbose]
    exact ⟨fun _ => r, fun h => absurd (by grind -verbose) h⟩
  by_cases h1 : q0 = 0
  · subst h1
    have g2 : Z2 (2 * q3) (2 * q2) q1 := by
      have := hg.1 rfl
      rw [show 6 * q3 = 3 * (2 * q3) by grind -verbose, show 6 * q2 = 3 * (2 * q2) by grind -verbose] at this
      exact (scale2 (by grind -verbose)).mp this
    have r := close2 g2 hf.slope
    rw [show 0 * f0 + q1 * f1 + 2 * q2 * f2 + 6 * q3 * f3 = q1 * f1 + q2 * (2 * f2) + 2 * q3 * (3 * f3) by grind -verbose, show 0 * f1 + 2 * q1 * f2 + 6 * q2 * f3 = q1 * (2 * f2) + 2 * q2 * (3 * f3) by grind -verbose, show 0 * f2 + 3 * q1 * f3 = q1 * (3 * f3) by grind -verbose]
    exact ⟨fun _ => r, fun h => absurd (by grind -verbose) h⟩
  · refine ⟨fun h => ?_, fun _ => core3 h1 h2 (hg.2 h1) (hf.2 h2)⟩
    rcases Rat.mul_eq_zero.mp h with e | e <;> contradiction
theorem close4 {q0 q1 q2 q3 q4 f0 f1 f2 f3 f4 : Rat} (hg : Z4 (24 * q4) (24 * q3) (12 * q2) (4 * q1) q0) (hf : Z4 f0 f1 f2 f3 f4) :
    Z4 (q0 * f0 + q1 * f1 + 2 * q2 * f2 + 6 * q3 * f3 + 24 * q4 * f4) (q0 * f1 + 2 * q1 * f2 + 6 * q2 * f3 + 24 * q3 * f4) (q0 * f2 + 3 * q1 * f3 + 12 * q2 * f4) (q0 * f3 + 4 * q1 * f4) (q0 * f4) := by
  by_cases h2 : f4 = 0
  · subst h2
    have g2 : Z3 (6 * q3) (6 * q2) (3 * q1) q0 := by
      have := hg.slope
      rw [show 24 * q3 = 4 * (6 * q3) by grind -verbose, show 2 * (12 * q2) = 4 * (6 * q2) by grind -verbose, show 3 * (4 * q1) = 4 * (3 * q1) by grind -verbose] at this
      exact (scale3 (by grind -verbose)).mp this
    have r := close3 g2 (hf.1 rfl)
    rw [show q0 * f0 + q1 * f1 + 2 * q2 * f2 + 6 * q3 * f3 + 24 * q4 * 0 = q0 * f0 + q1 * f1 + 2 * q2 * f2 + 6 * q3 * f3 by grind -verbose, show q0 * f1 + 2 * q1 * f2 + 6 * q2 * f3 + 24 * q3 * 0 = q0 * f1 + 2 * q1 * f2 + 6 * q2 * f3 by grind -verbose, show q0 * f2 + 3 * q1 * f3 + 12 * q2 * 0 = q0 * f2 + 3 * q1 * f3 by grind -verbose, show q0 * f3 + 4 * q1 * 0 = q0 * f3 by grind -verbose]
    exact ⟨fun _ => r, fun h => absurd (by grind -verbose) h⟩
  by_cases h1 : q0 = 0
  · subst h1
    have g2 : Z3 (6 * q4) (6 * q3) (3 * q2) q1 := by
      have := hg.1 rfl
      rw [show 24 * q4 = 4 * (6 * q4) by grind -verbose, show 24 * q3 = 4 * (6 * q3) by grind -verbose, show 12 * q2 = 4 * (3 * q2) by grind -verbose] at this
      exact (scale3 (by grind -verbose)).mp this
    have r := close3 g2 hf.slope
    rw [show 0 * f0 + q1 * f1 + 2 * q2 * f2 + 6 * q3 * f3 + 24 * q4 * f4 = q1 * f1 + q2 * (2 * f2) + 2 * q3 * (3 * f3) + 6 * q4 * (4 * f4) by grind -verbose, show 0 * f1 + 2 * q1 * f2 + 6 * q2 * f3 + 24 * q3 * f4 = q1 * (2 * f2) + 2 * q2 * (3 * f3) + 6 * q3 * (4 * f4) by grind -verbose, show 0 * f2 + 3 * q1 * f3 + 12 * q2 * f4 = q1 * (3 * f3) + 3 * q2 * (4 * f4) by grind -verbose, show 0 * f3 + 4 * q1 * f4 = q1 * (4 * f4) by grind -verbose]
    exact ⟨fun _ => r, fun h => absurd (by grind -verbose) h⟩
  · refine ⟨fun h => ?_, fun _ => core4 h1 h2 (hg.2 h1) (hf.2 h2)⟩
    rcases Rat.mul_eq_zero.mp h with e | e <;> contradiction
end K66

set_option Elab.async false
set_option linter.all false
namespace K66
theorem der_at (p : Nat → Rat) : der p 0 = p 1 ∧ der p 1 = 2 * p 2 ∧ der p 2 = 3 * p 3 ∧ der p 3 = 4 * p 4 := by
  unfold der
  refine ⟨?_, ?_, ?_, ?_⟩
  · show ((1 : Nat) : Rat) * p 1 = p 1
    have : ((1 : Nat) : Rat) = 1 := rfl
    rw [this]; grind -verbose
  · rfl
  · rfl
  · rfl
theorem der_big {p : Nat → Rat} {n : Nat} (h : ∀ k, n < k → p k = 0) (k : Nat) (hk : n ≤ k) : der p k = 0 := by
  unfold der
  rw [h (k + 1) (by omega)]; grind -verbose
theorem qf4_at (p v : Nat → Rat) (hp : ∀ k, 4 < k → p k = 0) : qf 4 (bz p (der p)) v =
    (p 1 * p 1 - p 0 * (2 * p 2)) * v 0 * v 0 + 2 * (p 2 * p 1 - p 0 * (3 * p 3)) * v 0 * v 1 + 2 * (p 3 * p 1 - p 0 * (4 * p 4)) * v 0 * v 2 + 2 * (p 4 * p 1) * v 0 * v 3
    + (p 2 * (2 * p 2) - p 1 * (3 * p 3) + (p 3 * p 1 - p 0 * (4 * p 4))) * v 1 * v 1 + 2 * (p 3 * (2 * p 2) - p 1 * (4 * p 4) + p 4 * p 1) * v 1 * v 2 + 2 * (p 4 * (2 * p 2)) * v 1 * v 3
    + (p 3 * (3 * p 3) - p 2 * (4 * p 4) + p 4 * (2 * p 2)) * v 2 * v 2 + 2 * (p 4 * (3 * p 3)) * v 2 * v 3 + p 4 * (4 * p 4) * v 3 * v 3 := by
  obtain ⟨d0, d1, d2, d3⟩ := der_at p
  have z5 := hp 5 (by omega)
  have z6 := hp 6 (by omega)
  have z7 := hp 7 (by omega)
  have d4 := der_big hp 4 (by omega)
  have d5 := der_big hp 5 (by omega)
  have d6 := der_big hp 6 (by omega)
  have d7 := der_big hp 7 (by omega)
  simp only [qf, sm, bz, Nat.zero_add, Nat.reduceAdd, d0, d1, d2, d3, d4, d5, d6, d7, z5, z6, z7]
  grind -verbose
theorem qf3_at (p v : Nat → Rat) (hp : ∀ k, 3 < k → p k = 0) : qf 3 (bz p (der p)) v =
    (p 1 * p 1 - p 0 * (2 * p 2)) * v 0 * v 0 + 2 * (p 2 * p 1 - p 0 * (3 * p 3)) * v 0 * v 1 + 2 * (p 3 * p 1) * v 0 * v 2
    + (p 2 * (2 * p 2) - p 1 * (3 * p 3) + p 3 * p 1) * v 1 * v 1 + 2 * (p 3 * (2 * p 2)) * v 1 * v 2 + p 3 * (3 * p 3) * v 2 * v 2 := by
  obtain ⟨d0, d1, d2, d3⟩ := der_at p
  have z4 := hp 4 (by omega)
  have z5 := hp 5 (by omega)
  have z6 := hp 6 (by omega)
  have d3 := der_big hp 3 (by omega)
  have d4 := der_big hp 4 (by omega)
  have d5 := der_big hp 5 (by omega)
  have d6 := der_big hp 6 (by omega)
  simp only [qf, sm, bz, Nat.zero_add, Nat.reduceAdd, d0, d1, d2, d3, d4, d5, d6, z4, z5, z6]
  grind -verbose
theorem qf2_at (p v : Nat → Rat) (hp : ∀ k, 2 < k → p k = 0) : qf 2 (bz p (der p)) v =
    (p 1 * p 1 - p 0 * (2 * p 2)) * v 0 * v 0 + 2 * (p 2 * p 1) * v 0 * v 1 + p 2 * (2 * p 2) * v 1 * v 1 := by
  obtain ⟨d0, d1, d2, d3⟩ := der_at p
  have z3 := hp 3 (by omega)
  have z4 := hp 4 (by omega)
  have d2 := der_big hp 2 (by omega)
  have d3 := der_big hp 3 (by omega)
  have d4 := der_big hp 4 (by omega)
  simp only [qf, sm, bz, Nat.zero_add, Nat.reduceAdd, d0, d1, d2, d3, d4, z3, z4]
  grind -verbose
theorem qf1_at (p v : Nat → Rat) (hp : ∀ k, 1 < k → p k = 0) : qf 1 (bz p (der p)) v = p 1 * p 1 * v 0 * v 0 := by
  obtain ⟨d0, d1, d2, d3⟩ := der_at p
  have z2 := hp 2 (by omega)
  simp only [qf, sm, bz, Nat.zero_add, Nat.reduceAdd, d0, d1, z2]
  grind -verbose
theorem psd0 (p : Nat → Rat) : PSD 0 p (der p) := fun v => by show (0 : Rat) ≤ 0; exact Rat.le_refl
theorem psd1 (p : Nat → Rat) (hp : ∀ k, 1 < k → p k = 0) : PSD 1 p (der p) := fun v => by
  rw [qf1_at p v hp]
  have := sq_nn (p 1 * v 0)
  grind -verbose
theorem psd_2 (p : Nat → Rat) (hp : ∀ k, 2 < k → p k = 0) (h : p 2 ≠ 0) : PSD 2 p (der p) ↔ R2 (p 0) (p 1) (p 2) := by
  unfold R2
  have hs := sq_pos h
  constructor
  · intro hv
    have q := psd2_of (α := p 1 * p 1 - p 0 * (2 * p 2)) (β := p 2 * p 1) (γ := p 2 * (2 * p 2)) fun x y => by
      have := hv fun i => if i = 0 then x else y
      rw [qf2_at p _ hp] at this
      exact this
    have := q.2.2
    refine nn_of_mul hs ?_
    grind -verbose
  · intro hr v
    rw [qf2_at p v hp]
    refine psd2_to ?_ (by grind -verbose) ?_ (v 0) (v 1)
    · have := sq_nn (p 1); grind -verbose
    · have := nn_mul (Rat.le_of_lt hs) hr
      grind -verbose
theorem id3 (c0 c1 c2 v0 v1 v2 : Rat) :
    (c1 * c1 - c0 * (2 * c2)) * v0 * v0 + 2 * (c2 * c1 - c0 * (3 * 1)) * v0 * v1 + 2 * (1 * c1) * v0 * v2 + (c2 * (2 * c2) - c1 * (3 * 1) + 1 * c1) * v1 * v1 + 2 * (1 * (2 * c2)) * v1 * v2 + 1 * (3 * 1) * v2 * v2
    = 3 * ((v2 + 2 * (c2 / 3) * v1 + (c2 / 3) * (c2 / 3) * v0 - a3 c1 c2 * v0) * (v2 + 2 * (c2 / 3) * v1 + (c2 / 3) * (c2 / 3) * v0 - a3 c1 c2 * v0))
      + 6 * (a3 c1 c2 * a3 c1 c2 * v0 * v0 + 2 * (-b3 c0 c1 c2) * v0 * (v1 + c2 / 3 * v0) + a3 c1 c2 * (v1 + c2 / 3 * v0) * (v1 + c2 / 3 * v0)) := by
  unfold a3 b3; grind -verbose
theorem id4 (c0 c1 c2 c3 v0 v1 v2 v3 : Rat) :
    (c1 * c1 - c0 * (2 * c2)) * v0 * v0 + 2 * (c2 * c1 - c0 * (3 * c3)) * v0 * v1 + 2 * (c3 * c1 - c0 * (4 * 1)) * v0 * v2 + 2 * (1 * c1) * v0 * v3
    + (c2 * (2 * c2) - c1 * (3 * c3) + (c3 * c1 - c0 * (4 * 1))) * v1 * v1 + 2 * (c3 * (2 * c2) - c1 * (4 * 1) + 1 * c1) * v1 * v2 + 2 * (1 * (2 * c2)) * v1 * v3
    + (c3 * (3 * c3) - c2 * (4 * 1) + 1 * (2 * c2)) * v2 * v2 + 2 * (1 * (3 * c3)) * v2 * v3 + 1 * (4 * 1) * v3 * v3
    = 4 * ((v3 + 3 * (c3 / 4) * v2 + 3 * (c3 / 4) * (c3 / 4) * v1 + (c3 / 4) * (c3 / 4) * (c3 / 4) * v0 - 3 * a4 c2 c3 * (v1 + c3 / 4 * v0) + b4 c1 c2 c3 * v0) * (v3 + 3 * (c3 / 4) * v2 + 3 * (c3 / 4) * (c3 / 4) * v1 + (c3 / 4) * (c3 / 4) * (c3 / 4) * v0 - 3 * a4 c2 c3 * (v1 + c3 / 4 * v0) + b4 c1 c2 c3 * v0))
      + 12 * N4 (a4 c2 c3) (b4 c1 c2 c3) (e4 c0 c1 c2 c3) v0 (v1 + c3 / 4 * v0) (v2 + 2 * (c3 / 4) * v1 + (c3 / 4) * (c3 / 4) * v0 - a4 c2 c3 * v0) := by
  unfold N4 e4 a4 b4; grind -verbose
end K66

set_option Elab.async false
set_option linter.all false
namespace K66
abbrev Fn := Nat → Rat
def Up (n : Nat) (p : Fn) : Prop := ∀ k, n < k → p k = 0
/-- all roots are real (or nought): for any n from the degree on -/
def RRn (n : Nat) (p : Fn) : Prop := PSD n p (der p)
theorem rr_step {n : Nat} {p : Fn} (h : Up n p) : RRn (n + 1) p ↔ RRn n p := by
  have hd : ∀ k, n < k → der p k = 0 := fun k hk => der_big h k (by omega)
  have e : ∀ v, qf (n + 1) (bz p (der p)) v = qf n (bz p (der p)) v := fun v => qf_drop (fun j => bz_zero j n h hd) fun i => by rw [bz_symm]; exact bz_zero i n h hd
  exact ⟨fun q v => by rw [← e]; exact q v, fun q v => by rw [e]; exact q v⟩
theorem rr_le {d : Nat} {p : Fn} (h : Up d p) : ∀ {n : Nat}, d ≤ n → (RRn n p ↔ RRn d p) := by
  intro n
  induction n with
  | zero =>
    intro hn
    obtain rfl : d = 0 := by omega
    exact Iff.rfl
  | succ n ih =>
    intro hn
    by_cases e : d = n + 1
    · rw [e]
    · rw [rr_step fun k hk => h k (by omega), ih (by omega)]
theorem bz_scale (c : Rat) (u w : Fn) : ∀ j i, bz (fun k => c * u k) (fun k => c * w k) i j = c * c * bz u w i j := by
  intro j
  induction j with
  | zero => intro i; simp only [bz]; grind -verbose
  | succ j ih => intro i; simp only [bz]; rw [ih]; grind -verbose
theorem der_scale (c : Rat) (p : Fn) : der (fun k => c * p k) = fun k => c * der p k := funext fun k => by unfold der; grind -verbose
theorem rr_scale {n : Nat} {c : Rat} (hc : c ≠ 0) (p : Fn) : RRn n (fun k => c * p k) ↔ RRn n p := by
  have e : ∀ v, qf n (bz (fun k => c * p k) (der (fun k => c * p k))) v = c * c * qf n (bz p (der p)) v := fun v => by
    rw [der_scale]
    have := qf_lin n (c * c) 0 (bz p (der p)) (bz p (der p)) v
    rw [qf_congr (b' := fun i j => c * c * bz p (der p) i j + 0 * bz p (der p) i j) (fun i j _ _ => by rw [bz_scale]; grind -verbose) (fun _ _ => rfl), this]
    grind -verbose
  have h2 := sq_pos hc
  exact ⟨fun q v => nn_of_mul h2 (by rw [← e]; exact q v), fun q v => by rw [e]; exact nn_mul (Rat.le_of_lt h2) (q v)⟩
theorem alg_kill {p v c2 c1 a : Rat} : 0 = 0 := rfl
theorem psd_3m (p : Fn) (hp : Up 3 p) (h : p 3 = 1) : RRn 3 p ↔ K3 (a3 (p 1) (p 2)) (b3 (p 0) (p 1) (p 2)) := by
  constructor
  · intro hv
    have q := psd2_of (α := a3 (p 1) (p 2) * a3 (p 1) (p 2)) (β := -b3 (p 0) (p 1) (p 2)) (γ := a3 (p 1) (p 2)) fun x y => by
      have := hv fun i => if i = 0 then x else if i = 1 then y - p 2 / 3 * x else a3 (p 1) (p 2) * x - 2 * (p 2 / 3) * (y - p 2 / 3 * x) - p 2 / 3 * (p 2 / 3) * x
      rw [qf3_at p _ hp, h] at this
      simp only [if_true, if_false, Nat.reduceEqDiff, reduceIte] at this
      rw [id3] at this
      have z : a3 (p 1) (p 2) * x - 2 * (p 2 / 3) * (y - p 2 / 3 * x) - p 2 / 3 * (p 2 / 3) * x + 2 * (p 2 / 3) * (y - p 2 / 3 * x) + p 2 / 3 * (p 2 / 3) * x - a3 (p 1) (p 2) * x = 0 := by grind -verbose
      have z2 : y - p 2 / 3 * x + p 2 / 3 * x = y := by grind -verbose
      rw [z, z2] at this
      grind -verbose
    refine ⟨q.2.1, ?_⟩
    have := q.2.2
    grind -verbose
  · rintro ⟨h1, h2⟩ v
    rw [qf3_at p v hp, h, id3]
    have t1 := sq_nn (v 2 + 2 * (p 2 / 3) * v 1 + p 2 / 3 * (p 2 / 3) * v 0 - a3 (p 1) (p 2) * v 0)
    have t2 := psd2_to (α := a3 (p 1) (p 2) * a3 (p 1) (p 2)) (β := -b3 (p 0) (p 1) (p 2)) (γ := a3 (p 1) (p 2)) (sq_nn _) h1 (by grind -verbose) (v 0) (v 1 + p 2 / 3 * v 0)
    grind -verbose
theorem psd_4m (p : Fn) (hp : Up 4 p) (h : p 4 = 1) : RRn 4 p ↔ K4 (a4 (p 2) (p 3)) (b4 (p 1) (p 2) (p 3)) (e4 (p 0) (p 1) (p 2) (p 3)) := by
  constructor
  · intro hv w0 w1 w2
    have e1 : ∀ y : Rat, y - p 3 / 4 * w0 + p 3 / 4 * w0 = y := fun y => by grind -verbose
    generalize ha : a4 (p 2) (p 3) = A at *
    generalize hb : b4 (p 1) (p 2) (p 3) = B at *
    generalize he : e4 (p 0) (p 1) (p 2) (p 3) = E at *
    have := hv fun i => if i = 0 then w0 else if i = 1 then w1 - p 3 / 4 * w0 else if i = 2 then w2 + A * w0 - 2 * (p 3 / 4) * (w1 - p 3 / 4 * w0) - p 3 / 4 * (p 3 / 4) * w0 else
      3 * A * w1 - B * w0 - (3 * (p 3 / 4) * (w2 + A * w0 - 2 * (p 3 / 4) * (w1 - p 3 / 4 * w0) - p 3 / 4 * (p 3 / 4) * w0) + 3 * (p 3 / 4) * (p 3 / 4) * (w1 - p 3 / 4 * w0) + p 3 / 4 * (p 3 / 4) * (p 3 / 4) * w0)
    rw [qf4_at p _ hp, h] at this
    simp only [if_true, if_false, Nat.reduceEqDiff, reduceIte] at this
    rw [id4, ha, hb, he, e1] at this
    have z2 : w2 + A * w0 - 2 * (p 3 / 4) * (w1 - p 3 / 4 * w0) - p 3 / 4 * (p 3 / 4) * w0 + 2 * (p 3 / 4) * (w1 - p 3 / 4 * w0) + p 3 / 4 * (p 3 / 4) * w0 - A * w0 = w2 := by grind -verbose
    rw [z2] at this
    have z3 : ∀ X Y Z : Rat, 3 * A * w1 - B * w0 - (X + Y + Z) + X + Y + Z - 3 * A * w1 + B * w0 = 0 := fun X Y Z => by grind -verbose
    rw [z3] at this
    generalize N4 A B E w0 w1 w2 = T at *
    grind -verbose
  · intro hk v
    rw [qf4_at p v hp, h, id4]
    have t2 := hk (v 0) (v 1 + p 3 / 4 * v 0) (v 2 + 2 * (p 3 / 4) * v 1 + p 3 / 4 * (p 3 / 4) * v 0 - a4 (p 2) (p 3) * v 0)
    have t1 := sq_nn (v 3 + 3 * (p 3 / 4) * v 2 + 3 * (p 3 / 4) * (p 3 / 4) * v 1 + p 3 / 4 * (p 3 / 4) * (p 3 / 4) * v 0 - 3 * a4 (p 2) (p 3) * (v 1 + p 3 / 4 * v 0) + b4 (p 1) (p 2) (p 3) * v 0)
    generalize N4 _ _ _ _ _ _ = T at *
    generalize (_ * _ : Rat) = U at t1 ⊢
    grind -verbose
theorem inv_ne {x : Rat} (h : x ≠ 0) : x⁻¹ ≠ 0 := by grind -verbose
theorem rr2 (p : Fn) (hp : Up 2 p) : RRn 2 p ↔ Z2 (p 0) (p 1) (p 2) := by
  unfold Z2
  by_cases h : p 2 = 0
  · have u1 : Up 1 p := fun k hk => by
      by_cases e : k = 2
      · rw [e]; exact h
      · exact hp k (by omega)
    rw [rr_step (n := 1) u1]
    exact ⟨fun _ q => absurd h q, fun _ => psd1 p u1⟩
  · have := psd_2 p hp h
    exact ⟨fun q _ => this.mp q, fun q => this.mpr (q h)⟩
theorem rr3 (p : Fn) (hp : Up 3 p) : RRn 3 p ↔ Z3 (p 0) (p 1) (p 2) (p 3) := by
  unfold Z3
  by_cases h : p 3 = 0
  · have u1 : Up 2 p := fun k hk => by
      by_cases e : k = 3
      · rw [e]; exact h
      · exact hp k (by omega)
    rw [rr_step (n := 2) u1, rr2 p u1]
    exact ⟨fun q => ⟨fun _ => q, fun z => absurd h z⟩, fun q => q.1 h⟩
  · have hi := inv_ne h
    rw [← rr_scale hi p, psd_3m (fun k => (p 3)⁻¹ * p k) (fun k hk => by show (p 3)⁻¹ * p k = 0; rw [hp k hk]; grind -verbose) (by show (p 3)⁻¹ * p 3 = 1; grind -verbose)]
    have dv : ∀ x, (p 3)⁻¹ * x = x / p 3 := fun x => by grind -verbose
    unfold R3
    rw [dv, dv, dv]
    exact ⟨fun q => ⟨fun z => absurd z h, fun _ => q⟩, fun q => q.2 h⟩
theorem rr4 (p : Fn) (hp : Up 4 p) : RRn 4 p ↔ Z4 (p 0) (p 1) (p 2) (p 3) (p 4) := by
  unfold Z4
  by_cases h : p 4 = 0
  · have u1 : Up 3 p := fun k hk => by
      by_cases e : k = 4
      · rw [e]; exact h
      · exact hp k (by omega)
    rw [rr_step (n := 3) u1, rr3 p u1]
    exact ⟨fun q => ⟨fun _ => q, fun z => absurd h z⟩, fun q => q.1 h⟩
  · have hi := inv_ne h
    rw [← rr_scale hi p, psd_4m (fun k => (p 4)⁻¹ * p k) (fun k hk => by show (p 4)⁻¹ * p k = 0; rw [hp k hk]; grind -verbose) (by show (p 4)⁻¹ * p 4 = 1; grind -verbose)]
    have dv : ∀ x, (p 4)⁻¹ * x = x / p 4 := fun x => by grind -verbose
    unfold R4
    rw [dv, dv, dv, dv]
    exact ⟨fun q => ⟨fun z => absurd z h, fun _ => q⟩, fun q => q.2 h⟩
/-- times (x - r) -/
def ml (r : Rat) (p : Fn) : Fn := fun k => sh p k - r * p k
theorem ml_up {n : Nat} {p : Fn} (r : Rat) (h : Up n p) : Up (n + 1) (ml r p) := fun k hk => by
  unfold ml
  obtain ⟨j, rfl⟩ : ∃ j, k = j + 1 := ⟨k - 1, by omega⟩
  show p j - r * p (j + 1) = 0
  rw [h j (by omega), h (j + 1) (by omega)]; grind -verbose
theorem ml_at (r : Rat) (p : Fn) : ml r p 0 = - (r * p 0) ∧ ml r p 1 = p 0 - r * p 1 ∧ ml r p 2 = p 1 - r * p 2 ∧ ml r p 3 = p 2 - r * p 3 ∧ ml r p 4 = p 3 - r * p 4 := by
  refine ⟨?_, rfl, rfl, rfl, rfl⟩
  show 0 - r * p 0 = - (r * p 0)
  grind -verbose
theorem ml3 (r : Rat) (p : Fn) (hp : Up 3 p) (h : RRn 3 p) : RRn 4 (ml r p) := fun v => by
  obtain ⟨m0, m1, m2, m3, m4⟩ := ml_at r p
  rw [qf4_at _ v (ml_up r hp), m0, m1, m2, m3, m4, hp 4 (by omega)]
  have q := h fun k => v (k + 1) - r * v k
  rw [qf3_at p _ hp] at q
  dsimp only [Nat.reduceAdd, Nat.zero_add] at q
  have s := sq_nn (p 0 * v 0 + p 1 * v 1 + p 2 * v 2 + p 3 * v 3)
  generalize p 0 = p0 at *
  generalize p 1 = p1 at *
  generalize p 2 = p2 at *
  generalize p 3 = p3 at *
  generalize v 0 = v0 at *
  generalize v 1 = v1 at *
  generalize v 2 = v2 at *
  generalize v 3 = v3 at *
  generalize v 4 = v4 at *
  clear hp h m0 m1 m2 m3 m4
  grind -verbose
theorem ml2 (r : Rat) (p : Fn) (hp : Up 2 p) (h : RRn 2 p) : RRn 3 (ml r p) := by
  have u3 : Up 3 p := fun k hk => hp k (by omega)
  exact (rr_step (ml_up r hp)).mp (ml3 r p u3 ((rr_step hp).mpr h))
theorem ml1 (r : Rat) (p : Fn) (hp : Up 1 p) (h : RRn 1 p) : RRn 2 (ml r p) := by
  have u3 : Up 2 p := fun k hk => hp k (by omega)
  exact (rr_step (ml_up r hp)).mp (ml2 r p u3 ((rr_step hp).mpr h))
theorem rr_low {n : Nat} (hn : n ≤ 1) {p : Fn} (hp : Up n p) : RRn n p := by
  match n, hn with
  | 0, _ => exact psd0 p
  | 1, _ => exact psd1 p hp
theorem ml_rr (r : Rat) (p : Fn) {n : Nat} (hn : n ≤ 3) (hp : Up n p) (h : RRn n p) : RRn (n + 1) (ml r p) := by
  match n, hn with
  | 0, _ => exact rr_low (Nat.le_refl 1) (ml_up r hp)
  | 1, _ => exact ml1 r p hp h
  | 2, _ => exact ml2 r p hp h
  | 3, _ => exact ml3 r p hp h
end K66

set_option Elab.async false
set_option linter.all false
namespace K66
/-- what p is shifted to by the rule q -/
def img : List Rat → Fn → Fn
  | [], _ => fun _ => 0
  | a :: q, p => fun i => a * p i + img q (der p) i
def mono (n : Nat) : Fn := fun k => if k = n then 1 else 0
theorem img_step (q : List Rat) (j : Nat) (p : Fn) (i : Nat) : img (q.drop j) p i = en q j * p i + img (q.drop (j + 1)) (der p) i := by
  rcases drop_step q j with ⟨h1, h2, h3⟩ | h
  · rw [h1, h2, h3]; show (0 : Rat) = 0 * p i + 0; grind -verbose
  · rw [h]; rfl
theorem img_nought : ∀ (q : List Rat) {p : Fn}, (∀ k, p k = 0) → ∀ i, img q p i = 0
  | [], _, _, _ => rfl
  | a :: q, p, h, i => by
    show a * p i + img q (der p) i = 0
    rw [h, img_nought q (fun k => by unfold der; rw [h]; grind -verbose)]; grind -verbose
theorem img_up : ∀ (q : List Rat) {n : Nat} {p : Fn}, Up n p → Up n (img q p)
  | [], _, _, _ => fun _ _ => rfl
  | a :: q, n, p, h => fun k hk => by
    show a * p k + img q (der p) k = 0
    rw [h k hk, img_up q (n := n) (p := der p) (fun j hj => der_big h j (by omega)) k hk]; grind -verbose
theorem der_up {n : Nat} {p : Fn} (h : Up (n + 1) p) : Up n (der p) := fun k hk => der_big h k (by omega)
theorem der_nought {p : Fn} (h : Up 0 p) : ∀ k, der p k = 0 := fun k => der_big h k (by omega)
theorem img4 (q : List Rat) (p : Fn) (hp : Up 4 p) : img q p 0 = en q 0 * p 0 + en q 1 * p 1 + 2 * en q 2 * p 2 + 6 * en q 3 * p 3 + 24 * en q 4 * p 4
    ∧ img q p 1 = en q 0 * p 1 + 2 * en q 1 * p 2 + 6 * en q 2 * p 3 + 24 * en q 3 * p 4 ∧ img q p 2 = en q 0 * p 2 + 3 * en q 1 * p 3 + 12 * en q 2 * p 4 ∧ img q p 3 = en q 0 * p 3 + 4 * en q 1 * p 4 ∧ img q p 4 = en q 0 * p 4 := by
  have z := fun i => img_nought (q.drop 5) (der_nought (der_up (der_up (der_up (der_up hp))))) i
  have e : ∀ i, img q p i = en q 0 * p i + (en q 1 * der p i + (en q 2 * der (der p) i + (en q 3 * der (der (der p)) i + (en q 4 * der (der (der (der p))) i + 0)))) := fun i => by
    have e0 := img_step q 0 p i
    rw [img_step q 1, img_step q 2, img_step q 3, img_step q 4, z] at e0
    exact e0
  have n1 : ((1 : Nat) : Rat) = 1 := rfl
  have n2 : ((2 : Nat) : Rat) = 2 := rfl
  have n3 : ((3 : Nat) : Rat) = 3 := rfl
  have n4 : ((4 : Nat) : Rat) = 4 := rfl
  have n5 : ((5 : Nat) : Rat) = 5 := rfl
  have n6 : ((6 : Nat) : Rat) = 6 := rfl
  have n7 : ((7 : Nat) : Rat) = 7 := rfl
  have n8 : ((8 : Nat) : Rat) = 8 := rfl
  have p5 := hp 5 (by omega)
  have p6 := hp 6 (by omega)
  have p7 := hp 7 (by omega)
  have p8 := hp 8 (by omega)
  refine ⟨?_, ?_, ?_, ?_, ?_⟩ <;> rw [e] <;> simp only [der, Nat.reduceAdd, Nat.zero_add, n1, n2, n3, n4, n5, n6, n7, n8, p5, p6, p7, p8] <;> grind -verbose
theorem mono_up {n m : Nat} (h : n ≤ m) : Up m (mono n) := fun k hk => by unfold mono; rw [if_neg (by omega)]
/-- WALSH: a rule that leads x to the n to a curve with real roots keeps real roots up to the degree n -/
theorem walsh (q : List Rat) {n : Nat} (hn : n ≤ 4) {f : Fn} (hf : Up n f) (hg : RRn n (img q (mono n))) (hr : RRn n f) : RRn n (img q f) := by
  match n, hn with
  | 0, _ => exact rr_low (by omega) (img_up q hf)
  | 1, _ => exact rr_low (by omega) (img_up q hf)
  | 2, _ =>
    obtain ⟨a0, a1, a2, a3, a4⟩ := img4 q f fun k hk => hf k (by omega)
    obtain ⟨b0, b1, b2, b3, b4⟩ := img4 q (mono 2) (mono_up (by omega))
    rw [rr2 _ (img_up q (mono_up (Nat.le_refl 2))), b0, b1, b2] at hg
    rw [rr2 _ hf] at hr
    rw [rr2 _ (img_up q hf), a0, a1, a2, hf 3 (by omega), hf 4 (by omega)]
    simp only [mono, Nat.reduceEqDiff, if_true, if_false, reduceIte] at hg
    have := close2 (q0 := en q 0) (q1 := en q 1) (q2 := en q 2) (by
      rw [show en q 0 * 0 + en q 1 * 0 + 2 * en q 2 * 1 + 6 * en q 3 * 0 + 24 * en q 4 * 0 = 2 * en q 2 by grind -verbose, show en q 0 * 0 + 2 * en q 1 * 1 + 6 * en q 2 * 0 + 24 * en q 3 * 0 = 2 * en q 1 by grind -verbose, show en q 0 * 1 + 3 * en q 1 * 0 + 12 * en q 2 * 0 = en q 0 by grind -verbose] at hg
      exact hg) hr
    rw [show en q 0 * f 0 + en q 1 * f 1 + 2 * en q 2 * f 2 + 6 * en q 3 * 0 + 24 * en q 4 * 0 = en q 0 * f 0 + en q 1 * f 1 + 2 * en q 2 * f 2 by grind -verbose, show en q 0 * f 1 + 2 * en q 1 * f 2 + 6 * en q 2 * 0 + 24 * en q 3 * 0 = en q 0 * f 1 + 2 * en q 1 * f 2 by grind -verbose, show en q 0 * f 2 + 3 * en q 1 * 0 + 12 * en q 2 * 0 = en q 0 * f 2 by grind -verbose]
    exact this
  | 3, _ =>
    obtain ⟨a0, a1, a2, a3, a4⟩ := img4 q f fun k hk => hf k (by omega)
    obtain ⟨b0, b1, b2, b3, b4⟩ := img4 q (mono 3) (mono_up (by omega))
    rw [rr3 _ (img_up q (mono_up (Nat.le_refl 3))), b0, b1, b2, b3] at hg
    rw [rr3 _ hf] at hr
    rw [rr3 _ (img_up q hf), a0, a1, a2, a3, hf 4 (by omega)]
    simp only [mono, Nat.reduceEqDiff, if_true, if_false, reduceIte] at hg
    have := close3 (q0 := en q 0) (q1 := en q 1) (q2 := en q 2) (q3 := en q 3) (by
      rw [show en q 0 * 0 + en q 1 * 0 + 2 * en q 2 * 0 + 6 * en q 3 * 1 + 24 * en q 4 * 0 = 6 * en q 3 by grind -verbose, show en q 0 * 0 + 2 * en q 1 * 0 + 6 * en q 2 * 1 + 24 * en q 3 * 0 = 6 * en q 2 by grind -verbose, show en q 0 * 0 + 3 * en q 1 * 1 + 12 * en q 2 * 0 = 3 * en q 1 by grind -verbose, show en q 0 * 1 + 4 * en q 1 * 0 = en q 0 by grind -verbose] at hg
      exact hg) hr
    rw [show en q 0 * f 0 + en q 1 * f 1 + 2 * en q 2 * f 2 + 6 * en q 3 * f 3 + 24 * en q 4 * 0 = en q 0 * f 0 + en q 1 * f 1 + 2 * en q 2 * f 2 + 6 * en q 3 * f 3 by grind -verbose, show en q 0 * f 1 + 2 * en q 1 * f 2 + 6 * en q 2 * f 3 + 24 * en q 3 * 0 = en q 0 * f 1 + 2 * en q 1 * f 2 + 6 * en q 2 * f 3 by grind -verbose, show en q 0 * f 2 + 3 * en q 1 * f 3 + 12 * en q 2 * 0 = en q 0 * f 2 + 3 * en q 1 * f 3 by grind -verbose, show en q 0 * f 3 + 4 * en q 1 * 0 = en q 0 * f 3 by grind -verbose]
    exact this
  | 4, _ =>
    obtain ⟨a0, a1, a2, a3, a4⟩ := img4 q f hf
    obtain ⟨b0, b1, b2, b3, b4⟩ := img4 q (mono 4) (mono_up (by omega))
    rw [rr4 _ (img_up q (mono_up (Nat.le_refl 4))), b0, b1, b2, b3, b4] at hg
    rw [rr4 _ hf] at hr
    rw [rr4 _ (img_up q hf), a0, a1, a2, a3, a4]
    simp only [mono, Nat.reduceEqDiff, if_true, if_false, reduceIte] at hg
    have := close4 (q0 := en q 0) (q1 := en q 1) (q2 := en q 2) (q3 := en q 3) (q4 := en q 4) (by
      rw [show en q 0 * 0 + en q 1 * 0 + 2 * en q 2 * 0 + 6 * en q 3 * 0 + 24 * en q 4 * 1 = 24 * en q 4 by grind -verbose, show en q 0 * 0 + 2 * en q 1 * 0 + 6 * en q 2 * 0 + 24 * en q 3 * 1 = 24 * en q 3 by grind -verbose, show en q 0 * 0 + 3 * en q 1 * 0 + 12 * en q 2 * 1 = 12 * en q 2 by grind -verbose, show en q 0 * 0 + 4 * en q 1 * 1 = 4 * en q 1 by grind -verbose, show en q 0 * 1 = en q 0 by grind -verbose] at hg
      exact hg) hr
    exact this
/-- the image of a lesser power: the slope's -/
theorem img_der : ∀ (q : List Rat) (p : Fn), img q (der p) = der (img q p)
  | [], p => funext fun i => by show (0 : Rat) = ((i + 1 : Nat) : Rat) * 0; grind -verbose
  | a :: q, p => funext fun i => by
    show a * der p i + img q (der (der p)) i = ((i + 1 : Nat) : Rat) * (a * p (i + 1) + img q (der p) (i + 1))
    rw [img_der q (der p)]
    unfold der
    grind -verbose
/-- a rule that keeps to a degree keeps to each lesser one -/
theorem keep_less (q : List Rat) {n m : Nat} (hn : n ≤ 4) (hm : m ≤ n) (h : RRn n (img q (mono n))) : RRn m (img q (mono m)) := by
  have hu : Up n (mono m) := mono_up hm
  have rm : RRn n (mono m) := by
    have key : ∀ m, m ≤ 4 → RRn m (mono m) := by
      intro m
      induction m with
      | zero => intro _; exact psd0 _
      | succ m ih =>
        intro h4
        have := ml_rr 0 (mono m) (n := m) (by omega) (mono_up (Nat.le_refl m)) (ih (by omega))
        have e : ml 0 (mono m) = mono (m + 1) := funext fun k => by
          unfold ml
          cases k with
          | zero => show 0 - 0 * mono m 0 = if 0 = m + 1 then 1 else 0; rw [if_neg (by omega)]; grind -verbose
          | succ k =>
            show (if k = m then (1 : Rat) else 0) - 0 * mono m (k + 1) = if k + 1 = m + 1 then 1 else 0
            by_cases z : k = m
            · rw [if_pos z, if_pos (by omega)]; grind -verbose
            · rw [if_neg z, if_neg (by omega)]; grind -verbose
        rw [e] at this
        exact this
    exact (rr_le (mono_up (Nat.le_refl m)) hm).mpr (key m (by omega))
  have := walsh q hn hu h rm
  exact (rr_le (img_up q (mono_up (Nat.le_refl m))) hm).mp this
/-- p' - r p -/
def hp (r : Rat) (p : Fn) : Fn := fun k => der p k - r * p k
theorem hp_img (r : Rat) (p : Fn) : img [-r, 1] p = hp r p := funext fun k => by
  show -r * p k + (1 * der p k + 0) = der p k - r * p k
  grind -verbose
theorem hp_x4 (r : Rat) : RRn 4 (img [-r, 1] (mono 4)) := by
  obtain ⟨g0, g1, g2, g3, g4⟩ := img4 [-r, 1] (mono 4) (mono_up (by omega))
  rw [rr4 _ (img_up _ (mono_up (Nat.le_refl 4))), g0, g1, g2, g3, g4]
  simp only [mono, Nat.reduceEqDiff, if_true, if_false, reduceIte]
  have e0 : en [-r, 1] 0 = -r := rfl
  have e1 : en [-r, 1] 1 = 1 := rfl
  have e2 : en [-r, 1] 2 = 0 := rfl
  have e3 : en [-r, 1] 3 = 0 := rfl
  have e4' : en [-r, 1] 4 = 0 := rfl
  rw [e0, e1, e2, e3, e4']
  rw [show -r * 0 + 1 * 0 + 2 * 0 * 0 + 6 * 0 * 0 + 24 * 0 * 1 = (0 : Rat) by grind -verbose, show -r * 0 + 2 * 1 * 0 + 6 * 0 * 0 + 24 * 0 * 1 = (0 : Rat) by grind -verbose, show -r * 0 + 3 * 1 * 0 + 12 * 0 * 1 = (0 : Rat) by grind -verbose, show -r * 0 + 4 * 1 * 1 = (4 : Rat) by grind -verbose, show -r * 1 = -r by grind -verbose]
  refine ⟨fun _ => ⟨fun h => absurd h (by decide), fun _ => ?_⟩, fun hr => ?_⟩
  · unfold R3
    have a : a3 (0 / 4) (0 / 4) = 0 := by unfold a3; grind -verbose
    have b : b3 (0 / 4) (0 / 4) (0 / 4) = 0 := by unfold b3; grind -verbose
    rw [a, b]
    exact ⟨Rat.le_refl, by grind -verbose⟩
  · have z : (0 : Rat) / (-r) = 0 := by grind -verbose
    unfold R4
    rw [z]
    clear g0 g1 g2 g3 g4 e0 e1 e2 e3 e4'
    generalize (4 : Rat) / (-r) = s
    intro w0 w1 w2
    have ea : a4 0 s = (s / 4) * (s / 4) := by unfold a4; grind -verbose
    have eb : b4 0 0 s = 2 * (s / 4) * (s / 4) * (s / 4) := by unfold b4; grind -verbose
    have ee : e4 0 0 0 s = -2 * (s / 4) * (s / 4) * (s / 4) * (s / 4) := by unfold e4 a4; grind -verbose
    rw [ea, eb, ee]
    generalize s / 4 = t
    have := sq_nn (2 * t * t * t * w0 - 2 * t * t * w1 + t * w2)
    unfold N4
    grind -verbose
theorem hp_rr (r : Rat) {n : Nat} (hn : n ≤ 4) {p : Fn} (hu : Up n p) (h : RRn n p) : RRn n (hp r p) := by
  have u4 : Up 4 p := fun k hk => hu k (by omega)
  have := walsh [-r, 1] (Nat.le_refl 4) u4 (hp_x4 r) ((rr_le hu hn).mpr h)
  rw [hp_img] at this
  have uh : Up n (hp r p) := fun k hk => by
    unfold hp
    rw [hu k hk, der_big hu k (by omega)]; grind -verbose
  exact (rr_le uh hn).mp this
/-- by degree five, where the curve is x x x times a curve of degree two with real roots -/
theorem qf5_at (p v : Fn) (hp : Up 5 p) (h0 : p 0 = 0) (h1 : p 1 = 0) : qf 5 (bz p (der p)) v =
    p 2 * (2 * p 2) * v 1 * v 1 + 2 * (p 3 * (2 * p 2)) * v 1 * v 2 + 2 * (p 4 * (2 * p 2)) * v 1 * v 3 + 2 * (p 5 * (2 * p 2)) * v 1 * v 4
    + (p 3 * (3 * p 3) - p 2 * (4 * p 4) + p 4 * (2 * p 2)) * v 2 * v 2 + 2 * (p 4 * (3 * p 3) - p 2 * (5 * p 5) + p 5 * (2 * p 2)) * v 2 * v 3 + 2 * (p 5 * (3 * p 3)) * v 2 * v 4
    + (p 4 * (4 * p 4) - p 3 * (5 * p 5) + p 5 * (3 * p 3)) * v 3 * v 3 + 2 * (p 5 * (4 * p 4)) * v 3 * v 4 + p 5 * (5 * p 5) * v 4 * v 4 := by
  obtain ⟨d0, d1, d2, d3⟩ := der_at p
  have d4 : der p 4 = 5 * p 5 := rfl
  have z6 := hp 6 (by omega)
  have z7 := hp 7 (by omega)
  have z8 := hp 8 (by omega)
  have z9 := hp 9 (by omega)
  have d5 := der_big hp 5 (by omega)
  have d6 := der_big hp 6 (by omega)
  have d7 := der_big hp 7 (by omega)
  have d8 := der_big hp 8 (by omega)
  have d9 := der_big hp 9 (by omega)
  simp only [qf, sm, bz, Nat.zero_add, Nat.reduceAdd, d0, d1, d2, d3, d4, d5, d6, d7, d8, d9, z6, z7, z8, z9, h0, h1]
  grind -verbose
/-- x x x times a curve: q0, q1, q2 -/
def x3 (q0 q1 q2 : Rat) : Fn := fun k => if k = 3 then q0 else if k = 4 then q1 else if k = 5 then q2 else 0
theorem x3_up (q0 q1 q2 : Rat) : Up 5 (x3 q0 q1 q2) := fun k hk => by
  unfold x3
  rw [if_neg (by omega), if_neg (by omega), if_neg (by omega)]
theorem x3_qf (q0 q1 q2 : Rat) (v : Fn) : qf 5 (bz (x3 q0 q1 q2) (der (x3 q0 q1 q2))) v =
    3 * (q0 * v 2 + q1 * v 3 + q2 * v 4) * (q0 * v 2 + q1 * v 3 + q2 * v 4) + ((q1 * q1 - 2 * q0 * q2) * v 3 * v 3 + 2 * q1 * q2 * v 3 * v 4 + 2 * q2 * q2 * v 4 * v 4) := by
  rw [qf5_at _ v (x3_up q0 q1 q2) rfl rfl]
  have e2 : x3 q0 q1 q2 2 = 0 := rfl
  have e3 : x3 q0 q1 q2 3 = q0 := rfl
  have e4' : x3 q0 q1 q2 4 = q1 := rfl
  have e5 : x3 q0 q1 q2 5 = q2 := rfl
  rw [e2, e3, e4', e5]
  grind -verbose
end K66

set_option Elab.async false
set_option linter.all false
namespace K66
theorem hp5_id (q0 q1 q2 r v1 v2 v3 v4 : Rat) :
    (3 * q0) * (2 * (3 * q0)) * v1 * v1 + 2 * ((4 * q1 - r * q0) * (2 * (3 * q0))) * v1 * v2 + 2 * ((5 * q2 - r * q1) * (2 * (3 * q0))) * v1 * v3 + 2 * ((0 - r * q2) * (2 * (3 * q0))) * v1 * v4
    + ((4 * q1 - r * q0) * (3 * (4 * q1 - r * q0)) - (3 * q0) * (4 * (5 * q2 - r * q1)) + (5 * q2 - r * q1) * (2 * (3 * q0))) * v2 * v2 + 2 * ((5 * q2 - r * q1) * (3 * (4 * q1 - r * q0)) - (3 * q0) * (5 * (0 - r * q2)) + (0 - r * q2) * (2 * (3 * q0))) * v2 * v3 + 2 * ((0 - r * q2) * (3 * (4 * q1 - r * q0))) * v2 * v4
    + ((5 * q2 - r * q1) * (4 * (5 * q2 - r * q1)) - (4 * q1 - r * q0) * (5 * (0 - r * q2)) + (0 - r * q2) * (3 * (4 * q1 - r * q0))) * v3 * v3 + 2 * ((0 - r * q2) * (4 * (5 * q2 - r * q1))) * v3 * v4 + (0 - r * q2) * (5 * (0 - r * q2)) * v4 * v4
    = 3 * ((q0 * (2 * v1 - r * v2) + q1 * (3 * v2 - r * v3) + q2 * (4 * v3 - r * v4)) * (q0 * (2 * v1 - r * v2) + q1 * (3 * v2 - r * v3) + q2 * (4 * v3 - r * v4)))
      + 1 / 2 * ((2 * q2 * (4 * v3 - r * v4) + q1 * (3 * v2 - r * v3)) * (2 * q2 * (4 * v3 - r * v4) + q1 * (3 * v2 - r * v3)))
      + 1 / 2 * ((q1 * q1 - 4 * q0 * q2) * ((3 * v2 - r * v3) * (3 * v2 - r * v3)))
      + 6 * ((q0 * v1 + q1 * v2 + q2 * v3) * (q0 * v1 + q1 * v2 + q2 * v3)) + 3 * ((2 * q2 * v3 + q1 * v2) * (2 * q2 * v3 + q1 * v2)) + 3 * ((q1 * q1 - 4 * q0 * q2) * (v2 * v2)) + 2 * ((q2 * v3) * (q2 * v3)) := by
  grind -verbose
theorem hp5 {q0 q1 q2 : Rat} (r : Rat) (h : 0 ≤ q1 * q1 - 4 * q0 * q2) : RRn 5 (hp r (x3 q0 q1 q2)) := fun v => by
  have hu : Up 5 (hp r (x3 q0 q1 q2)) := fun k hk => by
    unfold hp
    rw [x3_up q0 q1 q2 k hk, der_big (x3_up q0 q1 q2) k (by omega)]; grind -verbose
  have n1 : ((1 : Nat) : Rat) = 1 := rfl
  have n2 : ((2 : Nat) : Rat) = 2 := rfl
  have n3 : ((3 : Nat) : Rat) = 3 := rfl
  have n4 : ((4 : Nat) : Rat) = 4 := rfl
  have n5 : ((5 : Nat) : Rat) = 5 := rfl
  have n6 : ((6 : Nat) : Rat) = 6 := rfl
  have f : ∀ k, hp r (x3 q0 q1 q2) k = ((k + 1 : Nat) : Rat) * x3 q0 q1 q2 (k + 1) - r * x3 q0 q1 q2 k := fun k => rfl
  have f0 : hp r (x3 q0 q1 q2) 0 = 0 := by rw [f]; show ((0 + 1 : Nat) : Rat) * 0 - r * 0 = 0; grind -verbose
  have f1 : hp r (x3 q0 q1 q2) 1 = 0 := by rw [f]; show ((1 + 1 : Nat) : Rat) * 0 - r * 0 = 0; grind -verbose
  have f2 : hp r (x3 q0 q1 q2) 2 = 3 * q0 := by rw [f]; show ((3 : Nat) : Rat) * q0 - r * 0 = 3 * q0; rw [n3]; grind -verbose
  have f3 : hp r (x3 q0 q1 q2) 3 = 4 * q1 - r * q0 := rfl
  have f4 : hp r (x3 q0 q1 q2) 4 = 5 * q2 - r * q1 := rfl
  have f5 : hp r (x3 q0 q1 q2) 5 = 0 - r * q2 := by rw [f]; show ((6 : Nat) : Rat) * 0 - r * q2 = 0 - r * q2; rw [n6]; grind -verbose
  rw [qf5_at _ v hu f0 f1, f2, f3, f4, f5, hp5_id]
  have t1 := sq_nn (q0 * (2 * v 1 - r * v 2) + q1 * (3 * v 2 - r * v 3) + q2 * (4 * v 3 - r * v 4))
  have t2 := sq_nn (2 * q2 * (4 * v 3 - r * v 4) + q1 * (3 * v 2 - r * v 3))
  have t3 := nn_mul h (sq_nn (3 * v 2 - r * v 3))
  have t4 := sq_nn (q0 * v 1 + q1 * v 2 + q2 * v 3)
  have t5 := sq_nn (2 * q2 * v 3 + q1 * v 2)
  have t6 := nn_mul h (sq_nn (v 2))
  have t7 := sq_nn (q2 * v 3)
  generalize (q0 * (2 * v 1 - r * v 2) + q1 * (3 * v 2 - r * v 3) + q2 * (4 * v 3 - r * v 4)) * (q0 * (2 * v 1 - r * v 2) + q1 * (3 * v 2 - r * v 3) + q2 * (4 * v 3 - r * v 4)) = s1 at *
  generalize (2 * q2 * (4 * v 3 - r * v 4) + q1 * (3 * v 2 - r * v 3)) * (2 * q2 * (4 * v 3 - r * v 4) + q1 * (3 * v 2 - r * v 3)) = s2 at *
  generalize (q1 * q1 - 4 * q0 * q2) * ((3 * v 2 - r * v 3) * (3 * v 2 - r * v 3)) = s3 at *
  generalize (q0 * v 1 + q1 * v 2 + q2 * v 3) * (q0 * v 1 + q1 * v 2 + q2 * v 3) = s4 at *
  generalize (2 * q2 * v 3 + q1 * v 2) * (2 * q2 * v 3 + q1 * v 2) = s5 at *
  generalize (q1 * q1 - 4 * q0 * q2) * (v 2 * v 2) = s6 at *
  generalize q2 * v 3 * (q2 * v 3) = s7 at *
  clear f f0 f1 f2 f3 f4 f5 hu
  grind -verbose
/-- hp on x3 -/
theorem hp_x3a (r : Rat) : hp r (mono 5) = x3 0 5 (-r) := funext fun k => by
  show ((k + 1 : Nat) : Rat) * (if k + 1 = 5 then 1 else 0) - r * (if k = 5 then 1 else 0) = if k = 3 then 0 else if k = 4 then 5 else if k = 5 then -r else 0
  by_cases e : k = 4
  · subst e
    have n5 : ((4 + 1 : Nat) : Rat) = 5 := rfl
    rw [if_pos rfl, if_neg (by omega), if_neg (by omega), if_pos rfl, n5]; grind -verbose
  · rw [if_neg (by omega), if_neg e]
    by_cases e5 : k = 5
    · subst e5; rw [if_pos rfl, if_neg (by omega), if_pos rfl]; grind -verbose
    · rw [if_neg e5, if_neg e5]
      split <;> grind -verbose
theorem hp_x3b (r s : Rat) : hp s (x3 0 5 (-r)) = x3 20 (-5 * (r + s)) (r * s) := funext fun k => by
  show ((k + 1 : Nat) : Rat) * (if k + 1 = 3 then 0 else if k + 1 = 4 then 5 else if k + 1 = 5 then -r else 0) - s * (if k = 3 then 0 else if k = 4 then 5 else if k = 5 then -r else 0) = if k = 3 then 20 else if k = 4 then -5 * (r + s) else if k = 5 then r * s else 0
  by_cases e3 : k = 3
  · subst e3
    have n : ((3 + 1 : Nat) : Rat) = 4 := rfl
    rw [if_neg (by omega), if_pos rfl, if_pos rfl, if_pos rfl, n]; grind -verbose
  by_cases e4 : k = 4
  · subst e4
    have n : ((4 + 1 : Nat) : Rat) = 5 := rfl
    rw [if_neg (by omega), if_neg (by omega), if_pos rfl, if_neg (by omega), if_pos rfl, if_neg (by omega), if_pos rfl, n]; grind -verbose
  by_cases e5 : k = 5
  · subst e5
    rw [if_neg (by omega), if_neg (by omega), if_neg (by omega), if_neg (by omega), if_neg (by omega), if_pos rfl, if_neg (by omega), if_neg (by omega), if_pos rfl]; grind -verbose
  · rw [if_neg (by omega : ¬ k + 1 = 4), if_neg (by omega : ¬ k + 1 = 5), if_neg e3, if_neg e4, if_neg e5, if_neg e3, if_neg e4, if_neg e5]
    split <;> grind -verbose
theorem x5_rr : RRn 5 (mono 5) ∧ (∀ r, RRn 5 (hp r (mono 5))) ∧ (∀ r s, RRn 5 (hp s (hp r (mono 5)))) ∧ ∀ r s t, RRn 5 (hp t (hp s (hp r (mono 5)))) := by
  have base : ∀ {q0 q1 q2 : Rat}, 0 ≤ q1 * q1 - 4 * q0 * q2 → RRn 5 (x3 q0 q1 q2) := fun {q0 q1 q2} h v => by
    rw [x3_qf]
    have t1 := sq_nn (q0 * v 2 + q1 * v 3 + q2 * v 4)
    have t2 := sq_nn (2 * q2 * v 4 + q1 * v 3)
    have t3 := nn_mul h (sq_nn (v 3))
    have e : (q1 * q1 - 2 * q0 * q2) * v 3 * v 3 + 2 * q1 * q2 * v 3 * v 4 + 2 * q2 * q2 * v 4 * v 4 = 1 / 2 * ((2 * q2 * v 4 + q1 * v 3) * (2 * q2 * v 4 + q1 * v 3)) + 1 / 2 * ((q1 * q1 - 4 * q0 * q2) * (v 3 * v 3)) := by grind -verbose
    rw [e, Rat.mul_assoc 3]
    generalize (q0 * v 2 + q1 * v 3 + q2 * v 4) * (q0 * v 2 + q1 * v 3 + q2 * v 4) = s1 at *
    generalize (2 * q2 * v 4 + q1 * v 3) * (2 * q2 * v 4 + q1 * v 3) = s2 at *
    generalize (q1 * q1 - 4 * q0 * q2) * (v 3 * v 3) = s3 at *
    clear e
    grind -verbose
  have m5 : mono 5 = x3 0 0 1 := funext fun k => by
    show (if k = 5 then 1 else 0) = if k = 3 then 0 else if k = 4 then 0 else if k = 5 then 1 else (0 : Rat)
    by_cases e5 : k = 5
    · subst e5; rfl
    · rw [if_neg e5]
      split
      · rfl
      · split <;> rfl
  refine ⟨?_, fun r => ?_, fun r s => ?_, fun r s t => ?_⟩
  · rw [m5]; exact base (by grind -verbose)
  · rw [hp_x3a]
    exact base (by grind -verbose)
  · rw [hp_x3a, hp_x3b]
    refine base ?_
    have a := sq_nn (r - s)
    have b := sq_nn (r + s)
    grind -verbose
  · rw [hp_x3a, hp_x3b]
    refine hp5 t ?_
    have a := sq_nn (r - s)
    have b := sq_nn (r + s)
    grind -verbose
def im : Nat → Fn → Fn → Fn
  | 0, _, _ => fun _ => 0
  | n + 1, q, p => fun i => q 0 * p i + im n (fun k => q (k + 1)) (der p) i
theorem im_nought : ∀ (n : Nat) (q p : Fn), (∀ k, p k = 0) → ∀ i, im n q p i = 0
  | 0, _, _, _, _ => rfl
  | n + 1, q, p, h, i => by
    show q 0 * p i + im n (fun k => q (k + 1)) (der p) i = 0
    rw [h, im_nought n _ _ (fun k => by unfold der; rw [h]; grind -verbose)]; grind -verbose
theorem img_im : ∀ (N n : Nat) (q : List Rat) (j : Nat) (p : Fn), Up n p → n < N → ∀ i, img (q.drop j) p i = im N (fun k => en q (k + j)) p i
  | 0, _, _, _, _, _, h => by omega
  | N + 1, n, q, j, p, hp, hn => fun i => by
    rw [img_step]
    show _ = en q (0 + j) * p i + im N (fun k => en q (k + 1 + j)) (der p) i
    rw [Nat.zero_add]
    rw [show (fun k => en q (k + 1 + j)) = fun k => en q (k + (j + 1)) from funext fun k => by rw [show k + 1 + j = k + (j + 1) by omega]]
    cases n with
    | zero => rw [img_nought _ (der_nought hp), im_nought _ _ _ (der_nought hp)]
    | succ n => rw [img_im N n q (j + 1) (der p) (der_up hp) (by omega)]
theorem im_lin (a b : Rat) : ∀ (N : Nat) (q q' p : Fn) (i : Nat), im N (fun k => a * q k + b * q' k) p i = a * im N q p i + b * im N q' p i
  | 0, _, _, _, _ => by show (0 : Rat) = a * 0 + b * 0; grind -verbose
  | N + 1, q, q', p, i => by
    show (a * q 0 + b * q' 0) * p i + im N (fun k => a * q (k + 1) + b * q' (k + 1)) (der p) i = a * (q 0 * p i + im N (fun k => q (k + 1)) (der p) i) + b * (q' 0 * p i + im N (fun k => q' (k + 1)) (der p) i)
    rw [im_lin a b N]; grind -verbose
theorem im_der : ∀ (N : Nat) (q p : Fn), im N q (der p) = der (im N q p)
  | 0, q, p => funext fun i => by show (0 : Rat) = ((i + 1 : Nat) : Rat) * 0; grind -verbose
  | N + 1, q, p => funext fun i => by
    show q 0 * der p i + im N (fun k => q (k + 1)) (der (der p)) i = ((i + 1 : Nat) : Rat) * (q 0 * p (i + 1) + im N (fun k => q (k + 1)) (der p) (i + 1))
    rw [im_der N _ (der p)]
    unfold der
    grind -verbose
theorem im_stay : ∀ (N n : Nat) (q p : Fn), Up n p → n < N → ∀ i, im (N + 1) q p i = im N q p i
  | 0, _, _, _, _, h => by omega
  | N + 1, n, q, p, hp, hn => fun i => by
    show q 0 * p i + im (N + 1) (fun k => q (k + 1)) (der p) i = q 0 * p i + im N (fun k => q (k + 1)) (der p) i
    cases n with
    | zero => rw [im_nought _ _ _ (der_nought hp), im_nought _ _ _ (der_nought hp)]
    | succ n => rw [im_stay N n _ _ (der_up hp) (by omega)]
/-- a line more: one step p' - r p more -/
theorem im_ml (r : Rat) {N n : Nat} (q p : Fn) (hp' : Up n p) (hn : n < N) : ∀ i, im N (ml r q) p i = hp r (im N q p) i := fun i => by
  obtain ⟨M, rfl⟩ : ∃ M, N = M + 1 := ⟨N - 1, by omega⟩
  have e1 : im (M + 1) (ml r q) p i = ml r q 0 * p i + im M (fun k => 1 * q k + (-r) * q (k + 1)) (der p) i := by
    show ml r q 0 * p i + im M (fun k => ml r q (k + 1)) (der p) i = _
    rw [show (fun k => ml r q (k + 1)) = fun k => 1 * q k + (-r) * q (k + 1) from funext fun k => by
      show q k - r * q (k + 1) = _
      grind -verbose]
  rw [e1, im_lin 1 (-r) M q (fun k => q (k + 1))]
  have e2 : im M q (der p) i = der (im (M + 1) q p) i := by
    rw [← im_der (M + 1) q p]
    cases n with
    | zero => rw [im_nought _ _ _ (der_nought hp'), im_nought _ _ _ (der_nought hp')]
    | succ n => rw [im_stay M n q (der p) (der_up hp') (by omega)]
  rw [e2]
  show (0 - r * q 0) * p i + _ = der (im (M + 1) q p) i - r * (q 0 * p i + im M (fun k => q (k + 1)) (der p) i)
  grind -verbose
def cst (c : Rat) : Fn := fun k => if k = 0 then c else 0
inductive Lin : Nat → Fn → Prop where
  | base (c : Rat) (hc : c ≠ 0) : Lin 0 (cst c)
  | step {n : Nat} {f : Fn} (r : Rat) (h : Lin n f) : Lin (n + 1) (ml r f)
theorem Lin.up {n : Nat} {f : Fn} (h : Lin n f) : Up n f := by
  induction h with
  | base c hc => exact fun k hk => by unfold cst; rw [if_neg (by omega)]
  | step r h ih => exact ml_up r ih
theorem Lin.rr {n : Nat} {f : Fn} (h : Lin n f) (hn : n ≤ 4) : RRn n f := by
  induction h with
  | base c hc => exact psd0 _
  | step r h ih => exact ml_rr r _ (by omega) h.up (ih (by omega))
theorem Lin.top {n : Nat} {f : Fn} (h : Lin n f) : f n ≠ 0 := by
  induction h with
  | base c hc => exact hc
  | @step n f r h ih =>
    show f n - r * f (n + 1) ≠ 0
    rw [h.up (n + 1) (by omega)]
    intro e; apply ih; grind -verbose
theorem pm_ml (r : Rat) (a b : Fn) (k : Nat) : pm a (ml r b) k = ml r (pm a b) k := by
  have e : pm a (ml r b) k = pm a (sh b) k - r * pm a b k := by
    unfold pm
    rw [show (fun j => a j * ml r b (k - j)) = fun j => a j * sh b (k - j) + (-r) * (a j * b (k - j)) from funext fun j => by unfold ml; grind -verbose, sm_add, sm_mul]
    grind -verbose
  rw [e]
  unfold ml
  have : pm a (sh b) k = sh (pm a b) k := by
    cases k with
    | zero => show (0 : Rat) + a 0 * 0 = 0; grind -verbose
    | succ k =>
      show sm (k + 1) (fun j => a j * sh b (k + 1 - j)) + a (k + 1) * sh b (k + 1 - (k + 1)) = sm (k + 1) fun j => a j * b (k - j)
      rw [Nat.sub_self]
      show _ + a (k + 1) * 0 = _
      rw [sm_congr (g := fun j => a j * b (k - j)) fun j hj => by rw [show k + 1 - j = k - j + 1 by omega]; rfl]
      grind -verbose
  rw [this]
theorem pm_cst (a : Fn) (c : Rat) (k : Nat) : pm a (cst c) k = c * a k := by
  unfold pm cst
  show sm k (fun j => a j * (if k - j = 0 then c else 0)) + a k * (if k - k = 0 then c else 0) = c * a k
  rw [sm_zero fun j hj => by rw [if_neg (by omega)]; grind -verbose, if_pos (by omega)]; grind -verbose
/-- a product with lines behind: the steps keep real roots -/
theorem lin_keep {m : Nat} {o : Fn} (h : Lin m o) (q p : Fn) {n N : Nat} (hn : n ≤ 4) (hN : n < N) (hu : Up n p) (hr : RRn n (im N q p)) : RRn n (im N (pm q o) p) := by
  have iup : ∀ q' : Fn, Up n (im N q' p) := fun q' => by
    have key : ∀ (N : Nat) (n : Nat) (q' p : Fn), Up n p → Up n (im N q' p) := by
      intro N
      induction N with
      | zero => intro n q' p _ k _; rfl
      | succ N ih =>
        intro n q' p hp k hk
        show q' 0 * p k + im N (fun k => q' (k + 1)) (der p) k = 0
        rw [hp k hk, ih n _ _ (fun j hj => der_big hp j (by omega)) k hk]; grind -verbose
    exact key N n q' p hu
  induction h with
  | base c hc =>
    have e : im N (pm q (cst c)) p = fun i => c * im N q p i := funext fun i => by
      have := im_lin c 0 N q q p i
      rw [show pm q (cst c) = fun k => c * q k + 0 * q k from funext fun k => by rw [pm_cst]; grind -verbose, this]; grind -verbose
    rw [e]
    exact (rr_scale hc _).mpr hr
  | @step m f r h ih =>
    have e : im N (pm q (ml r f)) p = hp r (im N (pm q f) p) := funext fun i => by
      rw [show pm q (ml r f) = ml r (pm q f) from funext fun k => pm_ml r q f k]
      exact im_ml r (pm q f) p hu hN i
    rw [e]
    exact hp_rr r hn (iup _) ih
/-- up to three lines lead x to the five to a curve with real roots -/
theorem lin5 {m : Nat} {o : Fn} (h : Lin m o) (hm : m ≤ 3) : RRn 5 (im 6 o (mono 5)) := by
  obtain ⟨t0, t1, t2, t3⟩ := x5_rr
  have b : ∀ c : Rat, im 6 (cst c) (mono 5) = fun i => c * mono 5 i := fun c => funext fun i => by
    show cst c 0 * mono 5 i + im 5 (fun k => cst c (k + 1)) (der (mono 5)) i = c * mono 5 i
    have z : im 5 (fun k => cst c (k + 1)) (der (mono 5)) i = 0 := by
      have e : (fun k => cst c (k + 1)) = fun k => (0 : Rat) := funext fun k => rfl
      rw [e]
      have := im_lin 0 0 5 (mono 0) (mono 0) (der (mono 5)) i
      rw [show (fun k => (0 : Rat)) = fun k => 0 * mono 0 k + 0 * mono 0 k from funext fun k => by grind -verbose, this]; grind -verbose
    rw [z]
    show c * mono 5 i + 0 = c * mono 5 i
    grind -verbose
  have st : ∀ (r : Rat) (q : Fn), im 6 (ml r q) (mono 5) = hp r (im 6 q (mono 5)) := fun r q => funext fun i => im_ml r q (mono 5) (mono_up (Nat.le_refl 5)) (by omega) i
  have sc : ∀ (r c : Rat) (p : Fn), hp r (fun i => c * p i) = fun i => c * hp r p i := fun r c p => funext fun i => by unfold hp; rw [der_scale]; grind -verbose
  cases h with
  | base c hc => rw [b]; exact (rr_scale hc _).mpr t0
  | step r h =>
    cases h with
    | base c hc => rw [st, b, sc]; exact (rr_scale hc _).mpr (t1 r)
    | step s h =>
      cases h with
      | base c hc => rw [st, st, b, sc, sc]; exact (rr_scale hc _).mpr (t2 s r)
      | step t h =>
        cases h with
        | base c hc => rw [st, st, st, b, sc, sc, sc]; exact (rr_scale hc _).mpr (t3 t s r)
        | step => omega
/-- products of products of lines -/
theorem lin_mul {m n : Nat} {a b : Fn} (ha : Lin n a) (hb : Lin m b) : Lin (n + m) (pm a b) := by
  induction hb with
  | base c hc =>
    have e : pm a (cst c) = fun k => c * a k := funext fun k => pm_cst a c k
    rw [e]
    clear e
    induction ha with
    | base d hd =>
      have : (fun k => c * cst d k) = cst (c * d) := funext fun k => by unfold cst; split <;> grind -verbose
      rw [this]
      exact .base _ (fun e => by rcases Rat.mul_eq_zero.mp e with e | e <;> contradiction)
    | @step n f r h ih =>
      have : (fun k => c * ml r f k) = ml r fun k => c * f k := funext fun k => by
        unfold ml
        cases k with
        | zero => show c * (0 - r * f 0) = 0 - r * (c * f 0); grind -verbose
        | succ k => show c * (f k - r * f (k + 1)) = c * f k - r * (c * f (k + 1)); grind -verbose
      rw [this]
      rw [Nat.add_zero] at ih ⊢
      exact .step r ih
  | @step m f r h ih =>
    have e : pm a (ml r f) = ml r (pm a f) := funext fun k => pm_ml r a f k
    rw [e]
    exact .step r ih
end K66

set_option Elab.async false
set_option linter.all false
set_option exponentiation.threshold 10000
namespace K66
theorem en_big {l : List Rat} {k : Nat} (h : l.length ≤ k) : en l k = 0 := by
  unfold en
  rw [List.getD_eq_getElem?_getD, List.getElem?_eq_none h]; rfl
theorem en_get {l : List Rat} {k : Nat} {q : Rat} (h : l[k]? = some q) : en l k = q := by
  unfold en
  rw [List.getD_eq_getElem?_getD, h]; rfl
theorem get_en {l : List Rat} {k : Nat} (h : k < l.length) : l[k]? = some (en l k) := by
  unfold en
  rw [List.getD_eq_getElem?_getD, List.getElem?_eq_getElem h]; rfl
theorem en_up (l : List Rat) : Up l.length (en l) := fun k hk => en_big (by omega)
theorem en_take (l : List Rat) (n k : Nat) : en (l.take n) k = if k < n then en l k else 0 := by
  unfold en
  rw [List.getD_eq_getElem?_getD, List.getD_eq_getElem?_getD]
  by_cases h : k < n
  · rw [if_pos h, List.getElem?_take_of_lt h]
  · rw [if_neg h, List.getElem?_eq_none (by rw [List.length_take]; omega)]; rfl
theorem en_rmap (n : Nat) (f : Nat → Rat) (k : Nat) : en ((List.range n).map f) k = if k < n then f k else 0 := by
  unfold en
  rw [List.getD_eq_getElem?_getD]
  by_cases h : k < n
  · rw [if_pos h, List.getElem?_map, List.getElem?_range h]; rfl
  · rw [if_neg h, List.getElem?_eq_none (by rw [List.length_map, List.length_range]; omega)]; rfl
theorem en_map (l : List Rat) (f : Rat → Rat) (h0 : f 0 = 0) (k : Nat) : en (l.map f) k = f (en l k) := by
  unfold en
  rw [List.getD_eq_getElem?_getD, List.getD_eq_getElem?_getD, List.getElem?_map]
  cases l[k]? with
  | none => exact h0.symm
  | some q => rfl
def tln (qs : List Rat) : Nat → Nat
  | 0 => 0
  | n + 1 => if en qs n = 0 then tln qs n else n + 1
def trim (qs : List Rat) : List Rat := qs.take (tln qs qs.length)
theorem tln_le (qs : List Rat) : ∀ n, tln qs n ≤ n
  | 0 => Nat.le_refl 0
  | n + 1 => by
    show (if en qs n = 0 then tln qs n else n + 1) ≤ n + 1
    split
    · exact Nat.le_succ_of_le (tln_le qs n)
    · exact Nat.le_refl _
theorem tln_zero (qs : List Rat) : ∀ n k, tln qs n ≤ k → k < n → en qs k = 0
  | 0, k, _, h => by omega
  | n + 1, k, h1, h2 => by
    have h1 : (if en qs n = 0 then tln qs n else n + 1) ≤ k := h1
    by_cases e : en qs n = 0
    · rw [if_pos e] at h1
      by_cases q : k = n
      · rw [q]; exact e
      · exact tln_zero qs n k h1 (by omega)
    · rw [if_neg e] at h1; omega
theorem tln_top (qs : List Rat) : ∀ n, 0 < tln qs n → en qs (tln qs n - 1) ≠ 0
  | 0, h => by cases h
  | n + 1, h => by
    have h : 0 < (if en qs n = 0 then tln qs n else n + 1) := h
    show en qs ((if en qs n = 0 then tln qs n else n + 1) - 1) ≠ 0
    by_cases e : en qs n = 0
    · rw [if_pos e] at h ⊢
      exact tln_top qs n h
    · rw [if_neg e]; exact e
theorem trim_len (qs : List Rat) : (trim qs).length ≤ qs.length := by unfold trim; rw [List.length_take]; omega
theorem en_trim (qs : List Rat) (k : Nat) : en (trim qs) k = en qs k := by
  unfold trim
  rw [en_take]
  by_cases h : k < tln qs qs.length
  · rw [if_pos h]
  · rw [if_neg h]
    rcases Nat.lt_or_ge k qs.length with q | q
    · exact (tln_zero qs _ k (by omega) q).symm
    · exact (en_big q).symm
theorem en_trim' (qs : List Rat) : en (trim qs) = en qs := funext (en_trim qs)
/-- no nought at the end -/
def Tr (l : List Rat) : Prop := l ≠ [] → en l (l.length - 1) ≠ 0
theorem tr_trim (qs : List Rat) : Tr (trim qs) := fun h => by
  have hl : (trim qs).length = tln qs qs.length := by unfold trim; rw [List.length_take]; have := tln_le qs qs.length; omega
  have hp : 0 < (trim qs).length := by
    cases e : trim qs with
    | nil => exact absurd e h
    | cons a l => simp
  rw [hl] at hp ⊢
  rw [en_trim]
  exact tln_top qs _ hp
/-- two curves without noughts at the end that have the same entries -/
theorem tr_ext {a b : List Rat} (ha : Tr a) (hb : Tr b) (h : ∀ k, en a k = en b k) : a = b := by
  have hl : a.length = b.length := by
    rcases Nat.lt_trichotomy a.length b.length with q | q | q
    · exfalso
      have : b ≠ [] := fun e => by rw [e] at q; simp at q
      exact hb this (by rw [← h]; exact en_big (by omega))
    · exact q
    · exfalso
      have : a ≠ [] := fun e => by rw [e] at q; simp at q
      exact ha this (by rw [h]; exact en_big (by omega))
  refine List.ext_getElem? fun k => ?_
  rcases Nat.lt_or_ge k a.length with q | q
  · rw [get_en q, get_en (by omega), h]
  · rw [List.getElem?_eq_none q, List.getElem?_eq_none (by omega)]
theorem trim_of_tr {a : List Rat} (h : Tr a) : trim a = a := tr_ext (tr_trim a) h (en_trim a)
theorem trim_mem {qs : List Rat} {q : Rat} (h : q ∈ trim qs) : q ∈ qs := List.mem_of_mem_take h
theorem tr_up {l : List Rat} : Up (l.length - 1) (en l) := fun k hk => en_big (by omega)
theorem nil_iff {l : List Rat} (h : Tr l) : l = [] ↔ ∀ k, en l k = 0 := by
  constructor
  · intro e k; rw [e]; rfl
  · intro e
    refine Classical.byContradiction fun q => ?_
    exact h q (e _)
def addL (a b : List Rat) : List Rat := trim ((List.range (max a.length b.length)).map fun i => en a i + en b i)
def byN (a : List Rat) (q : Rat) : List Rat := trim (a.map fun x => x * q)
def slopeL (a : List Rat) : List Rat := (List.range (a.length - 1)).map fun i => en a (1 + i) * (((1 + (i : Int) : Int)) : Rat)
def mulL (a b : List Rat) : List Rat := if a.length = 0 ∨ b.length = 0 then [] else (List.range (a.length + b.length - 1)).map fun k => pm (en a) (en b) k
theorem en_addL (a b : List Rat) (k : Nat) : en (addL a b) k = en a k + en b k := by
  unfold addL
  rw [en_trim, en_rmap]
  split
  · rfl
  · rw [en_big (l := a) (by omega), en_big (l := b) (by omega)]; grind -verbose
theorem en_byN (a : List Rat) (q : Rat) (k : Nat) : en (byN a q) k = en a k * q := by
  unfold byN
  rw [en_trim, en_map _ _ (by grind -verbose)]
theorem en_slopeL (a : List Rat) (k : Nat) : en (slopeL a) k = der (en a) k := by
  unfold slopeL der
  rw [en_rmap]
  have e : (((1 + (k : Int) : Int)) : Rat) = ((k + 1 : Nat) : Rat) := by
    have : (1 + (k : Int) : Int) = ((k + 1 : Nat) : Int) := by omega
    rw [this]; rfl
  split
  · rw [e, show 1 + k = k + 1 by omega]; grind -verbose
  · rw [en_big (l := a) (by omega)]; grind -verbose
theorem pm_big {a b : List Rat} {k : Nat} (h : a.length + b.length - 1 ≤ k) (ha : 0 < a.length) (hb : 0 < b.length) : pm (en a) (en b) k = 0 := sm_zero fun j hj => by
  rcases Nat.lt_or_ge j a.length with q | q
  · rw [en_big (l := b) (by omega)]; grind -verbose
  · rw [en_big q]; grind -verbose
theorem en_mulL (a b : List Rat) (k : Nat) : en (mulL a b) k = pm (en a) (en b) k := by
  unfold mulL
  split
  · rename_i h
    have : pm (en a) (en b) k = 0 := sm_zero fun j hj => by
      rcases h with h | h
      · rw [en_big (l := a) (by omega)]; grind -verbose
      · rw [en_big (l := b) (by omega)]; grind -verbose
    rw [this]; rfl
  · rename_i h
    rw [en_rmap]
    split
    · rfl
    · exact (pm_big (by omega) (by omega) (by omega)).symm
theorem slopeL_len (a : List Rat) : (slopeL a).length = a.length - 1 := by unfold slopeL; rw [List.length_map, List.length_range]
theorem tr_slopeL {a : List Rat} (h : Tr a) : Tr (slopeL a) := fun hn => by
  have hl := slopeL_len a
  have hp : 0 < (slopeL a).length := by
    cases e : slopeL a with
    | nil => exact absurd e hn
    | cons x l => simp
  rw [en_slopeL, hl]
  unfold der
  have ha : a ≠ [] := by
    intro e
    subst e
    simp [slopeL] at hp
  have := h ha
  rw [show a.length - 1 - 1 + 1 = a.length - 1 by omega]
  intro e
  rcases Rat.mul_eq_zero.mp e with e | e
  · have : (a.length - 1 : Nat) = 0 := by exact_mod_cast e
    omega
  · contradiction
def In (a d : Nat) (q : Rat) : Prop := ∃ n : Int, q * (d : Rat) = (n : Rat) ∧ n.natAbs ≤ a
theorem In.zero (a d : Nat) : In a d 0 := ⟨0, by show (0 : Rat) * _ = 0; grind -verbose, by simp⟩
theorem In.add {a b d : Nat} {p q : Rat} (hp : In a d p) (hq : In b d q) : In (a + b) d (p + q) := by
  obtain ⟨n, h1, h2⟩ := hp
  obtain ⟨m, h3, h4⟩ := hq
  exact ⟨n + m, by rw [Rat.intCast_add, ← h1, ← h3]; grind -verbose, by omega⟩
theorem In.mul {a b d e : Nat} {p q : Rat} (hp : In a d p) (hq : In b e q) : In (a * b) (d * e) (p * q) := by
  obtain ⟨n, h1, h2⟩ := hp
  obtain ⟨m, h3, h4⟩ := hq
  refine ⟨n * m, ?_, ?_⟩
  · have : ((d * e : Nat) : Rat) = (d : Rat) * (e : Rat) := Rat.natCast_mul _ _
    rw [Rat.intCast_mul, ← h1, ← h3, this]; grind -verbose
  · rw [Int.natAbs_mul]; exact Nat.mul_le_mul h2 h4
theorem In.mono {a b d : Nat} {q : Rat} (h : In a d q) (hab : a ≤ b) : In b d q := by
  obtain ⟨n, h1, h2⟩ := h
  exact ⟨n, h1, Nat.le_trans h2 hab⟩
theorem In.int {a : Nat} (z : Int) (h : z.natAbs ≤ a) : In a 1 (z : Rat) := ⟨z, by show (z : Rat) * 1 = z; grind -verbose, h⟩
theorem In.scale {a d : Nat} {q : Rat} (h : In a d q) (e : Nat) : In (a * e) (d * e) q := by
  have := h.mul (In.int (a := 1) 1 (by decide))
  obtain ⟨n, h1, h2⟩ := h
  refine ⟨n * e, ?_, ?_⟩
  · have e1 : ((d * e : Nat) : Rat) = (d : Rat) * (e : Rat) := Rat.natCast_mul _ _
    have e2 : (((e : Nat) : Int) : Rat) = (e : Rat) := rfl
    rw [Rat.intCast_mul, ← h1, e1, e2]; grind -verbose
  · rw [Int.natAbs_mul, Int.natAbs_natCast]; exact Nat.mul_le_mul h2 (Nat.le_refl _)
theorem In.num_den {a d : Nat} {q : Rat} (h : In a d q) (hd : 0 < d) : q.num.natAbs ≤ a ∧ q.den ≤ d ∧ q.den ∣ d := by
  obtain ⟨n, h1, h2⟩ := h
  have e : q = Rat.divInt n (d : Int) := by
    rw [Rat.divInt_eq_div, ← h1]
    have e2 : (((d : Nat) : Int) : Rat) = (d : Rat) := rfl
    rw [e2]
    have : (d : Rat) ≠ 0 := fun z => by
      have : d = 0 := by exact_mod_cast z
      omega
    grind -verbose
  have h3 : q.num.natAbs ∣ n.natAbs := by
    rw [e, Rat.num_divInt, Int.sign_eq_one_of_pos (by omega), Int.one_mul]
    have hg : ((Int.gcd (d : Int) n : Nat) : Int) ∣ n := Int.gcd_dvd_right ..
    obtain ⟨k, hk⟩ := hg
    have hg0 : ((Int.gcd (d : Int) n : Nat) : Int) ≠ 0 := by
      have : 0 < Int.gcd (d : Int) n := Int.gcd_pos_of_ne_zero_left _ (by omega)
      omega
    generalize ((Int.gcd (d : Int) n : Nat) : Int) = g at *
    subst hk
    rw [Int.mul_ediv_cancel_left _ hg0, Int.natAbs_mul]
    exact Nat.dvd_mul_left _ _
  have h4 : q.den ∣ d := by
    rw [e, Rat.den_divInt, if_neg (by omega), Int.natAbs_natCast]
    exact Nat.div_dvd_of_dvd (Nat.gcd_dvd_left _ _)
  refine ⟨?_, Nat.le_of_dvd hd h4, h4⟩
  by_cases hn : n = 0
  · have : q = 0 := by rw [e, hn]; simp
    rw [this]; simp
  · exact Nat.le_trans (Nat.le_of_dvd (by omega) h3) h2
def InL (a d : Nat) (l : List Rat) : Prop := ∀ q ∈ l, In a d q
theorem InL.en {a d : Nat} {l : List Rat} (h : InL a d l) (k : Nat) : In a d (en l k) := by
  rcases Nat.lt_or_ge k l.length with q | q
  · exact h _ (List.mem_of_getElem? (get_en q))
  · rw [en_big q]; exact In.zero a d
theorem InL.of {a d : Nat} {l : List Rat} (h : ∀ k, In a d (K66.en l k)) : InL a d l := fun q hq => by
  obtain ⟨k, hk⟩ := List.getElem?_of_mem hq
  rw [← en_get hk]; exact h k
theorem InL.trim {a d : Nat} {l : List Rat} (h : InL a d l) : InL a d (trim l) := fun q hq => h q (trim_mem hq)
theorem In.sm {a d n : Nat} {f : Nat → Rat} (h : ∀ i, i < n → In a d (f i)) : In (n * a) d (sm n f) := by
  induction n with
  | zero => exact In.zero _ _
  | succ n ih =>
    have h1 := (ih fun i hi => h i (by omega)).add (h n (by omega))
    exact h1.mono (by rw [Nat.succ_mul]; exact Nat.le_refl _)
end K66

set_option Elab.async false
set_option linter.all false
set_option exponentiation.threshold 10000
namespace K66
/-- what has gathered at place m when all rows below i and of row i the first j products are in -/
def pp (f g : Nat → Rat) (i j m : Nat) : Rat := sm (m + 1) fun p => if p < i ∨ (p = i ∧ m - p < j) then f p * g (m - p) else 0
theorem pp_zero (f g : Nat → Rat) (m : Nat) : pp f g 0 0 m = 0 := sm_zero fun p _ => if_neg (by omega)
theorem sm_pt {n a : Nat} (x : Rat) (ha : a < n) : sm n (fun i => if i = a then x else 0) = x := by
  have h := sm_one (n := n) (a := a) x (fun _ => 1) ha
  rw [Rat.one_mul] at h
  refine Eq.trans (sm_congr fun i _ => ?_) h
  rw [Rat.one_mul]
theorem pp_step (f g : Nat → Rat) (i j m : Nat) : pp f g i (j + 1) m = pp f g i j m + if m = i + j then f i * g j else 0 := by
  unfold pp
  by_cases h : m = i + j
  · rw [if_pos h]
    have e := sm_pt (n := m + 1) (a := i) (f i * g j) (by omega)
    conv => rhs; rw [← e]
    rw [← sm_add]
    refine sm_congr fun p hp => ?_
    by_cases hpi : p = i
    · subst hpi
      have hm : m - p = j := by omega
      rw [if_pos (by omega), if_neg (by omega), if_pos rfl, hm]; grind -verbose
    · rw [if_neg hpi]
      by_cases q : p < i
      · rw [if_pos (.inl q), if_pos (.inl q)]; grind -verbose
      · rw [if_neg (by omega), if_neg (by omega)]; grind -verbose
  · rw [if_neg h, Rat.add_zero]
    refine sm_congr fun p hp => ?_
    by_cases q : p < i ∨ (p = i ∧ m - p < j)
    · rw [if_pos q, if_pos (by omega)]
    · rw [if_neg q, if_neg (by omega)]
theorem pp_row {f g : Nat → Rat} {n : Nat} (hg : ∀ k, n ≤ k → g k = 0) (i m : Nat) : pp f g i n m = pp f g (i + 1) 0 m := by
  refine sm_congr fun p hp => ?_
  by_cases h : p = i
  · subst h
    rw [if_pos (show p < p + 1 ∨ _ from .inl (by omega))]
    by_cases q : m - p < n
    · rw [if_pos (.inr ⟨rfl, q⟩)]
    · rw [if_neg (by omega), hg _ (by omega)]; grind -verbose
  · by_cases q : p < i
    · rw [if_pos (.inl q), if_pos (.inl (by omega))]
    · rw [if_neg (by omega), if_neg (by omega)]
theorem pp_all {f g : Nat → Rat} {n : Nat} (hf : ∀ k, n ≤ k → f k = 0) (m : Nat) : pp f g n 0 m = pm f g m := by
  refine sm_congr fun p hp => ?_
  by_cases h : p < n
  · rw [if_pos (.inl h)]
  · rw [if_neg (by omega), hf _ (by omega)]; grind -verbose
theorem pp_in {f g : Nat → Rat} {a b d e : Nat} (hf : ∀ k, In a d (f k)) (hg : ∀ k, In b e (g k)) (i j m : Nat) : In ((m + 1) * (a * b)) (d * e) (pp f g i j m) := by
  refine In.sm fun p _ => ?_
  split
  · exact (hf _).mul (hg _)
  · exact In.zero _ _
theorem In.sz {a d : Nat} {q : Rat} (h : In a d q) (hd : 0 < d) (ha : a < 2 ^ 3000) (hd2 : d < 2 ^ 3000) : Sz q := by
  obtain ⟨h1, h2, _⟩ := h.num_den hd
  exact ⟨Nat.lt_of_le_of_lt h1 ha, Nat.lt_of_le_of_lt h2 hd2⟩
theorem InL.mul {a b d e : Nat} {l r : List Rat} (hl : InL a d l) (hr : InL b e r) : InL ((l.length + r.length) * (a * b)) (d * e) (mulL l r) := InL.of fun k => by
  rw [en_mulL]
  rcases Nat.lt_or_ge k (l.length + r.length) with h | h
  · rw [← pp_all (n := l.length) (fun k hk => en_big hk)]
    refine (pp_in (fun k => hl.en k) (fun k => hr.en k) _ _ _).mono ?_
    exact Nat.mul_le_mul_right _ (by omega)
  · have : pm (K66.en l) (K66.en r) k = 0 := sm_zero fun j hj => by
      rcases Nat.lt_or_ge j l.length with q | q
      · rw [en_big (l := r) (k := k - j) (by omega)]; grind -verbose
      · rw [en_big q]; grind -verbose
    rw [this]; exact In.zero _ _
theorem InL.add {a b d : Nat} {l r : List Rat} (hl : InL a d l) (hr : InL b d r) : InL (a + b) d (addL l r) := InL.of fun k => by
  rw [en_addL]; exact (hl.en k).add (hr.en k)
theorem InL.byN {a b d e : Nat} {l : List Rat} {q : Rat} (hl : InL a d l) (hq : In b e q) : InL (a * b) (d * e) (byN l q) := InL.of fun k => by
  rw [en_byN]; exact (hl.en k).mul hq
theorem InL.slope {a d : Nat} {l : List Rat} (hl : InL a d l) : InL (a * l.length) d (slopeL l) := InL.of fun k => by
  rw [en_slopeL]
  unfold der
  rcases Nat.lt_or_ge (k + 1) l.length with h | h
  · have := (hl.en (k + 1)).mul (In.int (a := l.length) ((k + 1 : Nat) : Int) (by omega))
    rw [Nat.mul_one] at this
    have e : (((k + 1 : Nat) : Int) : Rat) = ((k + 1 : Nat) : Rat) := rfl
    rw [e, Rat.mul_comm] at this
    exact this
  · rw [en_big h]
    have : ((k + 1 : Nat) : Rat) * 0 = 0 := by grind -verbose
    rw [this]; exact In.zero _ _
theorem InL.sz {a d : Nat} {l : List Rat} (h : InL a d l) (hd : 0 < d) (ha : a < 2 ^ 3000) (hd2 : d < 2 ^ 3000) : ∀ q ∈ l, Sz q := fun q hq => (h q hq).sz hd ha hd2
end K66

set_option Elab.async false
set_option linter.all false
set_option exponentiation.threshold 10000
namespace K66
/-- q as a whole number of L-ths -/
def wh (q : Rat) (L : Nat) : Int := q.num * ((L : Int) / (q.den : Int))
theorem wh_cast {q : Rat} {L : Nat} (h : q.den ∣ L) : ((wh q L : Int) : Rat) = q * (L : Rat) := by
  obtain ⟨c, rfl⟩ := h
  unfold wh
  have hd := q.den_pos
  have e : (((q.den * c : Nat) : Int)) / ((q.den : Nat) : Int) = (c : Int) := by
    rw [Int.natCast_mul]
    exact Int.mul_ediv_cancel_left _ (by omega)
  rw [e, Rat.intCast_mul]
  have e2 : ((q.den * c : Nat) : Rat) = (q.den : Rat) * (c : Rat) := Rat.natCast_mul _ _
  have e3 : q * (q.den : Rat) = (q.num : Rat) := by
    have h1 := Rat.num_divInt_den q
    rw [Rat.divInt_eq_div] at h1
    have h2 : ((q.den : Int) : Rat) = (q.den : Rat) := rfl
    rw [h2] at h1
    have h3 : (q.den : Rat) ≠ 0 := fun z => by
      have : q.den = 0 := by exact_mod_cast z
      omega
    generalize (q.num : Rat) = n at *
    generalize (q.den : Rat) = d at *
    clear h2 e
    grind -verbose
  have e4 : (((c : Nat) : Int) : Rat) = (c : Rat) := rfl
  rw [e2, ← e3, e4]; grind -verbose
theorem wh_le {a d L : Nat} {q : Rat} (h : In a d q) (hL : L ∣ d) (hd : 0 < d) (hq : q.den ∣ L) : (wh q L).natAbs ≤ a := by
  obtain ⟨n, h1, h2⟩ := h
  obtain ⟨c, rfl⟩ := hL
  have e := wh_cast hq
  have e2 : ((L * c : Nat) : Rat) = (L : Rat) * (c : Rat) := Rat.natCast_mul _ _
  have e4 : (((c : Nat) : Int) : Rat) = (c : Rat) := rfl
  have e3 : wh q L * (c : Int) = n := by
    have : ((wh q L * (c : Int) : Int) : Rat) = (n : Rat) := by
      rw [Rat.intCast_mul, e, ← h1, e2, e4]; grind -verbose
    exact_mod_cast this
  have hc : 0 < c := Nat.pos_of_mul_pos_left hd
  rw [← e3, Int.natAbs_mul, Int.natAbs_natCast] at h2
  exact Nat.le_trans (Nat.le_mul_of_pos_right _ hc) h2
theorem wh_zero {q : Rat} {L : Nat} (h : q.den ∣ L) (hL : 0 < L) (e : wh q L = 0) : q = 0 := by
  have h1 := wh_cast h
  rw [e] at h1
  have hL' : (L : Rat) ≠ 0 := fun z => by
    have : L = 0 := by exact_mod_cast z
    omega
  have : q * (L : Rat) = 0 := h1.symm
  rcases Rat.mul_eq_zero.mp this with h | h
  · exact h
  · exact absurd h hL'
/-- ns is a positive multiple of a, in whole numbers of size at most A -/
def Wh (a : List Rat) (ns : List Int) (A : Nat) : Prop := ns.length = a.length ∧ (∀ i ∈ ns, i.natAbs ≤ A) ∧ ∃ t : Rat, 0 < t ∧ ∀ k, eI ns k = t * en a k
theorem wh_all {a : List Rat} {A d L g : Nat} (hA : InL A d a) (hd : 0 < d) (hL : L ∣ d) (hden : ∀ k, k < a.length → (en a k).den ∣ L) (hg : 0 < g) (hdv : ∀ k, k < a.length → (g : Int) ∣ wh (en a k) L) :
    Wh a (a.map fun q => wh q L / (g : Int)) A := by
  have hLp : 0 < L := Nat.pos_of_dvd_of_pos hL hd
  refine ⟨List.length_map .., fun i hi => ?_, (L : Rat) / (g : Rat), ?_, fun k => ?_⟩
  · obtain ⟨q, hq, rfl⟩ := List.mem_map.mp hi
    obtain ⟨k, hk, e⟩ := List.getElem_of_mem hq
    have e' : en a k = q := en_get (by rw [List.getElem?_eq_getElem hk, e])
    have h1 := wh_le (hA q hq) hL hd (by rw [← e']; exact hden k hk)
    obtain ⟨c, hc⟩ := hdv k hk
    rw [e'] at hc
    rw [hc, Int.mul_ediv_cancel_left _ (by omega)]
    rw [hc, Int.natAbs_mul, Int.natAbs_natCast] at h1
    exact Nat.le_trans (Nat.le_mul_of_pos_left _ hg) h1
  · have h1 : (0 : Rat) < (L : Rat) := by exact_mod_cast hLp
    have h2 : (0 : Rat) < (g : Rat) := by exact_mod_cast hg
    rw [Rat.div_def]
    exact Rat.mul_pos h1 (Rat.inv_pos.mpr h2)
  · unfold eI
    have hg' : (g : Rat) ≠ 0 := fun z => by
      have : g = 0 := by exact_mod_cast z
      omega
    rw [List.getD_eq_getElem?_getD, List.getElem?_map]
    rcases Nat.lt_or_ge k a.length with h | h
    · rw [get_en h]
      show ((wh (en a k) L / (g : Int) : Int) : Rat) = _
      obtain ⟨c, hc⟩ := hdv k h
      have e := wh_cast (hden k h)
      rw [hc] at e ⊢
      rw [Int.mul_ediv_cancel_left _ (by omega)]
      rw [Rat.intCast_mul] at e
      have e2 : (((g : Nat) : Int) : Rat) = (g : Rat) := rfl
      rw [e2] at e
      generalize (L : Rat) = l at *
      generalize (g : Rat) = g' at *
      generalize (c : Rat) = c' at *
      generalize en a k = x at *
      clear hA hden hdv hc e2
      grind -verbose
    · rw [List.getElem?_eq_none h, en_big h]
      show (0 : Rat) = _
      grind -verbose
end K66

set_option Elab.async false
set_option linter.all false
set_option exponentiation.threshold 10000
namespace K66
def cf (ns : List Int) (k : Nat) : Int := ns.getD k 0
theorem smi_le {n B : Nat} {f : Nat → Int} (h : ∀ i, i < n → (f i).natAbs ≤ B) : (smi n f).natAbs ≤ n * B := by
  induction n with
  | zero => show (0 : Int).natAbs ≤ _; simp
  | succ n ih =>
    have h1 := ih fun i hi => h i (by omega)
    have h2 := h n (by omega)
    have h3 : (smi (n + 1) f) = smi n f + f n := rfl
    rw [h3, Nat.succ_mul]
    omega
theorem pow_le_of {A : Nat} {z : Int} (h : z.natAbs ≤ A) (n : Nat) : (z ^ n).natAbs ≤ A ^ n := by
  rw [Int.natAbs_pow]; exact Nat.pow_le_pow_left h n
theorem Sx_le {c : Nat → Int} {N A : Nat} (hA : 1 ≤ A) (hc : ∀ k, (c k).natAbs ≤ A) (hN : N ≤ 16) : ∀ m n, n ≤ m → n ≤ 16 → (Sx c N n).natAbs ≤ 32 ^ (n + 1) * A ^ n := by
  intro m
  induction m with
  | zero =>
    intro n h1 _
    obtain rfl : n = 0 := by omega
    rw [Sx_zero, Int.natAbs_natCast]
    simp; omega
  | succ m ih =>
    intro n h1 h2
    rcases Nat.lt_or_ge n (m + 1) with h | h
    · exact ih n (by omega) h2
    · obtain rfl : n = m + 1 := by omega
      rw [Sx_succ]
      have e1 : (if m + 1 ≤ N then ((m + 1 : Nat) : Int) * c (N - (m + 1)) * c N ^ m else 0).natAbs ≤ 16 * A ^ (m + 1) := by
        split
        · rw [Int.natAbs_mul, Int.natAbs_mul, Int.natAbs_natCast, Nat.pow_succ, Nat.mul_comm (A ^ m) A, ← Nat.mul_assoc]
          exact Nat.mul_le_mul (Nat.mul_le_mul (by omega) (hc _)) (pow_le_of (hc N) m)
        · exact Nat.zero_le _
      have e2 : (smi (min m N) fun b => c (N - (b + 1)) * c N ^ b * Sx c N (m + 1 - (b + 1))).natAbs ≤ min m N * (32 ^ (m + 1) * A ^ (m + 1)) := by
        refine smi_le fun b hb => ?_
        have hb' : b < m := by omega
        have i1 := ih (m + 1 - (b + 1)) (by omega) (by omega)
        rw [Int.natAbs_mul, Int.natAbs_mul]
        refine Nat.le_trans (Nat.mul_le_mul (Nat.mul_le_mul (hc _) (pow_le_of (hc N) b)) i1) ?_
        have e3 : A * A ^ b * (32 ^ (m + 1 - (b + 1) + 1) * A ^ (m + 1 - (b + 1))) = 32 ^ (m + 1 - (b + 1) + 1) * A ^ (m + 1) := by
          have : A ^ (m + 1) = A * A ^ b * A ^ (m + 1 - (b + 1)) := by
            rw [Nat.mul_comm A, ← Nat.pow_succ, ← Nat.pow_add]
            congr 1
            omega
          rw [this]
          generalize A * A ^ b = x
          generalize A ^ (m + 1 - (b + 1)) = y
          generalize 32 ^ (m + 1 - (b + 1) + 1) = z
          rw [← Nat.mul_assoc, Nat.mul_comm x z, Nat.mul_assoc]
        rw [e3]
        exact Nat.mul_le_mul_right _ (Nat.pow_le_pow_right (by decide) (by omega))
      have e4 : min m N * (32 ^ (m + 1) * A ^ (m + 1)) ≤ 15 * (32 ^ (m + 1) * A ^ (m + 1)) := Nat.mul_le_mul_right _ (by omega)
      have e5 : A ^ (m + 1) ≤ 32 ^ (m + 1) * A ^ (m + 1) := Nat.le_mul_of_pos_left _ (Nat.pow_pos (by decide))
      have e6 : 32 ^ (m + 1 + 1) * A ^ (m + 1) = 32 * (32 ^ (m + 1) * A ^ (m + 1)) := by
        rw [Nat.pow_succ 32 (m + 1)]
        generalize 32 ^ (m + 1) = x
        rw [Nat.mul_comm x 32, Nat.mul_assoc]
      rw [e6]
      omega
theorem cf_le {ns : List Int} {A : Nat} (h : ∀ i ∈ ns, i.natAbs ≤ A) (k : Nat) : (cf ns k).natAbs ≤ A := by
  unfold cf
  rw [List.getD_eq_getElem?_getD]
  cases e : ns[k]? with
  | none => exact Nat.zero_le _
  | some x => exact h x (List.mem_of_getElem? e)
theorem cf_get {ns : List Int} {k : Nat} (h : k < ns.length) : ns[k]? = some (cf ns k) := by
  unfold cf
  rw [List.getD_eq_getElem?_getD, List.getElem?_eq_getElem h]; rfl
/-- a rough size: below 2 ^ 6000 -/
theorem Sx_rough {c : Nat → Int} {N A n : Nat} (hA : 1 ≤ A) (hc : ∀ k, (c k).natAbs ≤ A) (hN : N ≤ 16) (hn : n ≤ 16) (hA2 : A < 2 ^ 300) : (Sx c N n).natAbs < 2 ^ 6000 := by
  refine Nat.lt_of_le_of_lt (Sx_le hA hc hN n n (Nat.le_refl _) hn) ?_
  have h1 : 32 ^ (n + 1) ≤ 32 ^ 17 := Nat.pow_le_pow_right (by decide) (by omega)
  have h2 : A ^ n ≤ (2 ^ 300) ^ 16 := Nat.le_trans (Nat.pow_le_pow_left (by omega) n) (Nat.pow_le_pow_right (Nat.pow_pos (by decide)) hn)
  refine Nat.lt_of_le_of_lt (Nat.mul_le_mul h1 h2) ?_
  decide +kernel
theorem pow_rough {z : Int} {A n : Nat} (h : z.natAbs ≤ A) (hn : n ≤ 16) (hA2 : A < 2 ^ 300) : (z ^ n).natAbs < 2 ^ 6000 := by
  refine Nat.lt_of_le_of_lt (pow_le_of h n) ?_
  refine Nat.lt_of_le_of_lt (Nat.le_trans (Nat.pow_le_pow_left (Nat.le_of_lt hA2) n) (Nat.pow_le_pow_right (Nat.pow_pos (by decide)) hn)) ?_
  decide +kernel
end K66

set_option Elab.async false
set_option linter.all false
set_option exponentiation.threshold 100000
namespace K66
/-- the table of a curve of degree N with numbers up to A stays within what the rules take -/
def Fit (N A : Nat) : Prop := (N * (4 ^ N * (32 ^ (2 * N) * A ^ (2 * N)))) ^ N < 2 ^ 9000
theorem nat_pow_cast (a : Nat) : ∀ k : Nat, ((a ^ k : Nat) : Rat) = (a : Rat) ^ k
  | 0 => by rw [Nat.pow_zero, Rat.pow_zero]; rfl
  | k + 1 => by rw [Nat.pow_succ, Rat.pow_succ, ← nat_pow_cast a k, Rat.natCast_mul]
theorem bd_nat {z : Int} {m : Nat} (h : Bd (z : Rat) (m : Rat)) : z.natAbs ≤ m := by
  obtain ⟨h1, h2⟩ := h
  have h2 : ((z : Int) : Rat) ≤ (((m : Nat) : Int) : Rat) := h2
  have h1 : (((-(m : Int)) : Int) : Rat) ≤ ((z : Int) : Rat) := by
    rw [Rat.intCast_neg]; exact h1
  have a := Rat.intCast_le_intCast.mp h2
  have b := Rat.intCast_le_intCast.mp h1
  omega
theorem nat_bd {z : Int} {m : Nat} (h : z.natAbs ≤ m) : Bd (z : Rat) (m : Rat) := by
  constructor
  · have : (((-(m : Int)) : Int) : Rat) ≤ ((z : Int) : Rat) := Rat.intCast_le_intCast.mpr (by omega)
    rw [Rat.intCast_neg] at this; exact this
  · exact Rat.intCast_le_intCast.mpr (by omega : z ≤ ((m : Nat) : Int))
section
variable {n t B : Nat} {Orig pos : Prop} {S left : List Nat} {R : Nat → Nat → Int} {ahead : Int}
theorem bnd_cast (n t B k : Nat) : (((n : Rat) * (4 ^ t * (B : Rat))) ^ k) = (((n * (4 ^ t * B)) ^ k : Nat) : Rat) := by
  rw [nat_pow_cast, Rat.natCast_mul, Rat.natCast_mul, nat_pow_cast]; rfl
theorem bnd_le {k : Nat} (hn : 1 ≤ n) (hB : 1 ≤ B) (ht : t ≤ n) (hk : k ≤ n) : (n * (4 ^ t * B)) ^ k ≤ (n * (4 ^ n * B)) ^ n := by
  have h1 : n * (4 ^ t * B) ≤ n * (4 ^ n * B) := Nat.mul_le_mul_left _ (Nat.mul_le_mul_right _ (Nat.pow_le_pow_right (by decide) ht))
  have h2 : 0 < n * (4 ^ n * B) := Nat.mul_pos hn (Nat.mul_pos (Nat.pow_pos (by decide)) hB)
  exact Nat.le_trans (Nat.pow_le_pow_left h1 k) (Nat.pow_le_pow_right h2 hk)
theorem BI.size (h : BI n (B : Rat) Orig pos S left R ahead t) (hB : 1 ≤ B) {i j : Nat} (hi : i ∈ left) (hj : j ∈ left) : (R i j).natAbs ≤ (n * (4 ^ n * B)) ^ n := by
  have hb := h.bound hi hj
  obtain ⟨M, h⟩ := h
  have hl := h.len
  have hp : 0 < left.length := List.length_pos_of_mem hi
  have ht := h.ts
  rw [bnd_cast] at hb
  exact Nat.le_trans (bd_nat hb) (bnd_le (by omega) hB (by omega) (by omega))
theorem BI.sizeA (h : BI n (B : Rat) Orig pos S left R ahead t) (hB : 1 ≤ B) {i : Nat} (hi : i ∈ left) : ahead.natAbs ≤ (n * (4 ^ n * B)) ^ n := by
  have hb := h.boundA
  obtain ⟨M, h⟩ := h
  have hl := h.len
  have hp : 0 < left.length := List.length_pos_of_mem hi
  have ht := h.ts
  rw [bnd_cast] at hb
  exact Nat.le_trans (bd_nat hb) (bnd_le (by omega) hB (by omega) (by omega))
theorem BI.ne' (h : BI n (B : Rat) Orig pos S left R ahead t) : ahead ≠ 0 ∧ left.Nodup ∧ S.length + left.length = n ∧ t ≤ S.length + 1 := by
  obtain ⟨M, h⟩ := h
  exact ⟨h.ne, h.nd, h.len, h.ts⟩
theorem BI.pos' {pos' : Prop} (h : BI n (B : Rat) Orig pos S left R ahead t) (e : pos ↔ pos') : BI n (B : Rat) Orig pos' S left R ahead t := by
  rw [← propext e]; exact h
end
/-- the table at the start -/
theorem table_start {ns : List Int} {N A : Nat} (hA1 : 1 ≤ A) (hc : ∀ k, (cf ns k).natAbs ≤ A) (hN : N ≤ 8) :
    BI N (((32 ^ (2 * N) * A ^ (2 * N) : Nat)) : Rat) (∀ v, 0 ≤ qf N (fun i j => (Sx (cf ns) N (i + j) : Rat)) v) True [] (List.range N) (fun i j => Sx (cf ns) N (i + j)) 1 0 := by
  have h := BI.start (n := N) (B := (((32 ^ (2 * N) * A ^ (2 * N) : Nat)) : Rat)) (R := fun i j => Sx (cf ns) N (i + j)) (M := fun i j => if i < N ∧ j < N then Sx (cf ns) N (i + j) else 0) (fun i j => ?_) (fun i j => ?_) (fun i hi j hj => ?_)
  · have e : (∀ v : Nat → Rat, 0 ≤ qf N (fun i j => (((if i < N ∧ j < N then Sx (cf ns) N (i + j) else 0 : Int)) : Rat)) v) ↔ ∀ v : Nat → Rat, 0 ≤ qf N (fun i j => (Sx (cf ns) N (i + j) : Rat)) v := by
      have : ∀ v : Nat → Rat, qf N (fun i j => (((if i < N ∧ j < N then Sx (cf ns) N (i + j) else 0 : Int)) : Rat)) v = qf N (fun i j => (Sx (cf ns) N (i + j) : Rat)) v := fun v => by
        unfold qf
        refine sm_congr fun i hi => sm_congr fun j hj => ?_
        dsimp only
        rw [if_pos ⟨hi, hj⟩]
      exact forall_congr' fun v => by rw [this]
    rw [← propext e]
    exact h
  · by_cases q : i < N ∧ j < N
    · rw [if_pos q, if_pos ⟨q.2, q.1⟩, Nat.add_comm]
    · rw [if_neg q, if_neg (fun z => q ⟨z.2, z.1⟩)]
  · refine nat_bd ?_
    split
    · rename_i q
      refine Nat.le_trans (Sx_le hA1 hc (by omega) (i + j) (i + j) (Nat.le_refl _) (by omega)) ?_
      exact Nat.mul_le_mul (Nat.pow_le_pow_right (by decide) (by omega)) (Nat.pow_le_pow_right hA1 (by omega))
    · exact Nat.zero_le _
  · rw [if_pos ⟨hi, hj⟩]
/-- from the table to the curve -/
theorem table_rr {a : List Rat} {ns : List Int} {N A : Nat} (hl : a.length = N + 1) (ta : Tr a) (hw : Wh a ns A) : (∀ v, 0 ≤ qf N (fun i j => (Sx (cf ns) N (i + j) : Rat)) v) ↔ RRn N (en a) := by
  obtain ⟨wl, _, t, ht, he⟩ := hw
  have hcf : ∀ k, (cf ns k : Rat) = t * en a k := fun k => he k
  have hne : cf ns N ≠ 0 := fun e => by
    have h1 := hcf N
    rw [e] at h1
    have h2 := ta (fun e => by rw [e] at hl; simp at hl)
    rw [hl] at h2
    have h3 : t * en a N = 0 := h1.symm
    rcases Rat.mul_eq_zero.mp h3 with q | q
    · rw [q] at ht; exact absurd ht (by decide)
    · exact h2 q
  have hP : ∀ k, en (ns.map fun z : Int => (z : Rat)) k = (cf ns k : Rat) := fun k => by
    rw [show en (ns.map fun z : Int => (z : Rat)) k = (ns.map fun z : Int => (z : Rat)).getD k 0 from rfl, List.getD_eq_getElem?_getD, List.getElem?_map]
    unfold cf
    rw [List.getD_eq_getElem?_getD]
    cases ns[k]? <;> rfl
  rw [table_psd (P := ns.map fun z : Int => (z : Rat)) hne (by rw [List.length_map, wl, hl]) (fun k _ => hP k)]
  have e : en (ns.map fun z : Int => (z : Rat)) = fun k => t * en a k := funext fun k => by rw [hP, hcf]
  rw [e]
  exact rr_scale (fun z => by rw [z] at ht; exact absurd ht (by decide)) (en a)
end K66

set_option Elab.async false
set_option linter.all false
set_option exponentiation.threshold 100000
namespace K66
abbrev RR (p : Nat → Rat) : Prop := RRn 8 p
theorem rr_any {n : Nat} {p : Nat → Rat} (h : Up n p) (hn : n ≤ 8) : RRn n p ↔ RR p := (rr_le h hn).symm
theorem Fit.le {N M A : Nat} (h : Fit M A) (hN : N ≤ M) (hA : 1 ≤ A) : Fit N A := by
  unfold Fit at *
  rcases Nat.eq_zero_or_pos N with z | z
  · subst z
    rw [Nat.pow_zero]
    exact Nat.one_lt_two_pow (by decide)
  · refine Nat.lt_of_le_of_lt ?_ h
    have h1 : N * (4 ^ N * (32 ^ (2 * N) * A ^ (2 * N))) ≤ M * (4 ^ M * (32 ^ (2 * M) * A ^ (2 * M))) :=
      Nat.mul_le_mul hN (Nat.mul_le_mul (Nat.pow_le_pow_right (by decide) hN) (Nat.mul_le_mul (Nat.pow_le_pow_right (by decide) (by omega)) (Nat.pow_le_pow_right hA (by omega))))
    have h2 : 0 < M * (4 ^ M * (32 ^ (2 * M) * A ^ (2 * M))) := Nat.mul_pos (by omega) (Nat.mul_pos (Nat.pow_pos (by decide)) (Nat.mul_pos (Nat.pow_pos (by decide)) (Nat.pow_pos hA)))
    exact Nat.le_trans (Nat.pow_le_pow_left h1 N) (Nat.pow_le_pow_right h2 hN)
theorem Fit.down {N A B : Nat} (h : Fit N B) (hAB : A ≤ B) : Fit N A := by
  unfold Fit at *
  refine Nat.lt_of_le_of_lt (Nat.pow_le_pow_left ?_ N) h
  exact Nat.mul_le_mul_left _ (Nat.mul_le_mul_left _ (Nat.mul_le_mul_left _ (Nat.pow_le_pow_left hAB _)))
/-- small enough for the table -/
def Fine (a : List Rat) : Prop := a.length ≤ 9 ∧ ∃ A d, InL A d a ∧ 0 < d ∧ d < 2 ^ 64 ∧ 1 ≤ A ∧ A < 2 ^ 300 ∧ Fit (a.length - 1) A
theorem Fine.trim {a : List Rat} (h : Fine a) : Fine (trim a) := by
  obtain ⟨h1, A, d, h2, h3, h4, h5, h6, h7⟩ := h
  have := trim_len a
  exact ⟨by omega, A, d, h2.trim, h3, h4, h5, h6, h7.le (by omega) h5⟩
theorem rr_nil {a : List Rat} (h : a = []) : RR (en a) := by
  rw [h]
  have e : en [] = fun _ => (0 : Rat) := rfl
  rw [e]
  refine (rr_le (d := 0) (fun _ _ => rfl) (n := 8) (by decide)).mpr ?_
  intro v
  exact Rat.le_refl
def powL (n : Nat) : List Rat := List.replicate n 0 ++ [1]
theorem en_powL (n k : Nat) : en (powL n) k = mono n k := by
  unfold en powL mono
  rw [List.getD_eq_getElem?_getD, List.getElem?_append]
  rw [List.length_replicate]
  by_cases h : k < n
  · rw [if_pos h, if_neg (by omega), List.getElem?_replicate, if_pos h]; rfl
  · rw [if_neg h]
    by_cases e : k = n
    · rw [if_pos e, e, Nat.sub_self]; rfl
    · rw [if_neg e, List.getElem?_eq_none (by simp; omega)]; rfl
theorem powL_len (n : Nat) : (powL n).length = n + 1 := by unfold powL; simp
theorem tr_powL (n : Nat) : Tr (powL n) := fun _ => by
  rw [powL_len, en_powL]
  unfold mono
  rw [if_pos (by omega)]
  decide
theorem trim_powL (n : Nat) : trim (powL n) = powL n := trim_of_tr (tr_powL n)
theorem inl_powL (n : Nat) : InL 1 1 (powL n) := InL.of fun k => by
  rw [en_powL]
  unfold mono
  split
  · exact In.int 1 (by decide)
  · exact In.zero _ _
def imgL : List Rat → List Rat → List Rat → List Rat
  | f, _, [] => f
  | f, l, q :: qs => imgL (addL (trim f) (trim (byN (trim l) q))) (slopeL (trim l)) qs
theorem en_imgL : ∀ (qs f l : List Rat) (k : Nat), en (imgL f l qs) k = en f k + img qs (en l) k
  | [], f, l, k => by show en f k = en f k + 0; grind -verbose
  | q :: qs, f, l, k => by
    show en (imgL (addL (trim f) (trim (byN (trim l) q))) (slopeL (trim l)) qs) k = en f k + (q * en l k + img qs (der (en l)) k)
    have e : en (slopeL (trim l)) = der (en l) := funext fun k => by rw [en_slopeL, en_trim']
    rw [en_imgL qs, en_addL, en_trim, en_trim, en_byN, en_trim, e]; grind -verbose
theorem en_img (qs l : List Rat) : en (imgL [] l qs) = img qs (en l) := funext fun k => by
  rw [en_imgL]
  have : en ([] : List Rat) k = 0 := rfl
  rw [this]; grind -verbose
theorem tr_imgL : ∀ (qs f l : List Rat), Tr f → Tr (imgL f l qs)
  | [], _, _, h => h
  | q :: qs, f, l, h => tr_imgL qs _ _ (tr_trim _)
theorem tr_nil : Tr [] := fun h => absurd rfl h
theorem addL_len (a b : List Rat) : (addL a b).length ≤ max a.length b.length := by
  unfold addL
  refine Nat.le_trans (trim_len _) ?_
  rw [List.length_map, List.length_range]; exact Nat.le_refl _
theorem byN_len (a : List Rat) (q : Rat) : (byN a q).length ≤ a.length := by
  unfold byN
  refine Nat.le_trans (trim_len _) ?_
  rw [List.length_map]; exact Nat.le_refl _
theorem InL.up {A B d : Nat} {l : List Rat} (h : InL A d l) (hAB : A ≤ B) : InL B d l := fun q hq => (h q hq).mono hAB
theorem InL.nil (A d : Nat) : InL A d [] := fun _ h => by cases h
/-- one turn of image_by, in sizes -/
theorem img_turn {A B d e N : Nat} {f l : List Rat} {q : Rat} (hf : InL (A * B * 10 ^ N) (d * e) f) (hl : InL (A * 9 ^ N) d l) (hq : In B e q) (lf : f.length ≤ 9) (ll : l.length ≤ 9) :
    InL (A * 9 ^ N * B) (d * e) (byN (K66.trim l) q) ∧ InL (A * B * 10 ^ (N + 1)) (d * e) (addL (K66.trim f) (K66.trim (byN (K66.trim l) q))) ∧ InL (A * 9 ^ (N + 1)) d (slopeL (K66.trim l)) ∧ (addL (K66.trim f) (K66.trim (byN (K66.trim l) q))).length ≤ 9 ∧ (slopeL (K66.trim l)).length ≤ 9 := by
  have t1 := trim_len f
  have t2 := trim_len l
  have t3 := trim_len (byN (K66.trim l) q)
  have t4 := byN_len (K66.trim l) q
  have t5 := addL_len (K66.trim f) (K66.trim (byN (K66.trim l) q))
  have b1 : InL (A * 9 ^ N * B) (d * e) (byN (K66.trim l) q) := hl.trim.byN hq
  refine ⟨b1, (hf.trim.add b1.trim).up ?_, (hl.trim.slope).up ?_, by omega, by rw [slopeL_len]; omega⟩
  · have h9 : 9 ^ N ≤ 10 ^ N := Nat.pow_le_pow_left (by decide) N
    have h1 : A * 9 ^ N * B ≤ A * B * 10 ^ N := by
      rw [Nat.mul_right_comm]
      exact Nat.mul_le_mul_left _ h9
    rw [Nat.pow_succ, ← Nat.mul_assoc]
    omega
  · rw [Nat.pow_succ, ← Nat.mul_assoc]
    exact Nat.mul_le_mul_left _ (by omega)
end K66

set_option Elab.async false
set_option linter.all false
set_option maxRecDepth 100000
set_option exponentiation.threshold 100000
namespace K66
theorem tr_len {l : List Rat} {n : Nat} (h : Tr l) (hu : Up n (en l)) : l.length ≤ n + 1 := by
  rcases Nat.lt_or_ge (n + 1) l.length with q | q
  · exfalso
    refine h (fun e => ?_) (hu _ (by omega))
    rw [e] at q
    simp at q
  · exact q
theorem inl_imgL {A B d e : Nat} : ∀ (qs : List Rat) (N : Nat) (f l : List Rat), InL (A * B * 10 ^ N) (d * e) f → InL (A * 9 ^ N) d l → InL B e qs → f.length ≤ 9 → l.length ≤ 9 → N + qs.length ≤ 9 → InL (A * B * 10 ^ 9) (d * e) (imgL f l qs)
  | [], N, f, l, hf, _, _, _, _, hN => hf.up (Nat.mul_le_mul_left _ (Nat.pow_le_pow_right (by decide) (by simpa using hN)))
  | q :: qs, N, f, l, hf, hl, hq, lf, ll, hN => by
    obtain ⟨_, t2, t3, t4, t5⟩ := img_turn hf hl (hq q (List.mem_cons_self ..)) lf ll
    exact inl_imgL qs (N + 1) _ _ t2 t3 (fun x hx => hq x (List.mem_cons_of_mem _ hx)) t4 t5 (by rw [List.length_cons] at hN; omega)
/-- what a rule may be for image_by -/
def ImgOk (a qs : List Rat) : Prop := a.length ≤ 9 ∧ qs.length ≤ 9 ∧ ∃ A d B e, InL A d a ∧ InL B e qs ∧ 0 < d ∧ 0 < e ∧ 1 ≤ A ∧ 1 ≤ B ∧ A * B * 10 ^ 9 < 2 ^ 3000 ∧ d * e < 2 ^ 3000
def RuleOk (qs : List Rat) : Prop := qs.length ≤ 9 ∧ ∃ B e, InL B e qs ∧ 0 < e ∧ 1 ≤ B ∧ B * 10 ^ 9 < 2 ^ 3000 ∧ e < 2 ^ 3000
/-- what a rule may be for keeps_fenced -/
def RuleFine (n : Nat) (qs : List Rat) : Prop := qs.length ≤ 9 ∧ ∃ B e, InL B e qs ∧ 0 < e ∧ e < 2 ^ 64 ∧ 1 ≤ B ∧ B * 10 ^ 9 < 2 ^ 300 ∧ Fit n (B * 10 ^ 9)
def pim (n : Nat) (qs : List Rat) : List Rat := imgL [] (powL n) (trim qs)
theorem RuleFine.ok {n : Nat} {qs : List Rat} (h : RuleFine n qs) : RuleOk qs := by
  obtain ⟨h1, B, e, h2, h3, h4, h5, h6, _⟩ := h
  exact ⟨h1, B, e, h2, h3, h5, Nat.lt_of_lt_of_le h6 (Nat.pow_le_pow_right (by decide) (by decide)), Nat.lt_of_lt_of_le h4 (Nat.pow_le_pow_right (by decide) (by decide))⟩
theorem img_same (q q' : List Rat) (h : en q = en q') : ∀ {n : Nat} {p : Nat → Rat}, Up n p → ∀ i, img q p i = img q' p i := by
  intro n p hp i
  have h1 := img_im (n + 1) n q 0 p hp (by omega) i
  have h2 := img_im (n + 1) n q' 0 p hp (by omega) i
  rw [List.drop_zero] at h1 h2
  rw [h1, h2, h]
theorem en_pim (n : Nat) (qs : List Rat) : en (pim n qs) = img qs (mono n) := by
  unfold pim
  rw [en_img]
  have e : en (powL n) = mono n := funext fun k => en_powL n k
  rw [e]
  exact funext fun i => img_same _ _ (en_trim' qs) (mono_up (Nat.le_refl n)) i
theorem tr_pim (n : Nat) (qs : List Rat) : Tr (pim n qs) := tr_imgL _ _ _ tr_nil
theorem pim_up (n : Nat) (qs : List Rat) : Up n (en (pim n qs)) := by
  rw [en_pim]
  exact img_up qs (mono_up (Nat.le_refl n))
theorem pim_len {n : Nat} (qs : List Rat) (hn : n ≤ 8) : (pim n qs).length ≤ 9 ∧ (pim n qs).length - 1 ≤ n := by
  have hl := tr_len (tr_pim n qs) (pim_up n qs)
  constructor <;> omega
theorem RuleFine.fine {n : Nat} {qs : List Rat} (h : RuleFine n qs) (hn : n ≤ 8) : Fine (pim n qs) := by
  obtain ⟨h1, B, e, h2, h3, h4, h5, h6, h7⟩ := h
  have t1 := trim_len qs
  have hi : InL (1 * B * 10 ^ 9) (1 * e) (pim n qs) := inl_imgL (A := 1) (d := 1) (trim qs) 0 [] (powL n) (InL.nil _ _) (by rw [Nat.pow_zero, Nat.mul_one]; exact inl_powL n) h2.trim (Nat.zero_le _) (by rw [powL_len]; exact Nat.succ_le_succ hn) (by rw [Nat.zero_add]; exact Nat.le_trans t1 h1)
  rw [Nat.one_mul, Nat.one_mul] at hi
  have p : 1 ≤ B * 10 ^ 9 := Nat.le_trans h5 (Nat.le_mul_of_pos_right _ (by decide))
  exact ⟨(pim_len qs hn).1, B * 10 ^ 9, e, hi, h3, h4, p, h6, Fit.le h7 (pim_len qs hn).2 p⟩
theorem RuleOk.img {n : Nat} {qs : List Rat} (h : RuleOk qs) (hn : n ≤ 8) : ImgOk (powL n) (trim qs) := by
  obtain ⟨h1, B, e, h2, h3, h4, h5, h6⟩ := h
  have t1 := trim_len qs
  exact ⟨by rw [powL_len]; omega, by omega, 1, 1, B, e, inl_powL n, h2.trim, by decide, h3, Nat.le_refl 1, h4, by rw [Nat.one_mul]; exact h5, by rw [Nat.one_mul]; exact h6⟩
def pf (n : Nat) : Nat → Rat
  | 0 => 1
  | j + 1 => pf n j / ((n - j : Nat) : Rat)
def rtL (a : List Rat) (n : Nat) : List Rat := trim ((List.range (n + 1)).map fun j => en a (n - j) * pf n j)
theorem en_rtL (a : List Rat) (n k : Nat) : en (rtL a n) k = if k < n + 1 then en a (n - k) * pf n k else 0 := by
  unfold rtL
  rw [en_trim, en_rmap]
def pfQ (n j : Nat) : Bool := let x := pf n j * 40320; x.den == 1 && x.num.natAbs ≤ 40320
theorem pf_all : ((List.range 9).all fun n => (List.range 9).all fun j => pfQ n j) = true := by decide +kernel
theorem pf_in {n j : Nat} (hn : n ≤ 8) (hj : j ≤ 8) : In 40320 40320 (pf n j) := by
  have h := List.all_eq_true.mp (List.all_eq_true.mp pf_all n (List.mem_range.mpr (by omega))) j (List.mem_range.mpr (by omega))
  unfold pfQ at h
  have h := Bool.and_eq_true_iff.mp h
  have h1 : (pf n j * 40320).den = 1 := by simpa using h.1
  have h2 : (pf n j * 40320).num.natAbs ≤ 40320 := by simpa using h.2
  refine ⟨(pf n j * 40320).num, ?_, h2⟩
  have e := Rat.num_divInt_den (pf n j * 40320)
  rw [h1] at e
  have e2 : ((40320 : Nat) : Rat) = 40320 := rfl
  rw [e2]
  conv => lhs; rw [← e]
  rw [Rat.divInt_eq_div]
  have e3 : (((1 : Nat) : Int) : Rat) = 1 := rfl
  rw [e3]; grind -verbose
theorem rtL_len (a : List Rat) (n : Nat) : (rtL a n).length ≤ n + 1 := by
  unfold rtL
  refine Nat.le_trans (trim_len _) ?_
  rw [List.length_map, List.length_range]; exact Nat.le_refl _
theorem inl_rtL {A d : Nat} {a : List Rat} {n : Nat} (h : InL A d a) (hn : n ≤ 8) : InL (A * 40320) (d * 40320) (rtL a n) := InL.of fun k => by
  rw [en_rtL]
  split
  · exact (h.en _).mul (pf_in hn (by omega))
  · exact In.zero _ _
end K66

set_option Elab.async false
set_option linter.all false
set_option maxRecDepth 100000
set_option maxHeartbeats 2000000
set_option exponentiation.threshold 10000
namespace K66
open PySem PySem.Spec PyProof.Rows L2
open Evl (Ex)
theorem bools_eq : ∀ {l : List V} {m : List Bool}, Paired (fun v i => v = V.bl i) l m → l = m.map V.bl
  | _, _, .nil => rfl
  | _, _, .cons r t => by rw [List.map_cons, ← bools_eq t, r]
theorem all_rep (n : Nat) : (List.replicate n true).all id = true := List.all_eq_true.mpr fun b hb => by rw [(List.mem_replicate.mp hb).2]; rfl
theorem sqn_sz {K : PySem.W.Frag} {H : Hp} {a : Addr} {vs : List V} (hv : H a = some (.lst vs) ∨ H a = some (.tup vs)) : SqL K H a vs ∨ SqT K H a vs := hv.elim (fun h => .inl (.of h)) (fun h => .inr (.of h))
section
variable {P : Program} {w : World} {K : PySem.W.Frag} {mg : Str → Option Value} {base : Heap}
def spMany : Sp := fun vs H Q _ => ∃ v m : Int, vs = [.int v, .int m] ∧ 0 ≤ v ∧ v ≤ m ∧ Q .non H
theorem sc_want_many : FnScope ["value", "most"] ["value", "most"] (defScope (tp 15)) := ⟨rfl, rfl, rfl, by decide +kernel, rfl, by decide +kernel, by decide +kernel⟩
theorem ok_want_many (T : Tx K mg) : Ok P w K mg base 3 "want_many" ["value", "most"] spMany := by
  have O_is_count := ok_is_count (P := P) (w := w) (base := base) T
  obtain ⟨fd, F⟩ := T.d_want_many.fn
  have G : FnOk P w K mg base CX0 3 (He.ga K "want_many") fd ["value", "most"] spMany := F.ok sc_want_many (fun vs H Q E h => by
      obtain ⟨_, _, rfl, _⟩ := h
      rfl) (fun cdv A outer s H vs Q E hr h => by
    refine ⟨_, PSs.nox (pss_cons (ps_if (pt_not (pt_val (pe_c O_is_count (hr.mono (by decide)) (by rfl) (pa_cons (pv 0) pa_nil)))) (pss_one ps_never) pss_nil)
      (pss_one (ps_if (PW.pt (pw_and (pt_cmpR op_notN (pv 1) pe_non (nomark _)) (pw_and1 (pt_cmpR op_gt (pv 0) (pv 1) (nomark _))))) (pss_one ps_never) pss_nil))), ?_⟩
    obtain ⟨v, m, rfl, h0, h1, q⟩ := h
    refine ⟨_, rfl, v, rfl, ?_⟩
    rw [decide_eq_true h0]
    refine ⟨_, rfl, iteF ?_⟩
    refine ⟨_, rfl, rfl, _, rfl, iteT ?_⟩
    refine ⟨_, rfl, _, rfl, _, _, rfl, rfl, _, rfl, ?_⟩
    rw [decide_eq_false (by omega : ¬ m < v)]
    exact iteF q)
  obtain ⟨ds, h1, h2⟩ := F.binds1 (ps := ["value", "most"]) 2 1 (by decide) (by decide) (fun D kV doc pm an cdv ct us its h1 h2 => match us, h1, its, h2 with
    | [_, _], _, [_], _ => ⟨_, rfl, rfl⟩)
  obtain rfl := nil_its h1
  exact ⟨T.d_want_many.mgx, F.kp, fd, G, h2⟩
def spCurveQ (K : PySem.W.Frag) : Sp := fun vs H Q _ => ∃ v, vs = [v] ∧ ∃ qs, SqN K H v qs ∧ qs.length ≤ 41 ∧ ∀ H', Ex H H' → Q (.bl true) H'
theorem sc_is_curve : FnScope ["value", "number"] ["value"] (defScope (tp 27)) := ⟨rfl, rfl, rfl, by decide +kernel, rfl, by decide +kernel, by decide +kernel⟩
theorem ok_is_curve (T : Tx K mg) : Ok P w K mg base 3 "is_curve" ["value"] (spCurveQ K) := by
  have O_is_list := ok_is_list (P := P) (w := w) (base := base) T
  have O_is_number := ok_is_number (P := P) (w := w) (base := base) T
  refine T.d_is_curve.ok sc_is_curve (fun vs H Q E h => ?_) (fun _ _ _ _ _ _ us hl => match us, hl with | [_], _ => rfl) (fun cdv A outer s H vs Q E hr h => ?_)
  · obtain ⟨_, rfl, _⟩ := h
    rfl
  · skip
    obtain ⟨v, rfl, qs, ⟨a, vs, rfl, hv, hp⟩, hl, k⟩ := h
    have hln : vs.length = qs.length := hp.length
    have hv' : (∃ xs, H a = some (.lst xs)) ∨ ∃ xs, H a = some (.tup xs) := hv.elim (fun h => .inl ⟨_, h⟩) (fun h => .inr ⟨_, h⟩)
    rcases hv with hv | hv
    · refine ⟨_, (pss_one (ps_ret (pe_and (pe_c O_is_list (hr.mono (by decide)) (by rfl) (pa_cons (pv 0) pa_nil)) (pe_and (pe_cmpR op_le (pe_callB (call_lenK (K := K) rfl) (by rfl) T.n_len (by decide +kernel) (pa_cons (pv 0) pa_nil)) (pe_op op_add (pe_glob (v := .int 40) (by rfl) T.k_MOST_DEGREE.choose_spec ⟨_, rfl⟩) pe_int) (nomark _)) (pe_one (pe_callB (cr_all (by rfl)) (by rfl) T.n_all (by decide +kernel) (pa_cons (pe_lc (own := [("number", 1)]) rfl sc_is_curve.nd (pi_list (pv 0)) (blkOk_by (own := [("number", 1)]) (N := ["value", "number"]) (sc := defScope (tp 27)) (by decide +kernel)) (fun _ _ _ _ _ => (pg_name (i := 1) sc_is_curve.nd rfl (.inl rfl))) (fun _ _ _ _ _ => pts_nil) (fun _ _ _ _ _ => (pe_c O_is_number (hr.mono (by decide)) (by rfl) (pa_cons (pv 1) pa_nil)))) pa_nil))))))), ?_⟩
      refine ⟨_, rfl, a, rfl, hv', fun H1 e1 => ?_⟩
      refine ⟨_, rfl, iteT ?_⟩
      refine ⟨_, rfl, a, vs, rfl, sqn_sz (.inl (e1 _ _ hv)), ?_⟩
      refine ⟨_, _, rfl, rfl, _, _, rfl, rfl, ?_⟩
      show ∃ c, V.bl (decide ((vs.length : Int) ≤ 40 + 1)) = V.bl c ∧ _
      rw [decide_eq_true (by omega : (vs.length : Int) ≤ 40 + 1)]
      refine ⟨_, rfl, iteT ?_⟩
      dsimp only [tSeq, tRet, tCB, tCall, tCons, tNext, gName, tAsg, tNil, tIfS, tOp, tC]
      refine LcL (List.replicate vs.length true) (R := IsB) rep_B (fun F f => ⟨_, rfl, f⟩) (.of (e1 _ _ hv)) (by simp) (by omega) ?_ ?_ ?_
      · exact fun _ => rfl
      · intro i x b H2 D zs hx hb e2 hD Q' q'
        obtain ⟨q, hq, rq⟩ := p2_left hp hx
        refine ⟨_, rfl, x, rfl, q, rq.mono (e1.trans e2), ?_⟩
        have : b = true := by
          have := List.mem_of_getElem? hb
          exact (List.mem_replicate.mp this).2
        exact q' _ _ (Evl.Ex.refl _) (by rw [this]; rfl) (by intro e; cases e)
      · intro D H2 zs hD e2 hz hp2
        refine ⟨D, _, rfl, .of (by rw [hz, bools_eq hp2]), ?_⟩
        rw [all_rep]
        exact k _ (e1.trans e2)
    · refine ⟨_, (pss_one (ps_ret (pe_and (pe_c O_is_list (hr.mono (by decide)) (by rfl) (pa_cons (pv 0) pa_nil)) (pe_and (pe_cmpR op_le (pe_callB (call_lenK (K := K) rfl) (by rfl) T.n_len (by decide +kernel) (pa_cons (pv 0) pa_nil)) (pe_op op_add (pe_glob (v := .int 40) (by rfl) T.k_MOST_DEGREE.choose_spec ⟨_, rfl⟩) pe_int) (nomark _)) (pe_one (pe_callB (cr_all (by rfl)) (by rfl) T.n_all (by decide +kernel) (pa_cons (pe_lc (own := [("number", 1)]) rfl sc_is_curve.nd (pi_tup (pv 0)) (blkOk_by (own := [("number", 1)]) (N := ["value", "number"]) (sc := defScope (tp 27)) (by decide +kernel)) (fun _ _ _ _ _ => (pg_name (i := 1) sc_is_curve.nd rfl (.inl rfl))) (fun _ _ _ _ _ => pts_nil) (fun _ _ _ _ _ => (pe_c O_is_number (hr.mono (by decide)) (by rfl) (pa_cons (pv 1) pa_nil)))) pa_nil))))))), ?_⟩
      refine ⟨_, rfl, a, rfl, hv', fun H1 e1 => ?_⟩
      refine ⟨_, rfl, iteT ?_⟩
      refine ⟨_, rfl, a, vs, rfl, sqn_sz (.inr (e1 _ _ hv)), ?_⟩
      refine ⟨_, _, rfl, rfl, _, _, rfl, rfl, ?_⟩
      show ∃ c, V.bl (decide ((vs.length : Int) ≤ 40 + 1)) = V.bl c ∧ _
      rw [decide_eq_true (by omega : (vs.length : Int) ≤ 40 + 1)]
      refine ⟨_, rfl, iteT ?_⟩
      dsimp only [tSeq, tRet, tCB, tCall, tCons, tNext, gName, tAsg, tNil, tIfS, tOp, tC]
      refine LcT (List.replicate vs.length true) (R := IsB) rep_B (fun F f => ⟨_, rfl, f⟩) (.of (e1 _ _ hv)) (by simp) (by omega) ?_ ?_ ?_
      · exact fun _ => rfl
      · intro i x b H2 D zs hx hb e2 hD Q' q'
        obtain ⟨q, hq, rq⟩ := p2_left hp hx
        refine ⟨_, rfl, x, rfl, q, rq.mono (e1.trans e2), ?_⟩
        have : b = true := by
          have := List.mem_of_getElem? hb
          exact (List.mem_replicate.mp this).2
        exact q' _ _ (Evl.Ex.refl _) (by rw [this]; rfl) (by intro e; cases e)
      · intro D H2 zs hD e2 hz hp2
        refine ⟨D, _, rfl, .of (by rw [hz, bools_eq hp2]), ?_⟩
        rw [all_rep]
        exact k _ (e1.trans e2)
def spTrim (K : PySem.W.Frag) : Sp := fun vs H Q _ => ∃ v, vs = [v] ∧ ∃ qs, LsR K H v qs ∧ qs.length ≤ 10000 ∧ ∀ z H', Ex H H' → LsR K H' z (trim qs) → Q z H'
theorem sc_trimmed : FnScope ["ratios", "many"] ["ratios"] (defScope (tp 28)) := ⟨rfl, rfl, rfl, by decide +kernel, rfl, by decide +kernel, by decide +kernel⟩
theorem ok_trimmed (T : Tx K mg) : Ok P w K mg base 3 "trimmed" ["ratios"] (spTrim K) := by
  have O_sign := ok_Ratio_sign (P := P) (w := w) (base := base) T
  refine T.d_trimmed.ok sc_trimmed (fun vs H Q E h => ?_) (fun _ _ _ _ _ _ us hl => match us, hl with | [_], _ => rfl) (fun cdv A outer s H vs Q E hr h => ?_)
  · obtain ⟨_, rfl, _⟩ := h
    rfl
  · refine ⟨_, (pss_cons (ps_set (i := 1) sc_trimmed.nd rfl (.inl rfl) (pe_callB (call_lenK (K := K) rfl) (by rfl) T.n_len (by decide +kernel) (pa_cons (pv 0) pa_nil)))
      (pss_cons (ps_while PassesOwn.never (PW.pt (pw_and (pt_cmpR op_gt (pv 1) pe_int (nomark _)) (pw_and1 (pt_cmpR op_eq (pe_prK (K := K) rfl O_sign (hr.mono (by decide)) T.cl T.p_sign (pe_ix (ix_listK (K := K) rfl) (pv 0) (pe_op op_sub (pv 1) pe_int) (fun _ _ => rfl)) rfl) pe_int (nomark _))))) (pss_one (ps_aug (i := 1) sc_trimmed.nd rfl (.inl rfl) pe_int ip_sub)))
      (pss_one (ps_ret (pe_callTy call_list_of (by rfl) T.n_list (by decide +kernel) (pa_cons (pe_slice (sl_listK (K := K) rfl) (pv 0) po_none (po_some (pv 1))) pa_nil)))))), ?_⟩
    obtain ⟨v, rfl, qs, ⟨a, vs, rfl, hv, hp⟩, hl, k⟩ := h
    have hln : vs.length = qs.length := hp.length
    refine ⟨_, rfl, a, vs, rfl, .inl (.of hv), ?_⟩
    refine ⟨fun m σ' H' => ∃ n : Nat, σ' = [some (.ref a), some (.int (n : Int))] ∧ H' = H ∧ n ≤ qs.length ∧ tln qs qs.length = tln qs n ∧ m = n, ⟨_, qs.length, by rw [hln]; rfl, rfl, Nat.le_refl _, rfl, rfl⟩, ?_⟩
    rintro m σ' H' ⟨n, rfl, rfl, hn, ht, rfl⟩
    have fin : ∀ n : Nat, tln qs qs.length = n → ∀ p, H' p = none → ∀ l, upd H' p (.lst (cutV vs none (some (n : Int)))) l = none → Q (.ref l) (upd (upd H' p (.lst (cutV vs none (some (n : Int))))) l (.lst (cutV vs none (some (n : Int))))) := by
      intro n e p hp0 l hl
      have ex := (Evl.Ex.new (o := .lst (cutV vs none (some (n : Int)))) hp0).trans (Evl.Ex.new (o := .lst (cutV vs none (some (n : Int)))) hl)
      refine k _ _ ex ⟨l, _, rfl, upd_same, ?_⟩
      rw [cut_take]
      unfold trim
      rw [e]
      rw [cut_take] at ex
      exact p2_mono (fun _ _ r => r.mono ex) (p2_take n hp)
    have fin2 : ∀ n : Nat, tln qs qs.length = n → ∃ v, [some (V.ref a), some (V.int (n : Int))][0]? = some (some v) ∧ ∃ i, [some (V.ref a), some (V.int (n : Int))][1]? = some (some i) ∧ ∃ j, i = .int j ∧ rSlL K v none (some j) H' fun x H1 => ∃ p ys, [x] = [V.ref p] ∧ (SqL K H1 p ys ∨ SqT K H1 p ys) ∧ ∀ l, H1 l = none → Q (.ref l) (upd H1 l (.lst ys)) :=
      fun n e => ⟨_, rfl, _, rfl, _, rfl, a, vs, rfl, .of hv, fun p hp0 => ⟨p, _, rfl, .inl (.of upd_same), fin n e p hp0⟩⟩
    refine ⟨_, rfl, _, _, rfl, rfl, _, rfl, ?_⟩
    refine ite2 (fun hb => ?_) (fun hb => ?_)
    · have hm : 0 < m := by have := of_decide_eq_true hb; omega
      obtain ⟨x, hx, rx⟩ := p2_right hp (get_en (show m - 1 < qs.length by omega))
      have e1 : (m : Int) - 1 = ((m - 1 : Nat) : Int) := by omega
      obtain ⟨b, dx, rfl, hb'⟩ := id rx
      refine ⟨_, rfl, _, rfl, _, _, rfl, rfl, a, vs, _, .ref b, rfl, rfl, .of hv, ?_, ?_⟩
      · rw [e1]; exact atI_nat hx
      refine ⟨b, dx, _, rfl, hb', _, rfl, _, rx, ?_⟩
      refine ⟨rfl, _, rfl, ?_⟩
      refine ite2 (fun hz => ?_) (fun hz => ?_)
      · have hz : en qs (m - 1) = 0 := (sgn_zero _).mp (by have := of_decide_eq_true hz; injection this)
        refine ⟨_, fun _ _ z => z, ?_⟩
        refine ⟨_, rfl, _, _, rfl, rfl, ?_⟩
        obtain ⟨m, rfl⟩ : ∃ n, m = n + 1 := ⟨m - 1, by omega⟩
        refine ⟨m, by omega, m, ?_, rfl, by omega, ?_, rfl⟩
        · show [some (V.ref a), some (V.int (((m + 1 : Nat) : Int) - 1))] = _
          rw [e1]; rfl
        · rw [ht]
          show (if en qs m = 0 then tln qs m else m + 1) = tln qs m
          exact if_pos hz
      · have hz : ¬ en qs (m - 1) = 0 := fun z => hz (decide_eq_true (by rw [(sgn_zero _).mpr z]))
        have et : tln qs qs.length = m := by
          obtain ⟨m, rfl⟩ : ∃ n, m = n + 1 := ⟨m - 1, by omega⟩
          rw [ht]
          show (if en qs m = 0 then tln qs m else m + 1) = m + 1
          exact if_neg hz
        exact fin2 m et
    · have hm : m = 0 := by
        have : ¬ (0 : Int) < (m : Int) := fun z => hb (decide_eq_true z)
        omega
      subst hm
      exact iteF (fin2 0 (by rw [ht]; rfl))
def spWant (K : PySem.W.Frag) : Sp := fun vs H Q _ => ∃ v, vs = [v] ∧ ∃ qs, SqN K H v qs ∧ qs.length ≤ 41 ∧ ∀ z H', Ex H H' → LsR K H' z (trim qs) → Q z H'
theorem sc_want_curve : FnScope ["value", "number"] ["value"] (defScope (tp 29)) := ⟨rfl, rfl, rfl, by decide +kernel, rfl, by decide +kernel, by decide +kernel⟩
theorem ok_want_curve (T : Tx K mg) : Ok P w K mg base 5 "want_curve" ["value"] (spWant K) := by
  have O_trimmed := ok_trimmed (P := P) (w := w) (base := base) T
  have O_is_curve := ok_is_curve (P := P) (w := w) (base := base) T
  have O_ratio_of := ok_ratio_of (P := P) (w := w) (base := base) T
  refine T.d_want_curve.ok sc_want_curve (fun vs H Q E h => ?_) (fun _ _ _ _ _ _ us hl => match us, hl with | [_], _ => rfl) (fun cdv A outer s H vs Q E hr h => ?_)
  · obtain ⟨_, rfl, _⟩ := h
    rfl
  · skip
    obtain ⟨v, rfl, qs, hv0, hl, k⟩ := h
    obtain ⟨a, vs, rfl, hv, hp⟩ := id hv0
    have hln : vs.length = qs.length := hp.length
    rcases hv with hv | hv
    · refine ⟨_, (pss_cons (ps_if (pt_not (pt_val (pe_c O_is_curve (hr.mono (by decide)) (by rfl) (pa_cons (pv 0) pa_nil)))) (pss_one ps_never) pss_nil)
      (pss_one (ps_ret (pe_c O_trimmed (hr.mono (by decide)) (by rfl) (pa_cons (pe_lc (own := [("number", 1)]) rfl sc_want_curve.nd (pi_list (pv 0)) (blkOk_by (own := [("number", 1)]) (N := ["value", "number"]) (sc := defScope (tp 29)) (by decide +kernel)) (fun _ _ _ _ _ => (pg_name (i := 1) sc_want_curve.nd rfl (.inl rfl))) (fun _ _ _ _ _ => pts_nil) (fun _ _ _ _ _ => (pe_c O_ratio_of (hr.mono (by decide)) (by rfl) (pa_cons (pv 1) pa_nil)))) pa_nil))))), ?_⟩
      refine ⟨_, rfl, _, rfl, qs, hv0, hl, fun H1 e1 => ?_⟩
      refine ⟨_, rfl, iteF ?_⟩
      dsimp only [tSeq, tRet, tCB, tCall, tCons, tNext, gName, tAsg, tNil, tIfS, tOp, tC]
      refine LcL qs (R := IsR K) rep_R (fun F f => ⟨_, rfl, f⟩) (.of (e1 _ _ hv)) hln (by omega) ?_ ?_ ?_
      · exact fun _ => rfl
      · intro i x b H2 D zs hx hb e2 hD Q' q'
        obtain ⟨q, hq, rq⟩ := p2_left hp hx
        cases hq.symm.trans hb
        exact ⟨_, rfl, x, rfl, _, rq.mono (e1.trans e2), fun z H3 e3 r => q' z H3 e3 r (sep_R r (e3 _ _ hD))⟩
      · intro D H2 zs hD e2 hz hp2
        exact ⟨_, rfl, qs, ⟨D, zs, rfl, hz, hp2⟩, by omega, fun z H3 e3 r => k z H3 ((e1.trans e2).trans e3) r⟩
    · refine ⟨_, (pss_cons (ps_if (pt_not (pt_val (pe_c O_is_curve (hr.mono (by decide)) (by rfl) (pa_cons (pv 0) pa_nil)))) (pss_one ps_never) pss_nil)
      (pss_one (ps_ret (pe_c O_trimmed (hr.mono (by decide)) (by rfl) (pa_cons (pe_lc (own := [("number", 1)]) rfl sc_want_curve.nd (pi_tup (pv 0)) (blkOk_by (own := [("number", 1)]) (N := ["value", "number"]) (sc := defScope (tp 29)) (by decide +kernel)) (fun _ _ _ _ _ => (pg_name (i := 1) sc_want_curve.nd rfl (.inl rfl))) (fun _ _ _ _ _ => pts_nil) (fun _ _ _ _ _ => (pe_c O_ratio_of (hr.mono (by decide)) (by rfl) (pa_cons (pv 1) pa_nil)))) pa_nil))))), ?_⟩
      refine ⟨_, rfl, _, rfl, qs, hv0, hl, fun H1 e1 => ?_⟩
      refine ⟨_, rfl, iteF ?_⟩
      dsimp only [tSeq, tRet, tCB, tCall, tCons, tNext, gName, tAsg, tNil, tIfS, tOp, tC]
      refine LcT qs (R := IsR K) rep_R (fun F f => ⟨_, rfl, f⟩) (.of (e1 _ _ hv)) hln (by omega) ?_ ?_ ?_
      · exact fun _ => rfl
      · intro i x b H2 D zs hx hb e2 hD Q' q'
        obtain ⟨q, hq, rq⟩ := p2_left hp hx
        cases hq.symm.trans hb
        exact ⟨_, rfl, x, rfl, _, rq.mono (e1.trans e2), fun z H3 e3 r => q' z H3 e3 r (sep_R r (e3 _ _ hD))⟩
      · intro D H2 zs hD e2 hz hp2
        exact ⟨_, rfl, qs, ⟨D, zs, rfl, hz, hp2⟩, by omega, fun z H3 e3 r => k z H3 ((e1.trans e2).trans e3) r⟩
def spEntry (K : PySem.W.Frag) : Sp := fun vs H Q _ => ∃ v u, vs = [v, u] ∧ ∃ qs, ∃ p : Nat, u = .int (p : Int) ∧ LsR K H v qs ∧ ∀ z H', Ex H H' → IsR K H' z (en qs p) → Q z H'
theorem sc_entry_of : FnScope ["curve", "position"] ["curve", "position"] (defScope (tp 30)) := ⟨rfl, rfl, rfl, by decide +kernel, rfl, by decide +kernel, by decide +kernel⟩
theorem ok_entry_of (T : Tx K mg) : Ok P w K mg base 4 "entry_of" ["curve", "position"] (spEntry K) := by
  have O_init1 := ok_init1 (P := P) (w := w) (base := base) T
  refine T.d_entry_of.ok sc_entry_of (fun vs H Q E h => ?_) (fun _ _ _ _ _ _ us hl => match us, hl with | [_, _], _ => rfl) (fun cdv A outer s H vs Q E hr h => ?_)
  · obtain ⟨_, _, rfl, _⟩ := h
    rfl
  · refine ⟨_, (pss_one (ps_ret (pe_ifExp (pt_cmpR op_lt (pv 1) (pe_callB (call_lenK (K := K) rfl) (by rfl) T.n_len (by decide +kernel) (pa_cons (pv 0) pa_nil)) (nomark _)) (pe_ix (ix_listK (K := K) rfl) (pv 0) (pv 1) (fun _ _ => rfl)) (pe_mkRK (K := K) rfl T O_init1 (hr.mono (by decide)) (by rfl) (pa_cons pe_int pa_nil))))), ?_⟩
    obtain ⟨v, u, rfl, qs, p, rfl, ⟨a, vs, rfl, hv, hp⟩, k⟩ := h
    have hln : vs.length = qs.length := hp.length
    refine ⟨_, rfl, _, rfl, a, vs, rfl, .inl (.of hv), _, _, rfl, rfl, _, rfl, ?_⟩
    refine ite2 (fun hb => ?_) (fun hb => ?_)
    · have hb := of_decide_eq_true hb
      obtain ⟨x, hx, rx⟩ := p2_right hp (get_en (show p < qs.length by omega))
      exact ⟨_, rfl, _, rfl, a, vs, _, x, rfl, rfl, .of hv, atI_nat hx, k _ _ (Evl.Ex.refl _) rx⟩
    · have hb : ¬ (p : Int) < (vs.length : Int) := fun z => hb (decide_eq_true z)
      rw [en_big (by omega)] at k
      exact make_R (by decide) (by decide +kernel) fun z H2 e2 hz => k z H2 e2 hz
def LSz (l : List Rat) : Prop := ∀ q ∈ l, Sz q
theorem sz_zero : Sz 0 := by
  constructor
  · show 0 < 2 ^ 3000
    exact Nat.pow_pos (by decide)
  · show 1 < 2 ^ 3000
    exact Nat.one_lt_two_pow (by decide)
theorem LSz.en {l : List Rat} (h : LSz l) (k : Nat) : Sz (en l k) := by
  rcases Nat.lt_or_ge k l.length with q | q
  · exact h _ (List.mem_of_getElem? (get_en q))
  · rw [en_big q]; exact sz_zero
def spAdd (K : PySem.W.Frag) : Sp := fun vs H Q _ => ∃ v u, vs = [v, u] ∧ ∃ a b, LsR K H v a ∧ LsR K H u b ∧ a.length ≤ 41 ∧ b.length ≤ 41 ∧ LSz a ∧ LSz b ∧ ∀ z H', Ex H H' → LsR K H' z (addL a b) → Q z H'
theorem sc_added : FnScope ["one", "other", "many", "at"] ["one", "other"] (defScope (tp 31)) := ⟨rfl, rfl, rfl, by decide +kernel, rfl, by decide +kernel, by decide +kernel⟩
theorem ok_added (T : Tx K mg) : Ok P w K mg base 5 "added" ["one", "other"] (spAdd K) := by
  have O_trimmed := ok_trimmed (P := P) (w := w) (base := base) T
  have O_entry_of := ok_entry_of (P := P) (w := w) (base := base) T
  have O___add__ := ok_Ratio___add__ (P := P) (w := w) (base := base) T
  refine T.d_added.ok sc_added (fun vs H Q E h => ?_) (fun _ _ _ _ _ _ us hl => match us, hl with | [_, _], _ => rfl) (fun cdv A outer s H vs Q E hr h => ?_)
  · obtain ⟨_, _, rfl, _⟩ := h
    rfl
  · refine ⟨_, (pss_cons (ps_set (i := 2) sc_added.nd rfl (.inl rfl) (pe_callB (call_max2 rfl) (by rfl) T.n_max (by decide +kernel) (pa_cons (pe_callB (call_lenK (K := K) rfl) (by rfl) T.n_len (by decide +kernel) (pa_cons (pv 0) pa_nil)) (pa_cons (pe_callB (call_lenK (K := K) rfl) (by rfl) T.n_len (by decide +kernel) (pa_cons (pv 1) pa_nil)) pa_nil))))
      (pss_one (ps_ret (pe_c O_trimmed (hr.mono (by decide)) (by rfl) (pa_cons (pe_lc (own := [("at", 3)]) rfl sc_added.nd (pi_range1 (by rfl) T.n_range (pa_cons (pv 2) pa_nil)) (blkOk_by (own := [("at", 3)]) (N := ["one", "other", "many", "at"]) (sc := defScope (tp 31)) (by decide +kernel)) (fun _ _ _ _ _ => (pg_name (i := 3) sc_added.nd rfl (.inl rfl))) (fun _ _ _ _ _ => pts_nil) (fun _ _ _ _ _ => (pe_op (op_addK (K := K) rfl T O___add__ (hr.mono (by decide))) (pe_c O_entry_of (hr.mono (by decide)) (by rfl) (pa_cons (pv 0) (pa_cons (pv 3) pa_nil))) (pe_c O_entry_of (hr.mono (by decide)) (by rfl) (pa_cons (pv 1) (pa_cons (pv 3) pa_nil)))))) pa_nil))))), ?_⟩
    obtain ⟨v, u, rfl, a, b, hv, hu, la, lb, za, zb, k⟩ := h
    obtain ⟨p, xs, rfl, h1, h2⟩ := id hv
    obtain ⟨q, ys, rfl, h3, h4⟩ := id hu
    have e2 := h2.length
    have e4 := h4.length
    refine ⟨_, rfl, p, xs, rfl, .inl (.of h1), _, rfl, q, ys, rfl, .inl (.of h3), ?_⟩
    refine ⟨_, _, rfl, ?_⟩
    have en1 : (if ((ys.length : Nat) : Int) > ((xs.length : Nat) : Int) then ((ys.length : Nat) : Int) else ((xs.length : Nat) : Int)) = ((max a.length b.length : Nat) : Int) := by
      rw [e2, e4]; split <;> omega
    dsimp only
    rw [en1]
    dsimp only [tSeq, tRet, tCB, tCall, tCons, tNext, gName, tAsg, tNil, tIfS, tOp, tC]
    refine LcR1 (max a.length b.length) ((List.range (max a.length b.length)).map fun i => en a i + en b i) (rep_R (K := K)) (fun F f => ⟨_, rfl, f⟩) (by simp) (by omega) ?_ ?_ ?_
    · exact fun _ => rfl
    · intro i c H2 D zs hi hc e hD Q' q'
      rw [List.getElem?_map, List.getElem?_range hi] at hc
      cases hc
      refine ⟨_, rfl, _, rfl, _, _, rfl, a, i, rfl, hv.mono e, fun x H3 e3 hx => ?_⟩
      refine ⟨_, rfl, _, rfl, _, _, rfl, b, i, rfl, (hu.mono e).mono e3, fun y H4 e4 hy => ?_⟩
      exact rd_RR (hx.mono e4) hy (za.en i) (zb.en i) fun z H5 e5 hz => q' z H5 ((e3.trans e4).trans e5) hz (sep_R hz (((e3.trans e4).trans e5) _ _ hD))
    · intro D H2 zs hD e hz hp2
      exact ⟨_, rfl, _, ⟨D, zs, rfl, hz, hp2⟩, by simp; omega, fun z H3 e3 r => k z H3 (e.trans e3) r⟩
def spByN (K : PySem.W.Frag) : Sp := fun vs H Q _ => ∃ v u, vs = [v, u] ∧ ∃ a q, LsR K H v a ∧ IsR K H u q ∧ a.length ≤ 41 ∧ LSz a ∧ Sz q ∧ ∀ z H', Ex H H' → LsR K H' z (byN a q) → Q z H'
theorem sc_by_number : FnScope ["curve", "ratio", "entry"] ["curve", "ratio"] (defScope (tp 32)) := ⟨rfl, rfl, rfl, by decide +kernel, rfl, by decide +kernel, by decide +kernel⟩
theorem ok_by_number (T : Tx K mg) : Ok P w K mg base 5 "by_number" ["curve", "ratio"] (spByN K) := by
  have O_trimmed := ok_trimmed (P := P) (w := w) (base := base) T
  have O___mul__ := ok_Ratio___mul__ (P := P) (w := w) (base := base) T
  refine T.d_by_number.ok sc_by_number (fun vs H Q E h => ?_) (fun _ _ _ _ _ _ us hl => match us, hl with | [_, _], _ => rfl) (fun cdv A outer s H vs Q E hr h => ?_)
  · obtain ⟨_, _, rfl, _⟩ := h
    rfl
  · refine ⟨_, (pss_one (ps_ret (pe_c O_trimmed (hr.mono (by decide)) (by rfl) (pa_cons (pe_lc (own := [("entry", 2)]) rfl sc_by_number.nd (pi_list (pv 0)) (blkOk_by (own := [("entry", 2)]) (N := ["curve", "ratio", "entry"]) (sc := defScope (tp 32)) (by decide +kernel)) (fun _ _ _ _ _ => (pg_name (i := 2) sc_by_number.nd rfl (.inl rfl))) (fun _ _ _ _ _ => pts_nil) (fun _ _ _ _ _ => (pe_op (op_mulK (K := K) rfl T O___mul__ (hr.mono (by decide))) (pv 2) (pv 1)))) pa_nil)))), ?_⟩
    obtain ⟨v, u, rfl, a, q, hv, hu, la, za, zq, k⟩ := h
    obtain ⟨p, xs, rfl, h1, h2⟩ := id hv
    have e2 := h2.length
    dsimp only [tSeq, tRet, tCB, tCall, tCons, tNext, gName, tAsg, tNil, tIfS, tOp, tC]
    refine LcL (a.map fun x => x * q) (rep_R (K := K)) (fun F f => ⟨_, rfl, f⟩) (.of h1) (by simpa using e2) (by omega) ?_ ?_ ?_
    · exact fun _ => rfl
    · intro i x c H2 D zs hx hc e hD Q' q'
      obtain ⟨b, hb, rb⟩ := p2_left h2 hx
      rw [List.getElem?_map, hb] at hc
      cases hc
      refine ⟨_, rfl, _, rfl, ?_⟩
      exact rd_RR (rb.mono e) (hu.mono e) (za _ (List.mem_of_getElem? hb)) zq fun z H5 e5 hz => q' z H5 e5 hz (sep_R hz (e5 _ _ hD))
    · intro D H2 zs hD e hz hp2
      exact ⟨_, rfl, _, ⟨D, zs, rfl, hz, hp2⟩, by simp; omega, fun z H3 e3 r => k z H3 (e.trans e3) r⟩
def spSlope (K : PySem.W.Frag) : Sp := fun vs H Q _ => ∃ v, vs = [v] ∧ ∃ a, LsR K H v a ∧ a.length ≤ 41 ∧ LSz a ∧ ∀ z H', Ex H H' → LsR K H' z (slopeL a) → Q z H'
theorem sz_small {i : Int} (h : i.natAbs < 2 ^ 64) : Sz ((i : Int) : Rat) := by
  constructor
  · rw [Rat.num_intCast]
    exact Nat.lt_of_lt_of_le h (Nat.pow_le_pow_right (by decide) (by decide))
  · rw [Rat.den_intCast]
    exact Nat.one_lt_two_pow (by decide)
theorem sc_slope_of : FnScope ["curve", "at"] ["curve"] (defScope (tp 34)) := ⟨rfl, rfl, rfl, by decide +kernel, rfl, by decide +kernel, by decide +kernel⟩
theorem ok_slope_of (T : Tx K mg) : Ok P w K mg base 5 "slope_of" ["curve"] (spSlope K) := by
  have O___mul__ := ok_Ratio___mul__ (P := P) (w := w) (base := base) T
  refine T.d_slope_of.ok sc_slope_of (fun vs H Q E h => ?_) (fun _ _ _ _ _ _ us hl => match us, hl with | [_], _ => rfl) (fun cdv A outer s H vs Q E hr h => ?_)
  · obtain ⟨_, rfl, _⟩ := h
    rfl
  · refine ⟨_, (pss_one (ps_ret (pe_lc (own := [("at", 1)]) rfl sc_slope_of.nd (pi_range2 (by rfl) T.n_range (pa_cons pe_int (pa_cons (pe_callB (call_lenK (K := K) rfl) (by rfl) T.n_len (by decide +kernel) (pa_cons (pv 0) pa_nil)) pa_nil))) (blkOk_by (own := [("at", 1)]) (N := ["curve", "at"]) (sc := defScope (tp 34)) (by decide +kernel)) (fun _ _ _ _ _ => (pg_name (i := 1) sc_slope_of.nd rfl (.inl rfl))) (fun _ _ _ _ _ => pts_nil) (fun _ _ _ _ _ => (pe_op (op_mulIK (K := K) rfl T O___mul__ (hr.mono (by decide))) (pe_ix (ix_listK (K := K) rfl) (pv 0) (pv 1) (fun _ _ => rfl)) (pv 1)))))), ?_⟩
    obtain ⟨v, rfl, a, hv, la, za, k⟩ := h
    obtain ⟨p, xs, rfl, h1, h2⟩ := id hv
    have e2 := h2.length
    dsimp only [tSeq, tRet, tCB, tCall, tCons, tNext, gName, tAsg, tNil, tIfS, tOp, tC]
    refine LcR2 1 (xs.length : Int) (a.length - 1) ((List.range (a.length - 1)).map fun i => en a (1 + i) * (((1 + (i : Int) : Int)) : Rat)) (rep_R (K := K)) (fun F f => ⟨_, rfl, p, xs, rfl, .inl (.of h1), f⟩) (by omega) (by omega) (by omega) (by decide) (by simp) (by omega) ?_ ?_ ?_
    · exact fun _ => rfl
    · intro i c H2 D zs hi hc e hD Q' q'
      rw [List.getElem?_map, List.getElem?_range hi] at hc
      cases hc
      obtain ⟨x, hx, rx⟩ := p2_right h2 (get_en (show 1 + i < a.length by omega))
      refine ⟨_, rfl, _, rfl, p, xs, _, x, rfl, rfl, .of (e _ _ h1), atI_nat hx, ?_⟩
      refine ⟨_, rfl, ?_⟩
      have en1 : ((1 + i : Nat) : Int) = 1 + (i : Int) := by omega
      rw [en1]
      exact rd_RI (rx.mono e) (za.en _) (sz_small (by omega)) fun z H5 e5 hz => q' z H5 e5 hz (sep_R hz (e5 _ _ hD))
    · intro D H2 zs hD e hz hp2
      exact k _ _ e ⟨D, zs, rfl, hz, hp2⟩
theorem sc_plain : FnScope ["curve"] ["curve"] (defScope (tp 36)) := ⟨rfl, rfl, rfl, by decide +kernel, rfl, by decide +kernel, by decide +kernel⟩
theorem ok_plain (T : Tx K mg) : Ok P w K mg base 6 "plain" ["curve"] (spWant K) := by
  have O_want_curve := ok_want_curve (P := P) (w := w) (base := base) T
  refine T.d_plain.ok sc_plain (fun vs H Q E h => ?_) (fun _ _ _ _ _ _ us hl => match us, hl with | [_], _ => rfl) (fun cdv A outer s H vs Q E hr h => ?_)
  · obtain ⟨_, rfl, _⟩ := h
    rfl
  · refine ⟨_, (pss_one (ps_ret (pe_c O_want_curve (hr.mono (by decide)) (by rfl) (pa_cons (pv 0) pa_nil)))), ?_⟩
    obtain ⟨v, rfl, qs, hv, hl, k⟩ := h
    exact ⟨_, rfl, _, rfl, qs, hv, hl, k⟩
def spDeg (K : PySem.W.Frag) : Sp := fun vs H Q _ => ∃ v, vs = [v] ∧ ∃ qs, SqN K H v qs ∧ qs.length ≤ 41 ∧ ∀ H', Ex H H' → Q (.int (((trim qs).length : Int) - 1)) H'
theorem sc_degree : FnScope ["curve"] ["curve"] (defScope (tp 37)) := ⟨rfl, rfl, rfl, by decide +kernel, rfl, by decide +kernel, by decide +kernel⟩
theorem ok_degree (T : Tx K mg) : Ok P w K mg base 6 "degree" ["curve"] (spDeg K) := by
  have O_want_curve := ok_want_curve (P := P) (w := w) (base := base) T
  refine T.d_degree.ok sc_degree (fun vs H Q E h => ?_) (fun _ _ _ _ _ _ us hl => match us, hl with | [_], _ => rfl) (fun cdv A outer s H vs Q E hr h => ?_)
  · obtain ⟨_, rfl, _⟩ := h
    rfl
  · refine ⟨_, (pss_one (ps_ret (pe_op op_sub (pe_callB (call_lenK (K := K) rfl) (by rfl) T.n_len (by decide +kernel) (pa_cons (pe_c O_want_curve (hr.mono (by decide)) (by rfl) (pa_cons (pv 0) pa_nil)) pa_nil)) pe_int))), ?_⟩
    obtain ⟨v, rfl, qs, hv, hl, k⟩ := h
    refine ⟨_, rfl, _, rfl, qs, hv, hl, fun z H1 e1 hz => ?_⟩
    obtain ⟨p, xs, rfl, h1, h2⟩ := hz
    refine ⟨p, xs, rfl, .inl (.of h1), _, _, rfl, rfl, ?_⟩
    have := h2.length
    dsimp only
    rw [this]
    exact k _ e1
def spPlus (K : PySem.W.Frag) : Sp := fun vs H Q _ => ∃ v u, vs = [v, u] ∧ ∃ a b, SqN K H v a ∧ SqN K H u b ∧ a.length ≤ 41 ∧ b.length ≤ 41 ∧ LSz a ∧ LSz b ∧ ∀ z H', Ex H H' → LsR K H' z (addL (trim a) (trim b)) → Q z H'
theorem LSz.trim {l : List Rat} (h : LSz l) : LSz (trim l) := fun q hq => h q (trim_mem hq)
theorem sc_plus : FnScope ["first", "second", "one", "other"] ["first", "second"] (defScope (tp 38)) := ⟨rfl, rfl, rfl, by decide +kernel, rfl, by decide +kernel, by decide +kernel⟩
theorem ok_plus (T : Tx K mg) : Ok P w K mg base 6 "plus" ["first", "second"] (spPlus K) := by
  have O_added := ok_added (P := P) (w := w) (base := base) T
  have O_want_curve := ok_want_curve (P := P) (w := w) (base := base) T
  refine T.d_plus.ok sc_plus (fun vs H Q E h => ?_) (fun _ _ _ _ _ _ us hl => match us, hl with | [_, _], _ => rfl) (fun cdv A outer s H vs Q E hr h => ?_)
  · obtain ⟨_, _, rfl, _⟩ := h
    rfl
  · refine ⟨_, (pss_cons (ps_par (i := 2) (j := 3) rfl sc_plus.nd rfl rfl (by decide) rfl rfl (pa_cons (pe_c O_want_curve (hr.mono (by decide)) (by rfl) (pa_cons (pv 0) pa_nil)) (pa_cons (pe_c O_want_curve (hr.mono (by decide)) (by rfl) (pa_cons (pv 1) pa_nil)) pa_nil)) (by rfl))
      (pss_one (ps_ret (pe_c O_added (hr.mono (by decide)) (by rfl) (pa_cons (pv 2) (pa_cons (pv 3) pa_nil)))))), ?_⟩
    obtain ⟨v, u, rfl, a, b, hv, hu, la, lb, za, zb, k⟩ := h
    refine ⟨_, rfl, _, rfl, a, hv, la, fun x H1 e1 hx => ?_⟩
    refine ⟨_, rfl, _, rfl, b, hu.mono e1, lb, fun y H2 e2 hy => ?_⟩
    refine ⟨_, _, rfl, ?_⟩
    exact ⟨_, rfl, _, rfl, _, _, rfl, trim a, trim b, hx.mono e2, hy, Nat.le_trans (trim_len a) la, Nat.le_trans (trim_len b) lb, za.trim, zb.trim, fun z H3 e3 r => k z H3 ((e1.trans e2).trans e3) r⟩
def spScaled (K : PySem.W.Frag) : Sp := fun vs H Q _ => ∃ v u, vs = [v, u] ∧ ∃ a q, SqN K H v a ∧ IsN K H u q ∧ a.length ≤ 41 ∧ LSz a ∧ Sz q ∧ ∀ z H', Ex H H' → LsR K H' z (byN (trim a) q) → Q z H'
theorem sc_scaled : FnScope ["curve", "number", "ratios"] ["curve", "number"] (defScope (tp 40)) := ⟨rfl, rfl, rfl, by decide +kernel, rfl, by decide +kernel, by decide +kernel⟩
theorem ok_scaled (T : Tx K mg) : Ok P w K mg base 6 "scaled" ["curve", "number"] (spScaled K) := by
  have O_want_curve := ok_want_curve (P := P) (w := w) (base := base) T
  have O_by_number := ok_by_number (P := P) (w := w) (base := base) T
  have O_want_number := ok_want_number (P := P) (w := w) (base := base) T
  refine T.d_scaled.ok sc_scaled (fun vs H Q E h => ?_) (fun _ _ _ _ _ _ us hl => match us, hl with | [_, _], _ => rfl) (fun cdv A outer s H vs Q E hr h => ?_)
  · obtain ⟨_, _, rfl, _⟩ := h
    rfl
  · refine ⟨_, (pss_cons (ps_set (i := 2) sc_scaled.nd rfl (.inl rfl) (pe_c O_want_curve (hr.mono (by decide)) (by rfl) (pa_cons (pv 0) pa_nil)))
      (pss_one (ps_ret (pe_c O_by_number (hr.mono (by decide)) (by rfl) (pa_cons (pv 2) (pa_cons (pe_c O_want_number (hr.mono (by decide)) (by rfl) (pa_cons (pv 1) pa_nil)) pa_nil)))))), ?_⟩
    obtain ⟨v, u, rfl, a, q, hv, hu, la, za, zq, k⟩ := h
    refine ⟨_, rfl, _, rfl, a, hv, la, fun x H1 e1 hx => ?_⟩
    refine ⟨_, rfl, _, rfl, _, rfl, q, hu.mono e1, fun y H2 e2 hy => ?_⟩
    exact ⟨_, _, rfl, trim a, q, hx.mono e2, hy, Nat.le_trans (trim_len a) la, za.trim, zq, fun z H3 e3 r => k z H3 ((e1.trans e2).trans e3) r⟩
def spDerived (K : PySem.W.Frag) : Sp := fun vs H Q _ => ∃ v, vs = [v] ∧ ∃ a, SqN K H v a ∧ a.length ≤ 41 ∧ LSz a ∧ ∀ z H', Ex H H' → LsR K H' z (slopeL (trim a)) → Q z H'
theorem sc_derived : FnScope ["curve"] ["curve"] (defScope (tp 41)) := ⟨rfl, rfl, rfl, by decide +kernel, rfl, by decide +kernel, by decide +kernel⟩
theorem ok_derived (T : Tx K mg) : Ok P w K mg base 6 "derived" ["curve"] (spDerived K) := by
  have O_slope_of := ok_slope_of (P := P) (w := w) (base := base) T
  have O_want_curve := ok_want_curve (P := P) (w := w) (base := base) T
  refine T.d_derived.ok sc_derived (fun vs H Q E h => ?_) (fun _ _ _ _ _ _ us hl => match us, hl with | [_], _ => rfl) (fun cdv A outer s H vs Q E hr h => ?_)
  · obtain ⟨_, rfl, _⟩ := h
    rfl
  · refine ⟨_, (pss_one (ps_ret (pe_c O_slope_of (hr.mono (by decide)) (by rfl) (pa_cons (pe_c O_want_curve (hr.mono (by decide)) (by rfl) (pa_cons (pv 0) pa_nil)) pa_nil)))), ?_⟩
    obtain ⟨v, rfl, a, hv, la, za, k⟩ := h
    refine ⟨_, rfl, _, rfl, a, hv, la, fun x H1 e1 hx => ?_⟩
    exact ⟨_, rfl, trim a, hx, Nat.le_trans (trim_len a) la, za.trim, fun z H3 e3 r => k z H3 (e1.trans e3) r⟩
end
end K66

set_option Elab.async false
set_option linter.all false
set_option maxRecDepth 100000
set_option maxHeartbeats 2000000
set_option exponentiation.threshold 10000
namespace K66
open PySem PySem.Spec PyProof.Rows L2
open Evl (Ex)
theorem int_eq_nat {n : Nat} {m : Nat} : decide (V.int ((n : Nat) : Int) = V.int ((m : Nat) : Int)) = decide (n = m) := by
  by_cases h : n = m
  · subst h; simp
  · rw [decide_eq_false h, decide_eq_false]
    intro e
    injection e with e
    omega
theorem ixN_nat {n i : Nat} (h : i < n) : ixN n (i : Int) = some i := by
  unfold ixN
  rw [if_pos (by omega), if_pos (by omega)]; simp
theorem rng_set {α : Type} {N t : Nat} {f g : Nat → α} {x : α} (ht : t < N) (h1 : x = g t) (h2 : ∀ m, m ≠ t → g m = f m) : ((List.range N).map f).set t x = (List.range N).map g := by
  refine List.ext_getElem? fun k => ?_
  rw [List.getElem?_set, List.getElem?_map]
  by_cases hk : k < N
  · rw [List.getElem?_range hk, List.getElem?_map, List.getElem?_range hk]
    by_cases e : t = k
    · subst e
      rw [if_pos rfl, if_pos (by simpa using hk), h1]; rfl
    · rw [if_neg e]
      show some (f k) = some (g k)
      rw [h2 k (fun z => e z.symm)]
  · rw [if_neg (by omega), List.getElem?_map]
    have : (List.range N)[k]? = none := List.getElem?_eq_none (by simpa using hk)
    rw [this]; rfl
/-- places of a list of ratios behind a change of another list -/
theorem lsR_put {K : PySem.W.Frag} {H : Hp} {D : Addr} {zs : List V} {o : HO} {ls : List V} {qs : List Rat} (hD : H D = some (.lst zs)) (h : Paired (IsR K H) ls qs) : Paired (IsR K (upd H D o)) ls qs :=
  p2_mono (fun v b r => rep_R.off (sep_R r hD) (fun a o' ne h => by rw [upd_ne ne]; exact h) r) h
theorem isR_put {K : PySem.W.Frag} {H : Hp} {D : Addr} {zs : List V} {o : HO} {v : V} {q : Rat} (hD : H D = some (.lst zs)) (h : IsR K H v q) : IsR K (upd H D o) v q :=
  rep_R.off (sep_R h hD) (fun a o' ne h => by rw [upd_ne ne]; exact h) h
section
variable {P : Program} {w : World} {K : PySem.W.Frag} {mg : Str → Option Value} {base : Heap}
def spMulL (K : PySem.W.Frag) : Sp := fun vs H Q _ => ∃ v u, vs = [v, u] ∧ ∃ a b, LsR K H v a ∧ LsR K H u b ∧ a.length ≤ 41 ∧ b.length ≤ 41 ∧ (∃ A d B e, InL A d a ∧ InL B e b ∧ 0 < d ∧ 0 < e ∧ A < 2 ^ 3000 ∧ B < 2 ^ 3000 ∧ 82 * (A * B) < 2 ^ 3000 ∧ d * e < 2 ^ 3000) ∧ ∀ z H', Ex H H' → LsR K H' z (mulL a b) → Q z H'
theorem sc_multiplied : FnScope ["one", "other", "at", "found", "left", "to", "right"] ["one", "other"] (defScope (tp 33)) := ⟨rfl, rfl, rfl, by decide +kernel, rfl, by decide +kernel, by decide +kernel⟩
theorem ok_multiplied (T : Tx K mg) : Ok P w K mg base 5 "multiplied" ["one", "other"] (spMulL K) := by
  have O_init1 := ok_init1 (P := P) (w := w) (base := base) T
  have O___add__ := ok_Ratio___add__ (P := P) (w := w) (base := base) T
  have O___mul__ := ok_Ratio___mul__ (P := P) (w := w) (base := base) T
  refine T.d_multiplied.ok sc_multiplied (fun vs H Q E h => ?_) (fun _ _ _ _ _ _ us hl => match us, hl with | [_, _], _ => rfl) (fun cdv A outer s H vs Q E hr h => ?_)
  · obtain ⟨_, _, rfl, _⟩ := h
    rfl
  · refine ⟨_, (pss_cons (ps_if (PW.pt (pw_or (pt_cmpR op_eq (pe_callB (call_lenK (K := K) rfl) (by rfl) T.n_len (by decide +kernel) (pa_cons (pv 0) pa_nil)) pe_int (nomark _)) (pw_or1 (pt_cmpR op_eq (pe_callB (call_lenK (K := K) rfl) (by rfl) T.n_len (by decide +kernel) (pa_cons (pv 1) pa_nil)) pe_int (nomark _))))) (pss_one (ps_ret (pe_lst pa_nil))) pss_nil)
      (pss_cons (ps_setLc (i := 3) (own := [("at", 2)]) rfl sc_multiplied.nd rfl rfl (sw_true rfl rfl rfl (by decide +kernel)) (pi_range1 (by rfl) T.n_range (pa_cons (pe_op op_sub (pe_op op_add (pe_callB (call_lenK (K := K) rfl) (by rfl) T.n_len (by decide +kernel) (pa_cons (pv 0) pa_nil)) (pe_callB (call_lenK (K := K) rfl) (by rfl) T.n_len (by decide +kernel) (pa_cons (pv 1) pa_nil))) pe_int) pa_nil)) (blkOk_by (own := [("at", 2)]) (N := ["one", "other", "at", "found", "left", "to", "right"]) (sc := defScope (tp 33)) (by decide +kernel)) (fun _ _ _ _ _ => (pg_name (i := 2) sc_multiplied.nd rfl (.inl rfl))) (fun _ _ _ _ _ => pts_nil) (fun _ _ _ _ _ => (pe_mkRK (K := K) rfl T O_init1 (hr.mono (by decide)) (by rfl) (pa_cons pe_int pa_nil))))
      (pss_cons (ps_for PassesOwn.never rfl (pi_enum (by rfl) T.n_enumerate (pa_cons (pv 0) pa_nil)) (pg_tup rfl (pgs_cons (pg_name (i := 2) sc_multiplied.nd rfl (.inl rfl)) (pgs_cons (pg_name (i := 4) sc_multiplied.nd rfl (.inl rfl)) pgs_nil))) (pss_one (ps_for PassesOwn.never rfl (pi_enum (by rfl) T.n_enumerate (pa_cons (pv 1) pa_nil)) (pg_tup rfl (pgs_cons (pg_name (i := 5) sc_multiplied.nd rfl (.inl rfl)) (pgs_cons (pg_name (i := 6) sc_multiplied.nd rfl (.inl rfl)) pgs_nil))) (pss_one (ps_asg (pe_op (op_addK (K := K) rfl T O___add__ (hr.mono (by decide))) (pe_ix (ix_listK (K := K) rfl) (pv 3) (pe_op op_add (pv 2) (pv 5)) (fun _ _ => rfl)) (pe_op (op_mulK (K := K) rfl T O___mul__ (hr.mono (by decide))) (pv 4) (pv 6))) (pg_sub (pv 3) (pe_op op_add (pv 2) (pv 5)) set_list))))))
      (pss_one (ps_ret (pv 3)))))), ?_⟩
    obtain ⟨v, u, rfl, a, b, hv, hu, la, lb, ⟨A, d, B, e, hA, hB, hd, he, bA, bB, bAB, bde⟩, k⟩ := h
    obtain ⟨p, xs, rfl, h1, h2⟩ := id hv
    obtain ⟨q, ys, rfl, h3, h4⟩ := id hu
    have e2 := h2.length
    have e4 := h4.length
    have bd : d < 2 ^ 3000 := Nat.lt_of_le_of_lt (Nat.le_mul_of_pos_right d he) bde
    have be : e < 2 ^ 3000 := Nat.lt_of_le_of_lt (Nat.le_mul_of_pos_left e hd) bde
    have empty : (a.length = 0 ∨ b.length = 0) → ∀ D, H D = none → Q (.ref D) (upd H D (.lst [])) := fun z D hD => by
      refine k _ _ (Evl.Ex.new hD) ⟨D, [], rfl, upd_same, ?_⟩
      have : mulL a b = [] := by unfold mulL; rw [if_pos z]
      rw [this]; exact .nil
    refine ⟨_, rfl, p, xs, rfl, .inl (.of h1), rfl, _, rfl, ?_⟩
    refine ite2 (fun z => iteT ?_) (fun z => ?_)
    · have z : a.length = 0 := by have := of_decide_eq_true z; injection this; omega
      exact ⟨by decide, fun D hD => empty (.inl z) D hD⟩
    have za : a.length ≠ 0 := fun y => z (decide_eq_true (by rw [e2, y]; rfl))
    clear z
    refine ⟨_, rfl, q, ys, rfl, .inl (.of h3), rfl, _, rfl, ?_⟩
    refine ite2 (fun z => ?_) (fun z => ?_)
    · have z : b.length = 0 := by have := of_decide_eq_true z; injection this; omega
      exact ⟨by decide, fun D hD => empty (.inr z) D hD⟩
    have zb : b.length ≠ 0 := fun y => z (decide_eq_true (by rw [e4, y]; rfl))
    clear z empty
    dsimp only [tSeq, tRet, tCB, tCall, tCons, tNext, gName, tAsg, tNil, tIfS, tOp, tC]
    refine LcR1 (a.length + b.length - 1) ((List.range (a.length + b.length - 1)).map fun m => pp (en a) (en b) 0 0 m) (rep_R (K := K)) (fun F f => ⟨_, rfl, p, xs, rfl, .inl (.of h1), _, rfl, q, ys, rfl, .inl (.of h3), _, _, rfl, rfl, _, _, rfl, rfl, by
      dsimp only
      rw [e2, e4, show ((a.length : Nat) : Int) + ((b.length : Nat) : Int) - 1 = ((a.length + b.length - 1 : Nat) : Int) by omega]
      exact f⟩) (by simp) (by omega) ?_ ?_ ?_
    · exact fun _ => rfl
    · intro i c H2 D zs hi hc e hD Q' q'
      rw [List.getElem?_map, List.getElem?_range hi] at hc
      cases hc
      refine make_R (by decide) (by decide +kernel) fun z H3 e3 hz => q' z H3 e3 ?_ (sep_R hz (e3 _ _ hD))
      show IsR K H3 z (pp (en a) (en b) 0 0 i)
      rw [pp_zero]; exact hz
    · intro D H2 zs hD e hz hp2
      refine ForE (xs := xs) (a := p) (fun i σ H' => (∃ w2 w4 w5 w6, σ = [some (.ref p), some (.ref q), w2, some (.ref D), w4, w5, w6]) ∧ Ex H H' ∧ ∃ zs, H' D = some (.lst zs) ∧ Paired (IsR K H') zs ((List.range (a.length + b.length - 1)).map fun m => pp (en a) (en b) i 0 m)) (fun F f => ⟨_, rfl, f⟩) (.of (e _ _ h1)) ⟨⟨_, _, _, _, rfl⟩, e, zs, hz, hp2⟩ ?_ ?_ ?_
      · rintro i σ H' hi ⟨_, ex, _⟩
        exact .of (ex _ _ h1)
      · rintro i x T σ H' hx ⟨⟨w2, w4, w5, w6, rfl⟩, ex, zs, hz, hp⟩ hT
        have hi : i < a.length := by
          have := (List.getElem?_eq_some_iff.mp hx).1
          omega
        have ex1 := Evl.Ex.new (o := .tup [.int (i : Int), x]) hT
        refine ForE (xs := ys) (a := q) (fun j σ H' => (∃ w5 w6, σ = [some (.ref p), some (.ref q), some (.int (i : Int)), some (.ref D), some x, w5, w6]) ∧ Ex H H' ∧ ∃ zs, H' D = some (.lst zs) ∧ Paired (IsR K H') zs ((List.range (a.length + b.length - 1)).map fun m => pp (en a) (en b) i j m)) (fun F f => ⟨_, rfl, f⟩) (.of (ex1 _ _ (ex _ _ h3))) ⟨⟨_, _, rfl⟩, ex.trans ex1, zs, ex1 _ _ hz, p2_mono (fun _ _ r => r.mono ex1) hp⟩ ?_ ?_ ?_
        · rintro j σ H' hi ⟨_, ex, _⟩
          exact .of (ex _ _ h3)
        · rintro j y T' σ H3 hy ⟨⟨w5, w6, rfl⟩, ex3, zs, hz, hp⟩ hT'
          have hj : j < b.length := by
            have := (List.getElem?_eq_some_iff.mp hy).1
            omega
          have ex4 := Evl.Ex.new (o := .tup [.int (j : Int), y]) hT'
          have hz4 := ex4 _ _ hz
          have ex5 := ex3.trans ex4
          obtain ⟨qx, hqx, rx⟩ := p2_left h2 hx
          obtain ⟨qy, hqy, ry⟩ := p2_left h4 hy
          have qx' := en_get hqx
          have qy' := en_get hqy
          have hget : ((List.range (a.length + b.length - 1)).map fun m => pp (en a) (en b) i j m)[i + j]? = some (pp (en a) (en b) i j (i + j)) := by
            rw [List.getElem?_map, List.getElem?_range (by omega)]; rfl
          obtain ⟨z0, hz0, r0⟩ := p2_right hp hget
          have sz0 : Sz (pp (en a) (en b) i j (i + j)) := (pp_in (fun k => hA.en k) (fun k => hB.en k) i j (i + j)).sz (Nat.mul_pos hd he) (Nat.lt_of_le_of_lt (Nat.mul_le_mul_right _ (by omega)) bAB) bde
          have sz1 : Sz (qx * qy) := by
            rw [← qx', ← qy']
            refine ((hA.en i).mul (hB.en j)).sz (Nat.mul_pos hd he) (Nat.lt_of_le_of_lt (Nat.le_mul_of_pos_left _ (by decide)) bAB) bde
          refine ⟨_, rfl, _, rfl, _, rfl, _, _, rfl, rfl, D, zs, _, z0, rfl, rfl, .of hz4, atI_nat hz0, ?_⟩
          refine ⟨_, rfl, _, rfl, ?_⟩
          refine rd_RR (rx.mono ex5) (ry.mono ex5) (by rw [← qx']; exact (hA.en i).sz hd bA bd) (by rw [← qy']; exact (hB.en j).sz he bB be) fun z1 H5 e5 hz1 => ?_
          refine rd_RR ((r0.mono ex4).mono e5) hz1 sz0 sz1 fun z2 H6 e6 hz2 => ?_
          have hz6 := e6 _ _ (e5 _ _ hz4)
          have hl6 := hp.length
          refine ⟨_, rfl, _, rfl, _, rfl, _, _, rfl, rfl, D, zs, _, i + j, rfl, rfl, hz6, ixN_nat (by rw [hl6, List.length_map, List.length_range]; omega), ⟨_, _, rfl⟩, Evl.Ex.mut ((ex5.trans e5).trans e6) hD, _, upd_same, ?_⟩
          have hp6 : Paired (IsR K H6) zs _ := p2_mono (fun _ _ r => ((r.mono ex4).mono e5).mono e6) hp
          have := p2_set (isR_put (o := .lst (zs.set (i + j) z2)) hz6 hz2) (i + j) (lsR_put (o := .lst (zs.set (i + j) z2)) hz6 hp6)
          rw [rng_set (g := fun m => pp (en a) (en b) i (j + 1) m) (by omega)] at this
          · exact this
          · rw [pp_step, if_pos rfl, qx', qy']
          · intro m hm
            rw [pp_step, if_neg hm, Rat.add_zero]
        · rintro σ H3 ⟨⟨w5, w6, rfl⟩, ex3, zs, hz, hp⟩
          refine ⟨⟨_, _, _, _, rfl⟩, ex3, zs, hz, ?_⟩
          rw [e4] at hp
          have := fun m => pp_row (f := en a) (g := en b) (n := b.length) (fun k hk => en_big hk) i m
          simp only [this] at hp
          exact hp
      · rintro σ H3 ⟨⟨w2, w4, w5, w6, rfl⟩, ex3, zs, hz, hp⟩
        refine ⟨_, rfl, k _ _ ex3 ⟨D, zs, rfl, hz, ?_⟩⟩
        unfold mulL
        rw [if_neg (by omega)]
        rw [e2] at hp
        have := fun m => pp_all (f := en a) (g := en b) (n := a.length) (fun k hk => en_big hk) m
        simp only [this] at hp
        exact hp
def spTimes (K : PySem.W.Frag) : Sp := fun vs H Q _ => ∃ v u, vs = [v, u] ∧ ∃ a b, SqN K H v a ∧ SqN K H u b ∧ a.length ≤ 20 ∧ b.length ≤ 20 ∧ (∃ A d B e, InL A d a ∧ InL B e b ∧ 0 < d ∧ 0 < e ∧ A < 2 ^ 3000 ∧ B < 2 ^ 3000 ∧ 82 * (A * B) < 2 ^ 3000 ∧ d * e < 2 ^ 3000) ∧ ∀ z H', Ex H H' → LsR K H' z (mulL (trim a) (trim b)) → Q z H'
theorem sc_times : FnScope ["first", "second", "one", "other"] ["first", "second"] (defScope (tp 39)) := ⟨rfl, rfl, rfl, by decide +kernel, rfl, by decide +kernel, by decide +kernel⟩
theorem ok_times (T : Tx K mg) : Ok P w K mg base 6 "times" ["first", "second"] (spTimes K) := by
  have O_multiplied := ok_multiplied (P := P) (w := w) (base := base) T
  have O_want_curve := ok_want_curve (P := P) (w := w) (base := base) T
  refine T.d_times.ok sc_times (fun vs H Q E h => ?_) (fun _ _ _ _ _ _ us hl => match us, hl with | [_, _], _ => rfl) (fun cdv A outer s H vs Q E hr h => ?_)
  · obtain ⟨_, _, rfl, _⟩ := h
    rfl
  · refine ⟨_, (pss_cons (ps_par (i := 2) (j := 3) rfl sc_times.nd rfl rfl (by decide) rfl rfl (pa_cons (pe_c O_want_curve (hr.mono (by decide)) (by rfl) (pa_cons (pv 0) pa_nil)) (pa_cons (pe_c O_want_curve (hr.mono (by decide)) (by rfl) (pa_cons (pv 1) pa_nil)) pa_nil)) (by rfl))
      (pss_cons (ps_if (PW.pt (pw_and (pt_cmpR op_gt (pe_callB (call_lenK (K := K) rfl) (by rfl) T.n_len (by decide +kernel) (pa_cons (pv 2) pa_nil)) pe_int (nomark _)) (pw_and (pt_cmpR op_gt (pe_callB (call_lenK (K := K) rfl) (by rfl) T.n_len (by decide +kernel) (pa_cons (pv 3) pa_nil)) pe_int (nomark _)) (pw_and1 (pt_cmpR op_gt (pe_op op_sub (pe_op op_add (pe_callB (call_lenK (K := K) rfl) (by rfl) T.n_len (by decide +kernel) (pa_cons (pv 2) pa_nil)) (pe_callB (call_lenK (K := K) rfl) (by rfl) T.n_len (by decide +kernel) (pa_cons (pv 3) pa_nil))) pe_int) (pe_glob (v := .int 40) (by rfl) T.k_MOST_DEGREE.choose_spec ⟨_, rfl⟩) (nomark _)))))) (pss_one ps_never) pss_nil)
      (pss_one (ps_ret (pe_c O_multiplied (hr.mono (by decide)) (by rfl) (pa_cons (pv 2) (pa_cons (pv 3) pa_nil))))))), ?_⟩
    obtain ⟨v, u, rfl, a, b, hv, hu, la, lb, ⟨A, d, B, e, hA, hB, hd, he, bA, bB, bAB, bde⟩, k⟩ := h
    refine ⟨_, rfl, _, rfl, a, hv, by omega, fun x H1 e1 hx => ?_⟩
    refine ⟨_, rfl, _, rfl, b, hu.mono e1, by omega, fun y H2 e2 hy => ?_⟩
    refine ⟨_, _, rfl, ?_⟩
    have hx2 := hx.mono e2
    obtain ⟨p, xs, rfl, h1, h2⟩ := id hx2
    obtain ⟨q, ys, rfl, h3, h4⟩ := id hy
    have l1 := h2.length
    have l2 := h4.length
    have t1 := trim_len a
    have t2 := trim_len b
    have fin : spMulL K [.ref p, .ref q] H2 Q E0 := ⟨_, _, rfl, trim a, trim b, hx2, hy, by omega, by omega, ⟨A, d, B, e, hA.trim, hB.trim, hd, he, bA, bB, bAB, bde⟩, fun z H3 e3 r => k z H3 ((e1.trans e2).trans e3) r⟩
    refine ⟨_, rfl, p, xs, rfl, .inl (.of h1), _, _, rfl, rfl, _, rfl, ?_⟩
    refine ite2 (fun z => ?_) (fun z => iteF ⟨_, rfl, _, rfl, fin⟩)
    refine ⟨_, rfl, q, ys, rfl, .inl (.of h3), _, _, rfl, rfl, _, rfl, ?_⟩
    refine ite2 (fun z => ?_) (fun z => iteF ⟨_, rfl, _, rfl, fin⟩)
    refine ⟨_, rfl, p, xs, rfl, .inl (.of h1), _, rfl, q, ys, rfl, .inl (.of h3), _, _, rfl, rfl, _, _, rfl, rfl, _, _, rfl, rfl, _, rfl, ?_⟩
    rw [decide_eq_false (by rw [l1, l2]; omega)]
    exact iteF ⟨_, rfl, _, rfl, fin⟩
end
end K66

set_option Elab.async false
set_option linter.all false
set_option maxRecDepth 100000
set_option maxHeartbeats 2000000
set_option exponentiation.threshold 10000
namespace K66
open PySem PySem.Spec PyProof.Rows L2
open Evl (Ex)
section
variable {P : Program} {w : World} {K : PySem.W.Frag} {mg : Str → Option Value} {base : Heap}
def spWhole (K : PySem.W.Frag) : Sp := fun vs H Q _ => ∃ v, vs = [v] ∧ ∃ a A d, LsR K H v a ∧ a.length ≤ 41 ∧ Tr a ∧ InL A d a ∧ 0 < d ∧ d < 2 ^ 64 ∧ A < 2 ^ 3000 ∧ ∀ z H' ns, Ex H H' → LsI H' z ns → Wh a ns A → Q z H'
theorem sc_whole_of : FnScope ["curve", "bottom", "entry", "tops", "common_top", "top"] ["curve"] (defScope (tp 35)) := ⟨rfl, rfl, rfl, by decide +kernel, rfl, by decide +kernel, by decide +kernel⟩
theorem ok_whole_of (T : Tx K mg) : Ok P w K mg base 3 "whole_of" ["curve"] (spWhole K) := by
  have O_bottom := ok_Ratio_bottom (P := P) (w := w) (base := base) T
  have O_top := ok_Ratio_top (P := P) (w := w) (base := base) T
  refine T.d_whole_of.ok sc_whole_of (fun vs H Q E h => ?_) (fun _ _ _ _ _ _ us hl => match us, hl with | [_], _ => rfl) (fun cdv A outer s H vs Q E hr h => ?_)
  · obtain ⟨_, rfl, _⟩ := h
    rfl
  · refine ⟨_, (pss_cons (ps_if (pt_cmpR op_eq (pe_callB (call_lenK (K := K) rfl) (by rfl) T.n_len (by decide +kernel) (pa_cons (pv 0) pa_nil)) pe_int (nomark _)) (pss_one (ps_ret (pe_lst pa_nil))) pss_nil)
      (pss_cons (ps_set (i := 1) sc_whole_of.nd rfl (.inr rfl) pe_int)
      (pss_cons (ps_for PassesOwn.never rfl (pi_list (pv 0)) (pg_name (i := 2) sc_whole_of.nd rfl (.inl rfl)) (pss_one (ps_set (i := 1) sc_whole_of.nd rfl (.inr rfl) (pe_callBfun cr_lcm (by rfl) T.g_lcm (pa_cons (pv 1) (pa_cons (pe_prK (K := K) rfl O_bottom (hr.mono (by decide)) T.cl T.p_bottom (pv 2) rfl) pa_nil))))))
      (pss_cons (ps_setLc (i := 3) (own := [("entry", 2)]) rfl sc_whole_of.nd rfl rfl (sw_true rfl rfl rfl (by decide +kernel)) (pi_list (pv 0)) (blkOk_by (own := [("entry", 2)]) (N := ["curve", "bottom", "entry", "tops", "common_top", "top"]) (sc := defScope (tp 35)) (by decide +kernel)) (fun _ _ _ _ _ => (pg_name (i := 2) sc_whole_of.nd rfl (.inl rfl))) (fun _ _ _ _ _ => pts_nil) (fun _ _ _ _ _ => (pe_op op_mulW (pe_prK (K := K) rfl O_top (hr.mono (by decide)) T.cl T.p_top (pv 2) rfl) (pe_op op_fdivW (pv 1) (pe_prK (K := K) rfl O_bottom (hr.mono (by decide)) T.cl T.p_bottom (pv 2) rfl)))))
      (pss_cons (ps_set (i := 4) sc_whole_of.nd rfl (.inr rfl) pe_int)
      (pss_cons (ps_for PassesOwn.never rfl (pi_list (pv 3)) (pg_name (i := 5) sc_whole_of.nd rfl (.inl rfl)) (pss_one (ps_set (i := 4) sc_whole_of.nd rfl (.inr rfl) (pe_callBfun cr_gcd (by rfl) T.g_gcd (pa_cons (pv 4) (pa_cons (pv 5) pa_nil))))))
      (pss_one (ps_ret (pe_lc (own := [("top", 5)]) rfl sc_whole_of.nd (pi_list (pv 3)) (blkOk_by (own := [("top", 5)]) (N := ["curve", "bottom", "entry", "tops", "common_top", "top"]) (sc := defScope (tp 35)) (by decide +kernel)) (fun _ _ _ _ _ => (pg_name (i := 5) sc_whole_of.nd rfl (.inl rfl))) (fun _ _ _ _ _ => pts_nil) (fun _ _ _ _ _ => (pe_op op_fdivW (pv 5) (pv 4)))))))))))), ?_⟩
    obtain ⟨v, rfl, a, A, d, hv, la, ta, hA, hd, bd, bA, k⟩ := h
    obtain ⟨p, xs, rfl, h1, h2⟩ := id hv
    have e2 := h2.length
    refine ⟨_, rfl, p, xs, rfl, .inl (.of h1), rfl, _, rfl, ?_⟩
    refine ite2 (fun z => ?_) (fun z => ?_)
    · have z : a.length = 0 := by have := of_decide_eq_true z; injection this; omega
      refine ⟨by decide, fun D hD => k _ _ [] (Evl.Ex.new hD) ⟨D, rfl, upd_same⟩ ⟨z.symm, by simp, 1, by decide, fun i => ?_⟩⟩
      rw [en_big (by omega)]; show (0 : Rat) = 1 * 0; grind -verbose
    have za : a.length ≠ 0 := fun y => z (decide_eq_true (by rw [e2, y]; rfl))
    clear z
    have xa : ∀ i x, xs[i]? = some x → IsR K H x (en a i) ∧ i < a.length := fun i x hx => by
      obtain ⟨q, hq, r⟩ := p2_left h2 hx
      rw [en_get hq]
      exact ⟨r, (List.getElem?_eq_some_iff.mp hq).1⟩
    have dd : ∀ k, (en a k).den ∣ d := fun k => ((hA.en k).num_den hd).2.2
    have ld : ∀ {n : Nat}, n ∣ d → n < 2 ^ 64 := fun h => Nat.lt_of_le_of_lt (Nat.le_of_dvd hd h) bd
    dsimp only [tSeq, tRet, tCB, tCall, tCons, tNext, gName, tAsg, tNil, tIfS, tOp, tC]
    refine ForL (xs := xs) (a := p) (fun i σ H' => ∃ (L : Nat) (w2 : Option V), σ = [some (.ref p), some (.int (L : Int)), w2, none, none, none] ∧ H' = H ∧ L ∣ d ∧ ∀ k, k < i → (en a k).den ∣ L) (fun F f => ⟨_, rfl, f⟩) (.of h1) ⟨1, none, rfl, rfl, Nat.one_dvd _, fun k hk => by omega⟩ ?_ ?_ ?_
    · rintro i σ H' _ ⟨_, _, _, rfl, _⟩
      exact .of h1
    · rintro i x σ H' hx ⟨L, w2, rfl, rfl, hL, hk⟩
      obtain ⟨rx, hi⟩ := xa i x hx
      obtain ⟨b, dx, rfl, hb⟩ := id rx
      refine ⟨_, rfl, _, rfl, b, dx, _, rfl, hb, _, rfl, _, rx, _, _, rfl, by rw [Int.natAbs_natCast]; exact ld hL, by rw [Int.natAbs_natCast]; exact ld (dd i), ?_⟩
      rw [Int.natAbs_natCast, Int.natAbs_natCast]
      refine ⟨_, _, rfl, rfl, Nat.lcm_dvd hL (dd i), fun k hk' => ?_⟩
      by_cases e : k = i
      · rw [e]; exact Nat.dvd_lcm_right _ _
      · exact Nat.dvd_trans (hk k (by omega)) (Nat.dvd_lcm_left _ _)
    · rintro σ H' ⟨L, w2, rfl, rfl, hL, hk⟩
      have hLp : 0 < L := Nat.pos_of_dvd_of_pos hL hd
      have hden : ∀ k, k < a.length → (en a k).den ∣ L := fun k h => hk k (by omega)
      dsimp only [tSeq, tRet, tCB, tCall, tCons, tNext, gName, tAsg, tNil, tIfS, tOp, tC]
      refine LcL ((a.map fun q => wh q L)) rep_I (fun F f => ⟨_, rfl, f⟩) (.of h1) (by simpa using e2) (by omega) ?_ ?_ ?_
      · exact fun _ => rfl
      · intro i x c H2 D zs hx hc e hD Q' q'
        obtain ⟨rx, hi⟩ := xa i x hx
        rw [List.getElem?_map, get_en hi] at hc
        cases hc
        have rx := rx.mono e
        obtain ⟨b, dx, rfl, hb⟩ := id rx
        refine ⟨_, rfl, b, dx, _, rfl, hb, _, rfl, _, rx, ?_⟩
        refine ⟨_, rfl, _, rfl, b, dx, _, rfl, hb, _, rfl, _, rx, _, _, rfl, rfl, wide_div (b := 64) (den_pos' _) (by rw [Int.natAbs_natCast]; exact ld (dd i)) (by decide) (by decide), ?_⟩
        refine ⟨_, _, rfl, rfl, wide_mul (a := 3000) (b := 3000) ?_ ?_ (by decide) (by decide) (by decide), ?_⟩
        · exact Nat.lt_of_le_of_lt ((hA.en i).num_den hd).1 bA
        · rw [show ((L : Int) / ((en a i).den : Int)) = ((L / (en a i).den : Nat) : Int) by rw [Int.natCast_ediv], Int.natAbs_natCast]
          exact Nat.lt_of_le_of_lt (Nat.div_le_self _ _) (Nat.lt_of_lt_of_le (ld hL) (Nat.pow_le_pow_right (by decide) (by decide)))
        · exact q' _ _ (Evl.Ex.refl _) rfl (by intro e; cases e)
      · intro D H2 zs hD e hz hp
        have hz' := hz
        rw [ints_eq hp] at hz'
        have hD2 : ∀ (i : Nat) x, ((a.map fun q => wh q L).map V.int)[i]? = some x → x = .int (wh (en a i) L) ∧ i < a.length := fun i x hx => by
          have hi : i < a.length := by simpa using (List.getElem?_eq_some_iff.mp hx).1
          rw [List.getElem?_map, List.getElem?_map, get_en hi] at hx
          cases hx
          exact ⟨rfl, hi⟩
        refine ForL (xs := (a.map fun q => wh q L).map V.int) (a := D) (fun i σ H' => ∃ (g : Nat) (w5 : Option V), σ = [some (.ref p), some (.int (L : Int)), w2, some (.ref D), some (.int (g : Int)), w5] ∧ H' = H2 ∧ ∀ k, k < i → (g : Int) ∣ wh (en a k) L) (fun F f => ⟨_, rfl, f⟩) (.of hz') ⟨0, none, rfl, rfl, fun k hk => by omega⟩ ?_ ?_ ?_
        · rintro i σ H' _ ⟨_, _, _, rfl, _⟩
          exact .of hz'
        · rintro i x σ H' hx ⟨g, w5, rfl, rfl, hg⟩
          obtain ⟨rfl, hi⟩ := hD2 i x hx
          refine ⟨_, rfl, _, rfl, _, _, rfl, _, _, rfl, rfl, fun k hk => ?_⟩
          rw [Int.natAbs_natCast]
          by_cases ek : k = i
          · rw [ek]
            exact Int.ofNat_dvd_left.mpr (Nat.gcd_dvd_right _ _)
          · exact Int.dvd_trans (Int.natCast_dvd_natCast.mpr (Nat.gcd_dvd_left _ _)) (hg k (by omega))
        · rintro σ H' ⟨g, w5, rfl, rfl, hg⟩
          have hg' : ∀ k, k < a.length → (g : Int) ∣ wh (en a k) L := fun k hk => hg k (by simpa using hk)
          have hgp : 0 < g := by
            rcases Nat.eq_zero_or_pos g with z | z
            · exfalso
              subst z
              have h0 : wh (en a (a.length - 1)) L = 0 := Int.zero_dvd.mp (hg' _ (by omega))
              exact ta (fun e => za (by rw [e]; rfl)) (wh_zero (hden _ (by omega)) hLp h0)
            · exact z
          have hgb : g < 2 ^ 8000 := by
            have h0 : wh (en a (a.length - 1)) L ≠ 0 := fun h0 => ta (fun e => za (by rw [e]; rfl)) (wh_zero (hden _ (by omega)) hLp h0)
            have h1 : (wh (en a (a.length - 1)) L).natAbs ≤ A := wh_le (hA.en _) hL hd (hden _ (by omega))
            have h2 : g ≤ (wh (en a (a.length - 1)) L).natAbs := Nat.le_of_dvd (by omega) (Int.ofNat_dvd_left.mp (hg' _ (by omega)))
            exact Nat.lt_of_lt_of_le (Nat.lt_of_le_of_lt (Nat.le_trans h2 h1) bA) (Nat.pow_le_pow_right (by decide) (by decide))
          dsimp only [tSeq, tRet, tCB, tCall, tCons, tNext, gName, tAsg, tNil, tIfS, tOp, tC]
          refine LcL (a.map fun q => wh q L / (g : Int)) rep_I (fun F f => ⟨_, rfl, f⟩) (.of hz') (by simp) (by simp; omega) ?_ ?_ ?_
          · exact fun _ => rfl
          · intro i x c H3 D zs hx hc e3 hD3 Q' q'
            obtain ⟨rfl, hi⟩ := hD2 i x hx
            rw [List.getElem?_map, get_en hi] at hc
            cases hc
            refine ⟨_, rfl, _, rfl, _, _, rfl, rfl, wide_div (b := 8000) (by omega) (by rw [Int.natAbs_natCast]; exact hgb) (by decide) (by decide), ?_⟩
            exact q' _ _ (Evl.Ex.refl _) rfl (by intro e; cases e)
          · intro D3 H3 zs3 hD3 e3 hz3 hp3
            rw [ints_eq hp3] at hz3
            exact k _ _ _ (e.trans e3) ⟨D3, rfl, hz3⟩ (wh_all hA hd hL hden hgp hg')
end
end K66

set_option Elab.async false
set_option linter.all false
set_option maxRecDepth 100000
set_option maxHeartbeats 2000000
set_option exponentiation.threshold 100000
namespace K66
open PySem PySem.Spec PyProof.Rows L2
open Evl (Ex)
theorem atI_int {ns : List Int} {k : Nat} {z : Int} (hz : z = (k : Int)) (h : k < ns.length) : atI (ns.map V.int) z = some (.int (cf ns k)) := by
  rw [hz]
  refine atI_nat ?_
  rw [List.getElem?_map, cf_get h]; rfl
theorem atI_rng {α : Type} {f : Nat → α} {n k : Nat} {z : Int} (hz : z = (k : Int)) (h : k < n) : atI ((List.range n).map f) z = some (f k) := by
  rw [hz]
  refine atI_nat ?_
  rw [List.getElem?_map, List.getElem?_range h]; rfl
theorem rng_snoc {α : Type} (f : Nat → α) (n : Nat) : (List.range n).map f ++ [f n] = (List.range (n + 1)).map f := by
  rw [List.range_succ, List.map_append]; rfl
theorem atI_rngl {α : Type} (f : Nat → α) (n : Nat) : atI ((List.range (n + 1)).map f) (-1) = some (f n) := by
  rw [← rng_snoc]
  exact atI_last _ _
/-- one of two values, the same number either way -/
theorem if_val {te1 te2 : TE} {σ : L2.St} {H : Hp} {Q : VK} (b : Bool) (x : Int) (h1 : b = true → ∀ F : VK, F (.int x) H → te1 σ H F) (h2 : ¬ b = true → ∀ F : VK, F (.int x) H → te2 σ H F) (q : Q (.int x) H) : if b = true then te1 σ H Q else te2 σ H Q := by
  by_cases h : b = true
  · rw [if_pos h]; exact h1 h _ q
  · rw [if_neg h]; exact h2 h _ q
/-- a size that every rule of this file takes -/
def Sm (z : Int) : Prop := z.natAbs < 2 ^ 20000
theorem Sm.mul {i j : Int} (hi : Sm i) (hj : Sm j) : CMulW i j := wide_mul hi hj (by decide) (by decide) (by decide)
theorem Sm.of {z : Int} (h : z.natAbs < 2 ^ 6000) : Sm z := Nat.lt_of_lt_of_le h (Nat.pow_le_pow_right (by decide) (by decide))
theorem Sm.mul2 {i j : Int} (hi : i.natAbs < 2 ^ 6000) (hj : j.natAbs < 2 ^ 6000) : Sm (i * j) := Nat.lt_of_lt_of_le (wide_lt hi hj) (Nat.pow_le_pow_right (by decide) (by decide))
section
variable {P : Program} {w : World} {K : PySem.W.Frag} {mg : Str → Option Value} {base : Heap}
def spSums : Sp := fun vs H Q _ => ∃ v u, vs = [v, u] ∧ ∃ ns, ∃ N A : Nat, u = .int (2 * N : Int) ∧ LsI H v ns ∧ ns.length = N + 1 ∧ N ≤ 8 ∧ (∀ i ∈ ns, i.natAbs ≤ A) ∧ 1 ≤ A ∧ A < 2 ^ 300 ∧ ∀ z H', Ex H H' → LsI H' z ((List.range (2 * N + 1)).map (Sx (cf ns) N)) → Q z H'
theorem sc_whole_sums : FnScope ["numbers", "many", "size", "last", "sums", "scales", "power", "found", "back"] ["numbers", "many"] (defScope (tp 43)) := ⟨rfl, rfl, rfl, by decide +kernel, rfl, by decide +kernel, by decide +kernel⟩
theorem ok_whole_sums (T : Tx K mg) : Ok P w K mg base 1 "whole_sums" ["numbers", "many"] (spSums) := by
  refine T.d_whole_sums.ok sc_whole_sums (fun vs H Q E h => ?_) (fun _ _ _ _ _ _ us hl => match us, hl with | [_, _], _ => rfl) (fun cdv A outer s H vs Q E hr h => ?_)
  · obtain ⟨_, _, rfl, _⟩ := h
    rfl
  · refine ⟨_, (pss_cons (ps_par (i := 2) (j := 3) rfl sc_whole_sums.nd rfl rfl (by decide) rfl rfl (pa_cons (pe_op op_sub (pe_callB (call_lenK (K := K) rfl) (by rfl) T.n_len (by decide +kernel) (pa_cons (pv 0) pa_nil)) pe_int) (pa_cons (pe_ix (ix_listK (K := K) rfl) (pv 0) (pe_un un_neg pe_int) (fun _ _ => rfl)) pa_nil)) (by rfl))
      (pss_cons (ps_par (i := 4) (j := 5) rfl sc_whole_sums.nd rfl rfl (by decide) rfl rfl (pa_cons (pe_lst (pa_cons (pv 2) pa_nil)) (pa_cons (pe_lst (pa_cons pe_int pa_nil)) pa_nil)) (by rfl))
      (pss_cons (ps_for PassesOwn.never rfl (pi_range2 (by rfl) T.n_range (pa_cons pe_int (pa_cons (pe_op op_add (pv 1) pe_int) pa_nil))) (pg_name (i := 6) sc_whole_sums.nd rfl (.inl rfl)) (pss_cons (ps_set (i := 7) sc_whole_sums.nd rfl (.inl rfl) (pe_ifExp (pt_cmpR op_le (pv 6) (pv 2) (nomark _)) (pe_op op_mulW (pe_op op_mulW (pv 6) (pe_ix (ix_listK (K := K) rfl) (pv 0) (pe_op op_sub (pv 2) (pv 6)) (fun _ _ => rfl))) (pe_ix (ix_listK (K := K) rfl) (pv 5) (pe_op op_sub (pv 6) pe_int) (fun _ _ => rfl))) pe_int))
      (pss_cons (ps_for PassesOwn.never rfl (pi_range2 (by rfl) T.n_range (pa_cons pe_int (pa_cons (pe_op op_add (pe_callB (call_min2 rfl) (by rfl) T.n_min (by decide +kernel) (pa_cons (pe_op op_sub (pv 6) pe_int) (pa_cons (pv 2) pa_nil))) pe_int) pa_nil))) (pg_name (i := 8) sc_whole_sums.nd rfl (.inl rfl)) (pss_one (ps_aug (i := 7) sc_whole_sums.nd rfl (.inl rfl) (pe_op op_mulW (pe_op op_mulW (pe_ix (ix_listK (K := K) rfl) (pv 0) (pe_op op_sub (pv 2) (pv 8)) (fun _ _ => rfl)) (pe_ix (ix_listK (K := K) rfl) (pv 5) (pe_op op_sub (pv 8) pe_int) (fun _ _ => rfl))) (pe_ix (ix_listK (K := K) rfl) (pv 4) (pe_op op_sub (pv 6) (pv 8)) (fun _ _ => rfl))) ip_add)))
      (pss_cons (ps_expr (pe_bm PySem.F.plainAttrs_list PySem.F.slot_list_append PySem.F.type_list_append mt_append (pv 4) (pa_cons (pe_op op_sub pe_int (pv 7)) pa_nil)))
      (pss_one (ps_expr (pe_bm PySem.F.plainAttrs_list PySem.F.slot_list_append PySem.F.type_list_append mt_append (pv 5) (pa_cons (pe_op op_mulW (pe_ix (ix_listK (K := K) rfl) (pv 5) (pe_un un_neg pe_int) (fun _ _ => rfl)) (pv 3)) pa_nil))))))))
      (pss_one (ps_ret (pv 4)))))), ?_⟩
    obtain ⟨v, u, rfl, ns, N, A, rfl, ⟨p, rfl, hp⟩, hl, hN, hA, hA1, hA2, k⟩ := h
    have hc := cf_le hA
    have cR : ∀ k, (cf ns k).natAbs < 2 ^ 6000 := fun k => Nat.lt_of_lt_of_le (Nat.lt_of_le_of_lt (hc k) hA2) (Nat.pow_le_pow_right (by decide) (by decide))
    have cS : ∀ k, Sm (cf ns k) := fun k => Sm.of (cR k)
    refine ⟨_, rfl, p, _, rfl, .inl (.of hp), _, _, rfl, rfl, ?_⟩
    refine ⟨_, rfl, _, rfl, p, _, _, .int (cf ns N), rfl, rfl, .of hp, ?_, ?_⟩
    · rw [show (-1 : Int) = -1 from rfl]
      unfold atI ixN
      rw [if_neg (by decide), List.length_map, hl, if_pos (by omega)]
      show (List.map V.int ns)[((-1 : Int) + ((N + 1 : Nat) : Int)).toNat]? = _
      rw [show ((-1 : Int) + ((N + 1 : Nat) : Int)).toNat = N by omega, List.getElem?_map, cf_get (by omega)]; rfl
    dsimp only
    rw [List.length_map, hl, show (((N + 1 : Nat) : Int)) - 1 = (N : Int) by omega]
    refine ⟨_, _, rfl, ?_⟩
    refine ⟨_, rfl, (by show 1 ≤ sizeLine; decide), fun Ds hDs => ?_⟩
    refine ⟨(by show 1 ≤ sizeLine; decide), fun Dc hDc => ?_⟩
    have hDc' : H Dc = none := by
      cases e : H Dc with
      | none => rfl
      | some o => rw [Evl.Ex.new hDs _ _ e] at hDc; cases hDc
    have hne : Dc ≠ Ds := fun e => by rw [e, upd_same] at hDc; cases hDc
    refine ⟨_, _, rfl, ?_⟩
    dsimp only [tSeq, tRet, tCB, tCall, tCons, tNext, gName, tAsg, tNil, tIfS, tOp, tC]
    refine ForR2 1 (2 * N + 1 : Int) (2 * N) (fun i σ H' => (∃ w6 w7 w8, σ = [some (.ref p), some (.int (2 * N : Int)), some (.int (N : Int)), some (.int (cf ns N)), some (.ref Ds), some (.ref Dc), w6, w7, w8]) ∧ Ex H H' ∧ H' Ds = some (.lst ((List.range (i + 1)).map fun t => V.int (Sx (cf ns) N t))) ∧ H' Dc = some (.lst ((List.range (i + 1)).map fun t => V.int (cf ns N ^ t)))) (fun F f => ⟨_, rfl, _, _, rfl, rfl, f⟩) (by omega) (by omega) (by omega) (by decide) ⟨⟨_, _, _, rfl⟩, (Evl.Ex.new hDs).trans (Evl.Ex.new hDc), by rw [upd_ne (fun e => hne e.symm), upd_same]; rfl, by rw [upd_same]; simp⟩ ?_ ?_
    · rintro i σ H1 hi ⟨⟨w6, w7, w8, rfl⟩, ex, hs, hcl⟩
      have hp1 := ex _ _ hp
      refine ⟨_, rfl, _, rfl, _, _, rfl, rfl, _, rfl, ?_⟩
      refine if_val _ (if i + 1 ≤ N then ((i + 1 : Nat) : Int) * cf ns (N - (i + 1)) * cf ns N ^ i else 0) ?_ ?_ ?_
      · intro h F f
        have h : ((1 + i : Nat) : Int) ≤ (N : Int) := of_decide_eq_true h
        refine ⟨_, rfl, _, rfl, _, rfl, _, rfl, _, _, rfl, rfl, p, _, _, _, rfl, rfl, .of hp1, atI_int (k := N - (i + 1)) (by omega) (by omega), _, _, rfl, rfl, Sm.mul (Sm.of (by rw [Int.natAbs_natCast]; exact Nat.lt_of_lt_of_le (by omega : 1 + i < 100) (by decide +kernel))) (cS _), ?_⟩
        refine ⟨_, rfl, _, rfl, _, _, rfl, rfl, Dc, _, _, _, rfl, rfl, .of hcl, atI_rng (k := i) (by omega) (by omega), _, _, rfl, rfl, Sm.mul (Sm.mul2 (by rw [Int.natAbs_natCast]; exact Nat.lt_of_lt_of_le (by omega : 1 + i < 100) (by decide +kernel)) (cR _)) (Sm.of (pow_rough (hc N) (by omega) hA2)), ?_⟩
        rw [if_pos (by omega)] at f
        rw [show 1 + i = i + 1 by omega]
        exact f
      · intro h F f
        have h : ¬ ((1 + i : Nat) : Int) ≤ (N : Int) := fun z => h (decide_eq_true z)
        rw [if_neg (by omega)] at f
        exact f
      · have e1 : ∀ z : Int, z = ((1 + i : Nat) : Int) - 1 → (if (N : Int) < z then (N : Int) else z) + 1 = ((min i N : Nat) : Int) + 1 := by
          intro z hz
          subst hz
          split <;> omega
        dsimp only [tSeq, tRet, tCB, tCall, tCons, tNext, gName, tAsg, tNil, tIfS, tOp, tC]
        refine ForR2 1 (((min i N : Nat) : Int) + 1) (min i N) (fun b σ H' => (∃ w8, σ = [some (.ref p), some (.int (2 * N : Int)), some (.int (N : Int)), some (.int (cf ns N)), some (.ref Ds), some (.ref Dc), some (.int ((1 + i : Nat) : Int)), some (.int ((if i + 1 ≤ N then ((i + 1 : Nat) : Int) * cf ns (N - (i + 1)) * cf ns N ^ i else 0) + smi b fun b => cf ns (N - (b + 1)) * cf ns N ^ b * Sx (cf ns) N (i + 1 - (b + 1)))), w8]) ∧ H' = H1) (fun F f => ⟨_, rfl, _, _, rfl, rfl, _, rfl, _, _, rfl, _, _, rfl, rfl, by
          dsimp only
          rw [e1 _ rfl]
          exact f⟩) (by omega) (by omega) (by omega) (by decide) ⟨⟨_, by
            show [some (V.ref p), some (.int (2 * N : Int)), some (.int (N : Int)), some (.int (cf ns N)), some (.ref Ds), some (.ref Dc), some (.int ((1 + i : Nat) : Int)), some (.int (if i + 1 ≤ N then ((i + 1 : Nat) : Int) * cf ns (N - (i + 1)) * cf ns N ^ i else 0)), w8] = _
            rw [show (smi 0 fun b => cf ns (N - (b + 1)) * cf ns N ^ b * Sx (cf ns) N (i + 1 - (b + 1))) = 0 from rfl, Int.add_zero]⟩, rfl⟩ ?_ ?_
        · rintro b σ H2 hb ⟨⟨w8, rfl⟩, rfl⟩
          refine ⟨_, rfl, ?_⟩
          refine ⟨_, rfl, _, rfl, _, rfl, _, _, rfl, rfl, p, _, _, _, rfl, rfl, .of hp1, atI_int (k := N - (b + 1)) (by omega) (by omega), ?_⟩
          refine ⟨_, rfl, _, rfl, _, _, rfl, rfl, Dc, _, _, _, rfl, rfl, .of hcl, atI_rng (k := b) (by omega) (by omega), _, _, rfl, rfl, Sm.mul (cS _) (Sm.of (pow_rough (hc N) (by omega) hA2)), ?_⟩
          refine ⟨_, rfl, _, rfl, _, rfl, _, _, rfl, rfl, Ds, _, _, _, rfl, rfl, .of hs, atI_rng (k := i + 1 - (b + 1)) (by omega) (by omega), _, _, rfl, rfl, Sm.mul (Sm.mul2 (cR _) (pow_rough (hc N) (by omega) hA2)) (Sm.of (Sx_rough hA1 hc (by omega) (by omega) hA2)), ?_⟩
          refine ⟨_, _, rfl, rfl, ⟨some (V.int ((1 + b : Nat) : Int)), ?_⟩, rfl⟩
          rw [show ∀ f : Nat → Int, smi (b + 1) f = smi b f + f b from fun _ => rfl, ← Int.add_assoc]
          rfl
        · rintro σ H2 ⟨⟨w8, rfl⟩, rfl⟩
          refine ⟨_, rfl, .inl ⟨rfl, _, .of hs⟩, _, rfl, _, _, rfl, rfl, Ds, _, _, rfl, rfl, hs, ?_, ?_⟩
          · rw [List.length_map, List.length_range]
            exact Nat.lt_of_lt_of_le (by omega : i + 1 < 100) (by decide)
          have hc2 : upd H2 Ds (.lst (((List.range (i + 1)).map fun t => V.int (Sx (cf ns) N t)) ++ [V.int (0 - ((if i + 1 ≤ N then ((i + 1 : Nat) : Int) * cf ns (N - (i + 1)) * cf ns N ^ i else 0) + smi (min i N) fun b => cf ns (N - (b + 1)) * cf ns N ^ b * Sx (cf ns) N (i + 1 - (b + 1))))])) Dc = some (.lst ((List.range (i + 1)).map fun t => V.int (cf ns N ^ t))) := by rw [upd_ne hne]; exact hcl
          refine ⟨_, rfl, .inl ⟨rfl, _, .of hc2⟩, _, rfl, _, rfl, Dc, _, _, .int (cf ns N ^ i), rfl, rfl, .of hc2, atI_rngl _ _, _, rfl, _, _, rfl, rfl, Sm.mul (Sm.of (pow_rough (hc N) (by omega) hA2)) (cS N), Dc, _, _, rfl, rfl, hc2, ?_, ?_⟩
          · rw [List.length_map, List.length_range]
            exact Nat.lt_of_lt_of_le (by omega : i + 1 < 100) (by decide)
          refine ⟨⟨_, _, _, rfl⟩, Evl.Ex.mut (Evl.Ex.mut ex hDs) hDc', ?_, ?_⟩
          · rw [upd_ne (fun e => hne e.symm), upd_same, ← rng_snoc _ (i + 1)]
            dsimp only
            rw [Sx_succ (cf ns) N i]
          · rw [upd_same, ← rng_snoc _ (i + 1)]
            dsimp only
            rw [Int.pow_succ]
    · rintro σ H1 ⟨⟨w6, w7, w8, rfl⟩, ex, hs, _⟩
      refine ⟨_, rfl, k _ _ ex ⟨Ds, rfl, ?_⟩⟩
      rw [hs, List.map_map]; rfl
end
end K66

set_option Elab.async false
set_option linter.all false
set_option maxRecDepth 100000
set_option maxHeartbeats 2000000
set_option exponentiation.threshold 100000
namespace K66
open PySem PySem.Spec PyProof.Rows L2
open Evl (Ex)
/-- a table: the list D of the lists as, row i with the numbers R i -/
def RowsAt (H : Hp) (D : Addr) (as : List Addr) (n : Nat) (R : Nat → Nat → Int) : Prop :=
  H D = some (.lst (as.map V.ref)) ∧ as.length = n ∧ (D :: as).Nodup ∧ ∀ (i : Nat) a, as[i]? = some a → H a = some (.lst ((List.range n).map fun j => V.int (R i j)))
theorem RowsAt.row {H : Hp} {D : Addr} {as : List Addr} {n : Nat} {R : Nat → Nat → Int} (h : RowsAt H D as n R) {i : Nat} (hi : i < n) :
    ∃ a, as[i]? = some a ∧ (as.map V.ref)[i]? = some (.ref a) ∧ H a = some (.lst ((List.range n).map fun j => V.int (R i j))) := by
  obtain ⟨h1, h2, h3, h4⟩ := h
  have e : as[i]? = some (as[i]'(by omega)) := List.getElem?_eq_getElem (by omega)
  exact ⟨_, e, by rw [List.getElem?_map, e]; rfl, h4 i _ e⟩
theorem RowsAt.mono {H H' : Hp} {D : Addr} {as : List Addr} {n : Nat} {R : Nat → Nat → Int} (h : RowsAt H D as n R) (e : Ex H H') : RowsAt H' D as n R :=
  ⟨e _ _ h.1, h.2.1, h.2.2.1, fun i a ha => e _ _ (h.2.2.2 i a ha)⟩
theorem RowsAt.congr {H : Hp} {D : Addr} {as : List Addr} {n : Nat} {R R' : Nat → Nat → Int} (h : RowsAt H D as n R) (e : ∀ i, i < n → ∀ j, j < n → R' i j = R i j) : RowsAt H D as n R' := by
  refine ⟨h.1, h.2.1, h.2.2.1, fun i a ha => ?_⟩
  have hi : i < n := by have := (List.getElem?_eq_some_iff.mp ha).1; have := h.2.1; omega
  rw [h.2.2.2 i a ha]
  congr 2
  refine List.map_congr_left fun j hj => ?_
  rw [e i hi j (List.mem_range.mp hj)]
/-- two rows are added, then two columns -/
def upR (R : Nat → Nat → Int) (a b : Nat) (i j : Nat) : Int := R i j + (if i = a then R b j else 0) + (if j = a then R i b else 0) + (if i = a then (if j = a then R b b else 0) else 0)
/-- the table when the columns of the first t rows are done -/
def rowU (R : Nat → Nat → Int) (p q t i j : Nat) : Int := (if i = p then R p j + R q j else R i j) + if i < t ∧ j = p then (if i = p then R p q + R q q else R i q) else 0
theorem rowU_zero (R : Nat → Nat → Int) (p q i j : Nat) : rowU R p q 0 i j = if i = p then R p j + R q j else R i j := by
  unfold rowU
  rw [if_neg (by omega : ¬ (i < 0 ∧ j = p)), Int.add_zero]
theorem rowU_old (R : Nat → Nat → Int) (p q : Nat) {s t : Nat} (h : s ≠ t) (j : Nat) : rowU R p q (t + 1) s j = rowU R p q t s j := by
  unfold rowU
  congr 1
  by_cases h1 : s < t ∧ j = p
  · rw [if_pos h1, if_pos ⟨by omega, h1.2⟩]
  · rw [if_neg h1, if_neg (by omega)]
theorem rowU_off (R : Nat → Nat → Int) (p q t : Nat) {j : Nat} (h : j ≠ p) : rowU R p q (t + 1) t j = rowU R p q t t j := by
  unfold rowU
  congr 1
  rw [if_neg (fun z => h z.2), if_neg (fun z => h z.2)]
theorem rowU_here (R : Nat → Nat → Int) {p q : Nat} (t : Nat) : rowU R p q t t p + rowU R p q t t q = rowU R p q (t + 1) t p := by
  have e1 : ∀ x : Int, (if t < t ∧ p = p then x else 0) = 0 := fun x => if_neg (by omega)
  have e2 : ∀ x : Int, (if t < t ∧ q = p then x else 0) = 0 := fun x => if_neg (by omega)
  have e3 : ∀ x : Int, (if t < t + 1 ∧ p = p then x else 0) = x := fun x => if_pos ⟨by omega, rfl⟩
  unfold rowU
  rw [e1, e2, e3]
  omega
theorem rowU_end (R : Nat → Nat → Int) (p q : Nat) {n i : Nat} (hi : i < n) (j : Nat) : upR R p q i j = rowU R p q n i j := by
  unfold rowU upR
  by_cases h1 : i = p
  · by_cases h2 : j = p
    · rw [if_pos h1, if_pos h2, if_pos h1, if_pos h2, if_pos h1, if_pos ⟨hi, h2⟩, if_pos h1]
      rw [h1]
      omega
    · rw [if_pos h1, if_neg h2, if_pos h1, if_neg h2, if_pos h1, if_neg (fun z => h2 z.2)]
      rw [h1]
      omega
  · by_cases h2 : j = p
    · rw [if_neg h1, if_pos h2, if_neg h1, if_neg h1, if_pos ⟨hi, h2⟩, if_neg h1]
      omega
    · rw [if_neg h1, if_neg h2, if_neg h1, if_neg h1, if_neg (fun z => h2 z.2)]
      omega
theorem nodup_ne {as : List Addr} (nd : as.Nodup) {i j : Nat} {a : Addr} (hi : as[i]? = some a) (hj : as[j]? = some a) : i = j := by
  obtain ⟨h1, e1⟩ := List.getElem?_eq_some_iff.mp hi
  obtain ⟨h2, e2⟩ := List.getElem?_eq_some_iff.mp hj
  have nd := List.pairwise_iff_getElem.mp nd
  rcases Nat.lt_trichotomy i j with h | h | h
  · exact absurd (e1.trans e2.symm) (nd i j h1 h2 h)
  · exact h
  · exact absurd (e2.trans e1.symm) (nd j i h2 h1 h)
theorem RowsAt.put {H : Hp} {D a : Addr} {as : List Addr} {n i : Nat} {R R' : Nat → Nat → Int} (h : RowsAt H D as n R) (hi : as[i]? = some a) (hR : ∀ t, t < n → t ≠ i → ∀ j, j < n → R' t j = R t j) :
    RowsAt (upd H a (.lst ((List.range n).map fun j => V.int (R' i j)))) D as n R' := by
  obtain ⟨h1, h2, h3, h4⟩ := h
  obtain ⟨h5, h6⟩ := List.nodup_cons.mp h3
  have ham := List.mem_of_getElem? hi
  refine ⟨?_, h2, h3, fun t c hc => ?_⟩
  · rw [upd_ne (fun e => h5 (by rw [e]; exact ham))]
    exact h1
  · have ht : t < n := by have := (List.getElem?_eq_some_iff.mp hc).1; omega
    by_cases e : t = i
    · subst e
      rw [hi] at hc
      cases hc
      rw [upd_same]
    · rw [upd_ne (fun z => e (nodup_ne h6 hc (by rw [z]; exact hi))), h4 t c hc]
      congr 2
      refine List.map_congr_left fun j hj => ?_
      rw [hR t ht e j (List.mem_range.mp hj)]
theorem RowsAt.swap {H H3 : Hp} {D r a : Addr} {as : List Addr} {n p : Nat} {R R' : Nat → Nat → Int} {row : Nat → Int} (h : RowsAt H D as n R) (e3 : Ex H H3) (hr : H r = none) (hr3 : H3 r = some (.lst ((List.range n).map fun j => V.int (row j)))) (hp : as[p]? = some a)
    (h1 : ∀ j, R' p j = row j) (h2 : ∀ t, t ≠ p → ∀ j, R' t j = R t j) : RowsAt (upd H3 D (.lst ((as.map V.ref).set p (.ref r)))) D (as.set p r) n R' := by
  obtain ⟨k1, k2, k3, k4⟩ := h
  obtain ⟨h5, h6⟩ := List.nodup_cons.mp k3
  have hrD : r ≠ D := fun e => by rw [e, k1] at hr; cases hr
  have hra : r ∉ as := fun e => by
    obtain ⟨i, hi, e⟩ := List.getElem_of_mem e
    have := k4 i r (by rw [List.getElem?_eq_getElem hi, e])
    rw [hr] at this; cases this
  have hpl := (List.getElem?_eq_some_iff.mp hp).1
  refine ⟨by rw [upd_same, List.map_set], by rw [List.length_set]; exact k2, ?_, fun t c hc => ?_⟩
  · rw [List.nodup_cons]
    refine ⟨fun h => ?_, ?_⟩
    · rcases List.mem_or_eq_of_mem_set h with h | h
      · exact h5 h
      · exact hrD h.symm
    · refine List.pairwise_iff_getElem.mpr fun i j hi hj hij e => ?_
      have e : (as.set p r)[i]? = (as.set p r)[j]? := by rw [List.getElem?_eq_getElem hi, List.getElem?_eq_getElem hj, e]
      rw [List.getElem?_set, List.getElem?_set] at e
      rw [List.length_set] at hj hi
      by_cases e1 : p = i
      · by_cases e2 : p = j
        · omega
        · rw [if_pos e1, if_pos (by omega), if_neg e2] at e
          exact hra (List.mem_of_getElem? e.symm)
      · by_cases e2 : p = j
        · rw [if_neg e1, if_pos e2, if_pos (by omega)] at e
          exact hra (List.mem_of_getElem? e)
        · rw [if_neg e1, if_neg e2, List.getElem?_eq_getElem hj] at e
          have := nodup_ne h6 e (List.getElem?_eq_getElem hj)
          omega
  · rw [List.getElem?_set] at hc
    by_cases e : p = t
    · rw [if_pos e, if_pos (by omega)] at hc
      cases hc
      rw [upd_ne hrD, hr3, ← e]
      congr 2
      refine List.map_congr_left fun j hj => ?_
      rw [h1]
    · rw [if_neg e] at hc
      have hcD : c ≠ D := fun z => h5 (by rw [← z]; exact List.mem_of_getElem? hc)
      rw [upd_ne hcD, e3 _ _ (k4 t c hc)]
      congr 2
      refine List.map_congr_left fun j hj => ?_
      rw [h2 t (fun z => e z.symm)]
theorem rng_cut {α : Type} {f : Nat → α} {i N M : Nat} (h : i + N ≤ M) : (((List.range M).map f).drop i).take (i + N - i) = (List.range N).map fun j => f (i + j) := by
  refine List.ext_getElem? fun k => ?_
  rw [show i + N - i = N by omega]
  by_cases hk : k < N
  · rw [List.getElem?_take_of_lt hk, List.getElem?_drop, List.getElem?_map, List.getElem?_range (by omega), List.getElem?_map, List.getElem?_range hk]; rfl
  · rw [List.getElem?_eq_none (by rw [List.length_take]; omega), List.getElem?_eq_none (by rw [List.length_map, List.length_range]; omega)]
section
variable {P : Program} {w : World} {K : PySem.W.Frag} {mg : Str → Option Value} {base : Heap}
def spTable (K : PySem.W.Frag) : Sp := fun vs H Q _ => ∃ v, vs = [v] ∧ ∃ a, ∃ A d N : Nat, LsR K H v a ∧ a.length = N + 1 ∧ N ≤ 8 ∧ Tr a ∧ InL A d a ∧ 0 < d ∧ d < 2 ^ 64 ∧ 1 ≤ A ∧ A < 2 ^ 300 ∧
  ∀ D as H' ns, Ex H H' → Wh a ns A → RowsAt H' D as N (fun i j => Sx (cf ns) N (i + j)) → (∀ x ∈ D :: as, H x = none) → Q (.ref D) H'
theorem sc_whole_table : FnScope ["curve", "numbers", "size", "told", "row"] ["curve"] (defScope (tp 44)) := ⟨rfl, rfl, rfl, by decide +kernel, rfl, by decide +kernel, by decide +kernel⟩
theorem ok_whole_table (T : Tx K mg) : Ok P w K mg base 4 "whole_table" ["curve"] (spTable K) := by
  have O_whole_of := ok_whole_of (P := P) (w := w) (base := base) T
  have O_whole_sums := ok_whole_sums (P := P) (w := w) (base := base) T
  refine T.d_whole_table.ok sc_whole_table (fun vs H Q E h => ?_) (fun _ _ _ _ _ _ us hl => match us, hl with | [_], _ => rfl) (fun cdv A outer s H vs Q E hr h => ?_)
  · obtain ⟨_, rfl, _⟩ := h
    rfl
  · refine ⟨_, (pss_cons (ps_set (i := 1) sc_whole_table.nd rfl (.inl rfl) (pe_c O_whole_of (hr.mono (by decide)) (by rfl) (pa_cons (pv 0) pa_nil)))
      (pss_cons (ps_set (i := 2) sc_whole_table.nd rfl (.inr rfl) (pe_op op_sub (pe_callB (call_lenK (K := K) rfl) (by rfl) T.n_len (by decide +kernel) (pa_cons (pv 1) pa_nil)) pe_int))
      (pss_cons (ps_set (i := 3) sc_whole_table.nd rfl (.inr rfl) (pe_c O_whole_sums (hr.mono (by decide)) (by rfl) (pa_cons (pv 1) (pa_cons (pe_op op_mulW pe_int (pv 2)) pa_nil))))
      (pss_one (ps_ret (pe_lc (own := [("row", 4)]) rfl sc_whole_table.nd (pi_range1 (by rfl) T.n_range (pa_cons (pv 2) pa_nil)) (blkOk_by (own := [("row", 4)]) (N := ["curve", "numbers", "size", "told", "row"]) (sc := defScope (tp 44)) (by decide +kernel)) (fun _ _ _ _ _ => (pg_name (i := 4) sc_whole_table.nd rfl (.inl rfl))) (fun _ _ _ _ _ => pts_nil) (fun _ _ _ _ _ => (pe_slice (sl_listK (K := K) rfl) (pv 3) (po_some (pv 4)) (po_some (pe_op op_add (pv 4) (pv 2))))))))))), ?_⟩
    obtain ⟨v, rfl, a, A, d, N, hv, hl, hN, ta, hA, hd, bd, hA1, hA2, k⟩ := h
    refine ⟨_, rfl, _, rfl, a, A, d, hv, by omega, ta, hA, hd, bd, Nat.lt_of_lt_of_le hA2 (Nat.pow_le_pow_right (by decide) (by decide)), fun z H1 ns e1 hz hw => ?_⟩
    obtain ⟨p, rfl, hp⟩ := hz
    have hw' := hw
    obtain ⟨wl, wa, _⟩ := hw
    refine ⟨_, rfl, p, _, rfl, .inl (.of hp), _, _, rfl, rfl, ?_⟩
    dsimp only
    rw [List.length_map, wl, hl, show ((N + 1 : Nat) : Int) - 1 = (N : Int) by omega]
    refine ⟨_, rfl, _, rfl, _, _, rfl, rfl, Sm.mul (Sm.of (by decide)) (Sm.of (by rw [Int.natAbs_natCast]; exact Nat.lt_of_lt_of_le (by omega : N < 100) (by decide +kernel))), ?_⟩
    refine ⟨_, _, rfl, ns, N, A, rfl, ⟨p, rfl, hp⟩, by omega, hN, wa, hA1, hA2, fun z H2 e2 hz => ?_⟩
    obtain ⟨q, rfl, hq⟩ := hz
    rw [List.map_map] at hq
    dsimp only [tSeq, tRet, tCB, tCall, tCons, tNext, gName, tAsg, tNil, tIfS, tOp, tC]
    refine LcR1I N (fun D i H' => Ex H2 H' ∧ ∃ as, as.length = i ∧ H' D = some (.lst (as.map V.ref)) ∧ (D :: as).Nodup ∧ (∀ x ∈ D :: as, H2 x = none) ∧ ∀ (i : Nat) a, as[i]? = some a → H' a = some (.lst ((List.range N).map fun j => V.int (Sx (cf ns) N (i + j))))) (fun F f => ⟨_, rfl, f⟩) (by omega) ?_ ?_ ?_ ?_
    · exact fun _ => rfl
    · intro D hD
      exact ⟨Evl.Ex.new hD, [], rfl, upd_same, by simp, by simpa using hD, by simp⟩
    · rintro D i H' hi ⟨e3, as, la, hD, nd, fr, rows⟩
      refine ⟨_, rfl, _, rfl, _, rfl, _, rfl, _, rfl, _, _, rfl, rfl, _, rfl, q, _, rfl, .of (e3 _ _ hq), fun r hr => ?_⟩
      have er := Evl.Ex.new (o := .lst (cutV (List.map (V.int ∘ Sx (cf ns) N) (List.range (2 * N + 1))) (some (i : Int)) (some ((i : Int) + (N : Int))))) hr
      have hrD : r ≠ D := fun e => by rw [e, hD] at hr; cases hr
      have hra : r ∉ as := fun e => by
        obtain ⟨i, hi, e⟩ := List.getElem_of_mem e
        have := rows i r (by rw [List.getElem?_eq_getElem hi, e])
        rw [hr] at this; cases this
      have hDa : D ∉ as := (List.nodup_cons.mp nd).1
      have h2r : H2 r = none := by
        cases e : H2 r with
        | none => rfl
        | some o => rw [e3 _ _ e] at hr; cases hr
      refine ⟨_, er _ _ hD, ?_, Evl.Ex.mut (e3.trans er) (fr D (List.mem_cons_self ..)), as ++ [r], ?_, ?_, ?_, ?_, ?_⟩
      · rw [List.length_map]
        exact Nat.lt_of_lt_of_le (by omega : as.length < 100) (by decide)
      · rw [List.length_append, la]; rfl
      · rw [upd_same, List.map_append]; rfl
      · rw [List.nodup_cons, List.nodup_append]
        refine ⟨fun h => ?_, (List.nodup_cons.mp nd).2, by simp, fun x hx y hy => ?_⟩
        · rcases List.mem_append.mp h with h | h
          · exact hDa h
          · exact hrD (List.mem_singleton.mp h).symm
        · intro e
          have : y = r := by simpa using hy
          rw [e, this] at hx
          exact hra hx
      · intro x hx
        rcases List.mem_cons.mp hx with rfl | hx
        · exact fr _ (List.mem_cons_self ..)
        · rcases List.mem_append.mp hx with hx | hx
          · exact fr x (List.mem_cons_of_mem _ hx)
          · have : x = r := by simpa using hx
            rw [this]; exact h2r
      · intro t x hx
        rw [List.getElem?_append] at hx
        split at hx
        · have hxD : x ≠ D := fun e => hDa (by rw [← e]; exact List.mem_of_getElem? hx)
          rw [upd_ne hxD]
          exact er _ _ (rows t x hx)
        · have ht : t - as.length = 0 := by
            have := (List.getElem?_eq_some_iff.mp hx).1
            simp at this
            omega
          rw [ht] at hx
          cases hx
          rw [upd_ne hrD, upd_same]
          rw [show (i : Int) + (N : Int) = ((i + N : Nat) : Int) by omega, cut_sl _ (by omega) (by simp; omega), rng_cut (by omega)]
          rw [show t = i by omega]
          rfl
    · rintro D H' ⟨e3, as, la, hD, nd, fr, rows⟩
      exact k D as H' ns ((e1.trans e2).trans e3) hw' ⟨hD, la, nd, rows⟩ fun x hx => by
        have := fr x hx
        cases e : H x with
        | none => rfl
        | some o => rw [(e1.trans e2) _ _ e] at this; cases this
/-- what a call may leave that changes nothing but the objects of F -/
def Kp (F : List Addr) (H H' : Hp) : Prop := ∀ x o, x ∉ F → H x = some o → H' x = some o
theorem Kp.refl (F : List Addr) (H : Hp) : Kp F H H := fun _ _ _ h => h
def spPlace : Sp := fun vs H Q _ => ∃ D L, vs = [.ref D, .ref L] ∧ ∃ as n R, ∃ left : List Nat, RowsAt H D as n R ∧ n ≤ 8 ∧ H L = some (.lst (left.map fun (i : Nat) => V.int (i : Int))) ∧ (∀ i ∈ left, i < n) ∧ left.length ≤ 8 ∧
  (∀ p ∈ left, R p p ≠ 0 → Q (.int (p : Int)) H) ∧
  (∀ a ∈ left, ∀ b ∈ left, a ≠ b → (∀ p ∈ left, R p p = 0) → R a b ≠ 0 → ∀ H' r, H r = none → RowsAt H' D (as.set a r) n (upR R a b) → Kp (r :: D :: as) H H' → Q (.int (a : Int)) H') ∧
  ((∀ a ∈ left, ∀ b ∈ left, R a b = 0) → Q .non H)
theorem sc_whole_place : FnScope ["rows", "left", "place", "other", "row", "one", "more"] ["rows", "left"] (defScope (tp 45)) := ⟨rfl, rfl, rfl, by decide +kernel, rfl, by decide +kernel, by decide +kernel⟩
theorem ok_whole_place (T : Tx K mg) : Ok P w K mg base 1 "whole_place" ["rows", "left"] (spPlace) := by
  refine T.d_whole_place.ok sc_whole_place (fun vs H Q E h => ?_) (fun _ _ _ _ _ _ us hl => match us, hl with | [_, _], _ => rfl) (fun cdv A outer s H vs Q E hr h => ?_)
  · obtain ⟨_, _, rfl, _⟩ := h
    rfl
  · refine ⟨_, (pss_cons (ps_for PassesOwn.never rfl (pi_list (pv 1)) (pg_name (i := 2) sc_whole_place.nd rfl (.inl rfl)) (pss_one (ps_if (pt_cmpR op_ne (pe_ix (ix_listK (K := K) rfl) (pe_ix (ix_listK (K := K) rfl) (pv 0) (pv 2) (fun _ _ => rfl)) (pv 2) (fun _ _ => rfl)) pe_int (nomark _)) (pss_one (ps_ret (pv 2))) pss_nil)))
      (pss_cons (ps_for PassesOwn.never rfl (pi_list (pv 1)) (pg_name (i := 2) sc_whole_place.nd rfl (.inl rfl)) (pss_one (ps_for PassesOwn.never rfl (pi_list (pv 1)) (pg_name (i := 3) sc_whole_place.nd rfl (.inl rfl)) (pss_one (ps_if (pt_cmpR op_ne (pe_ix (ix_listK (K := K) rfl) (pe_ix (ix_listK (K := K) rfl) (pv 0) (pv 2) (fun _ _ => rfl)) (pv 3) (fun _ _ => rfl)) pe_int (nomark _)) (pss_cons (ps_asg (pe_lc (own := [("one", 5), ("more", 6)]) rfl sc_whole_place.nd (pi_zip (by rfl) T.n_zip (pa_cons (pe_ix (ix_listK (K := K) rfl) (pv 0) (pv 2) (fun _ _ => rfl)) (pa_cons (pe_ix (ix_listK (K := K) rfl) (pv 0) (pv 3) (fun _ _ => rfl)) pa_nil))) (blkOk_by (own := [("one", 5), ("more", 6)]) (N := ["rows", "left", "place", "other", "row", "one", "more"]) (sc := defScope (tp 45)) (by decide +kernel)) (fun _ _ _ _ _ => (pg_tupK (K := K) (n := 2) rfl rfl (pgs_cons (pg_name (i := 5) sc_whole_place.nd rfl (.inl rfl)) (pgs_cons (pg_name (i := 6) sc_whole_place.nd rfl (.inl rfl)) pgs_nil)))) (fun _ _ _ _ _ => pts_nil) (fun _ _ _ _ _ => (pe_op op_add (pv 5) (pv 6)))) (pg_sub (pv 0) (pv 2) set_list))
      (pss_cons (ps_for PassesOwn.never rfl (pi_list (pv 0)) (pg_name (i := 4) sc_whole_place.nd rfl (.inl rfl)) (pss_one (ps_asg (pe_op op_add (pe_ix (ix_listK (K := K) rfl) (pv 4) (pv 2) (fun _ _ => rfl)) (pe_ix (ix_listK (K := K) rfl) (pv 4) (pv 3) (fun _ _ => rfl))) (pg_sub (pv 4) (pv 2) set_list))))
      (pss_one (ps_ret (pv 2))))) pss_nil)))))
      (pss_one (ps_ret pe_non)))), ?_⟩
    obtain ⟨D, L, rfl, as, n, R, left, hR, hn, hL, hlt, hll, k1, k2, k3⟩ := h
    have hD := hR.1
    have hit : ∀ i x, (left.map fun (i : Nat) => V.int (i : Int))[i]? = some x → ∃ p : Nat, left[i]? = some p ∧ x = V.int (p : Int) ∧ p ∈ left ∧ p < n := fun i x hx => by
      rw [List.getElem?_map] at hx
      cases e : left[i]? with
      | none => rw [e] at hx; cases hx
      | some p =>
        rw [e] at hx; cases hx
        have := List.mem_of_getElem? e
        exact ⟨p, e, rfl, this, hlt p this⟩
    have idx : ∀ {p : Nat} {j : Nat}, p < n → j < n → ∃ a, as[p]? = some a ∧ atI (as.map V.ref) (p : Int) = some (V.ref a) ∧ H a = some (.lst ((List.range n).map fun j => V.int (R p j))) ∧ atI ((List.range n).map fun j => V.int (R p j)) (j : Int) = some (V.int (R p j)) := fun hp hj => by
      obtain ⟨a, h1, h2, h3⟩ := hR.row hp
      exact ⟨a, h1, atI_nat h2, h3, atI_rng rfl hj⟩
    have ne0 : ∀ z : Int, decide (V.int z = V.int 0) = decide (z = 0) := fun z => by
      by_cases h : z = 0
      · subst h; simp
      · rw [decide_eq_false h, decide_eq_false]
        intro e; injection e with e; exact h e
    refine ForL (xs := left.map fun (i : Nat) => V.int (i : Int)) (a := L) (fun i σ H' => (∃ w2 w3 w4, σ = [some (.ref D), some (.ref L), w2, w3, w4, none, none]) ∧ H' = H ∧ ∀ k p, k < i → left[k]? = some p → R p p = 0) (fun F f => ⟨_, rfl, f⟩) (.of hL) ⟨⟨_, _, _, rfl⟩, rfl, fun k p hk => by omega⟩ ?_ ?_ ?_
    · rintro i σ H' _ ⟨_, rfl, _⟩
      exact .of hL
    · rintro i x σ H' hx ⟨⟨w2, w3, w4, rfl⟩, rfl, hz⟩
      obtain ⟨p, hp, rfl, hm, hpn⟩ := hit i x hx
      obtain ⟨a, ha, h1, h2, h3⟩ := idx hpn hpn
      refine ⟨_, rfl, _, rfl, D, _, _, _, rfl, rfl, .of hD, h1, _, rfl, a, _, _, _, rfl, rfl, .of h2, h3, ?_⟩
      refine ⟨rfl, _, rfl, ?_⟩
      refine ite2 (fun z => ?_) (fun z => ?_)
      · refine ⟨_, rfl, k1 p hm ?_⟩
        intro e
        rw [ne0, e] at z
        cases z
      · refine ⟨⟨_, _, _, rfl⟩, rfl, fun k p' hk hp' => ?_⟩
        by_cases e : k = i
        · rw [e, hp] at hp'
          cases hp'
          rw [ne0] at z
          simpa using z
        · exact hz k p' (by omega) hp'
    · rintro σ H' ⟨⟨w2, w3, w4, rfl⟩, rfl, hz⟩
      have hdiag : ∀ p ∈ left, R p p = 0 := fun p hp => by
        obtain ⟨k, hk, e⟩ := List.getElem_of_mem hp
        exact hz k p (by rw [List.length_map]; exact hk) (by rw [List.getElem?_eq_getElem hk, e])
      dsimp only [tSeq, tRet, tCB, tCall, tCons, tNext, gName, tAsg, tNil, tIfS, tOp, tC]
      refine ForL (xs := left.map fun (i : Nat) => V.int (i : Int)) (a := L) (fun i σ H1 => (∃ w2 w3 w4, σ = [some (.ref D), some (.ref L), w2, w3, w4, none, none]) ∧ H1 = H' ∧ ∀ k p, k < i → left[k]? = some p → ∀ q ∈ left, R p q = 0) (fun F f => ⟨_, rfl, f⟩) (.of hL) ⟨⟨_, _, _, rfl⟩, rfl, fun k p hk => by omega⟩ ?_ ?_ ?_
      · rintro i σ H1 _ ⟨_, rfl, _⟩
        exact .of hL
      · rintro i x σ H1 hx ⟨⟨w2, w3, w4, rfl⟩, rfl, hz2⟩
        obtain ⟨p, hp, rfl, hpm, hpn⟩ := hit i x hx
        refine ForL (xs := left.map fun (i : Nat) => V.int (i : Int)) (a := L) (fun j σ H2 => (∃ w3 w4, σ = [some (.ref D), some (.ref L), some (.int (p : Int)), w3, w4, none, none]) ∧ H2 = H1 ∧ ∀ k q, k < j → left[k]? = some q → R p q = 0) (fun F f => ⟨_, rfl, f⟩) (.of hL) ⟨⟨_, _, rfl⟩, rfl, fun k p hk => by omega⟩ ?_ ?_ ?_
        · rintro j σ H2 _ ⟨_, rfl, _⟩
          exact .of hL
        · rintro j y σ H2 hy ⟨⟨w3, w4, rfl⟩, rfl, hz3⟩
          obtain ⟨q, hq, rfl, hqm, hqn⟩ := hit j y hy
          obtain ⟨a, ha, h1, h2, h3⟩ := idx hpn hqn
          obtain ⟨b, hb, h4, h5, h6⟩ := idx hqn hpn
          refine ⟨_, rfl, _, rfl, D, _, _, _, rfl, rfl, .of hD, h1, _, rfl, a, _, _, _, rfl, rfl, .of h2, h3, ?_⟩
          refine ⟨rfl, _, rfl, ?_⟩
          refine ite2 (fun z => ?_) (fun z => ?_)
          · have hne : R p q ≠ 0 := by
              intro e
              rw [ne0, e] at z
              cases z
            have hpq : p ≠ q := fun e => hne (by rw [← e]; exact hdiag p hpm)
            dsimp only [tSeq, tRet, tCB, tCall, tCons, tNext, gName, tAsg, tNil, tIfS, tOp, tC]
            refine LcZ (a := a) (b := b) n (fun j => V.int (R p j + R q j)) (fun F f => ⟨_, rfl, _, rfl, D, _, _, _, rfl, rfl, .of hD, h1, _, rfl, _, rfl, D, _, _, _, rfl, rfl, .of hD, h4, f⟩) (.of h2) (.of h5) (by simp) (by simp) (by omega) ?_ ?_ ?_
            · exact fun _ _ => rfl
            · intro i' x y H3 hx hy _ F f
              have hi' : i' < n := by simpa using (List.getElem?_eq_some_iff.mp hx).1
              rw [List.getElem?_map, List.getElem?_range hi'] at hx hy
              cases hx; cases hy
              exact ⟨_, rfl, _, rfl, _, _, rfl, rfl, f⟩
            · intro r H3 hr e3 hr3
              have hD3 := e3 _ _ hD
              refine ⟨_, rfl, _, rfl, D, _, _, p, rfl, rfl, hD3, ixN_nat (by rw [List.length_map, hR.2.1]; exact hpn), ?_⟩
              have sw := hR.swap e3 hr hr3 ha (R' := fun i j => if i = p then R p j + R q j else R i j) (fun j => by rw [if_pos rfl]) (fun t ht j => by rw [if_neg ht])
              refine ForL (xs := (as.set p r).map V.ref) (a := D) (fun t σ H4 => (∃ w4, σ = [some (.ref D), some (.ref L), some (.int (p : Int)), some (.int (q : Int)), w4, none, none]) ∧ Kp (r :: D :: as) H2 H4 ∧ RowsAt H4 D (as.set p r) n (rowU R p q t)) (fun F f => ⟨_, rfl, f⟩) (.of sw.1) ⟨⟨_, rfl⟩, ?_, sw.congr fun i hi j hj => ?_⟩ ?_ ?_ ?_
              · intro x o hx hxo
                rw [upd_ne (fun e => hx (by rw [e]; simp))]
                exact e3 _ _ hxo
              · exact rowU_zero R p q i j
              · rintro t σ H4 _ ⟨_, _, hR4⟩
                exact .of hR4.1
              · rintro t x σ H4 hx ⟨⟨w4, rfl⟩, kp, hR4⟩
                obtain ⟨c, hc, rfl⟩ : ∃ c, (as.set p r)[t]? = some c ∧ x = .ref c := by
                  rw [List.getElem?_map] at hx
                  cases e : (as.set p r)[t]? with
                  | none => rw [e] at hx; cases hx
                  | some c => rw [e] at hx; cases hx; exact ⟨c, rfl, rfl⟩
                have htn : t < n := by
                  have := (List.getElem?_eq_some_iff.mp hc).1
                  rw [hR4.2.1] at this
                  exact this
                have hrow := hR4.2.2.2 t c hc
                refine ⟨_, rfl, _, rfl, c, _, _, _, rfl, rfl, .of hrow, atI_rng rfl hpn, _, rfl, _, rfl, c, _, _, _, rfl, rfl, .of hrow, atI_rng rfl hqn, _, _, rfl, rfl, ?_⟩
                refine ⟨_, rfl, _, rfl, c, _, _, p, rfl, rfl, hrow, ixN_nat (by simpa using hpn), ⟨_, rfl⟩, ?_, ?_⟩
                · intro x o hx hxo
                  have hxc : x ≠ c := fun e => hx (by
                    rw [e]
                    have := List.mem_of_getElem? hc
                    rcases List.mem_or_eq_of_mem_set this with h | h
                    · exact List.mem_cons_of_mem _ (List.mem_cons_of_mem _ h)
                    · rw [h]; exact List.mem_cons_self ..)
                  rw [upd_ne hxc]
                  exact kp x o hx hxo
                · rw [rng_set (g := fun j => V.int (rowU R p q (t + 1) t j)) hpn]
                  · exact hR4.put (R' := rowU R p q (t + 1)) hc fun s _ hs j _ => rowU_old R p q hs j
                  · show V.int (rowU R p q t t p + rowU R p q t t q) = V.int (rowU R p q (t + 1) t p)
                    rw [rowU_here]
                  · intro m hm
                    show V.int (rowU R p q (t + 1) t m) = V.int (rowU R p q t t m)
                    rw [rowU_off R p q t hm]
              · rintro σ H4 ⟨⟨w4, rfl⟩, kp, hR4⟩
                refine ⟨_, rfl, k2 p hpm q hqm hpq hdiag hne H4 r hr (hR4.congr fun i hi j hj => ?_) kp⟩
                rw [List.length_map, List.length_set, hR.2.1]
                exact rowU_end R p q hi j
          · refine ⟨⟨_, _, rfl⟩, rfl, fun k q' hk hq' => ?_⟩
            by_cases e : k = j
            · rw [e, hq] at hq'
              cases hq'
              rw [ne0] at z
              simpa using z
            · exact hz3 k q' (by omega) hq'
        · rintro σ H2 ⟨⟨w3, w4, rfl⟩, rfl, hz3⟩
          refine ⟨⟨_, _, _, rfl⟩, rfl, fun k p' hk hp' q hq => ?_⟩
          by_cases e : k = i
          · rw [e, hp] at hp'
            cases hp'
            obtain ⟨k', hk', e'⟩ := List.getElem_of_mem hq
            exact hz3 k' q (by rw [List.length_map]; exact hk') (by rw [List.getElem?_eq_getElem hk', e'])
          · exact hz2 k p' (by omega) hp' q hq
      · rintro σ H2 ⟨⟨w2, w3, w4, rfl⟩, rfl, hz2⟩
        refine k3 fun a ha b hb => ?_
        obtain ⟨k', hk', e'⟩ := List.getElem_of_mem ha
        exact hz2 k' a (by rw [List.length_map]; exact hk') (by rw [List.getElem?_eq_getElem hk', e']) b hb
end
end K66

set_option Elab.async false
set_option linter.all false
set_option maxRecDepth 100000
set_option maxHeartbeats 2000000
set_option exponentiation.threshold 100000
namespace K66
open PySem PySem.Spec PyProof.Rows L2
open Evl (Ex)
abbrev nats (l : List Nat) : List V := l.map fun (i : Nat) => V.int (i : Int)
/-- the call of whole_place, with what is known of the table -/
theorem place_step {H : Hp} {D L : Addr} {as : List Addr} {n t B : Nat} {Orig pos : Prop} {S left : List Nat} {R : Nat → Nat → Int} {ahead : Int} {Q : VK} (hR : RowsAt H D as n R) (hn : n ≤ 8) (hL : H L = some (.lst (nats left)))
    (hlt : ∀ i ∈ left, i < n) (h : BI n (B : Rat) Orig pos S left R ahead t) (ht : t ≤ S.length)
    (k : ∀ H' as' R' t' pl, Kp (D :: as) H H' → RowsAt H' D as' n R' → (∀ x ∈ as', x ∈ as ∨ H x = none) → BI n (B : Rat) Orig pos S left R' ahead t' →
      ((pl = .non ∧ ∀ a ∈ left, ∀ b ∈ left, R' a b = 0) ∨ ∃ p : Nat, p ∈ left ∧ pl = .int (p : Int) ∧ R' p p ≠ 0) → Q pl H') : spPlace [.ref D, .ref L] H Q E0 := by
  have hl := h.ne'
  refine ⟨D, L, rfl, as, n, R, left, hR, hn, hL, hlt, by omega, fun p hp hz => ?_, fun a ha b hb hab hz hne H' r hr hR' hk => ?_, fun hz => ?_⟩
  · exact k H as R t _ (Kp.refl _ _) hR (fun x hx => .inl hx) h (.inr ⟨p, hp, rfl, hz⟩)
  · refine k H' (as.set a r) (upR R a b) (t + 1) _ (fun x o hx ho => hk x o (fun hm => ?_) ho) hR' (fun x hx => ?_) (addup h ht (by exact_mod_cast Nat.zero_le B) ha hb hab fun i _ j _ => rfl) (.inr ⟨a, ha, rfl, ?_⟩)
    · rcases List.mem_cons.mp hm with e | hm
      · rw [e, hr] at ho; cases ho
      · exact hx hm
    · rcases List.mem_or_eq_of_mem_set hx with h | h
      · exact .inl h
      · exact .inr (by rw [h]; exact hr)
    · have hsym : R b a = R a b := by
        obtain ⟨M, h⟩ := h
        exact h.sy b hb a ha
      unfold upR
      rw [if_pos rfl, if_pos rfl, if_pos rfl, if_pos rfl, hz a ha, hz b hb, hsym]
      omega
  · exact k H as R t _ (Kp.refl _ _) hR (fun x hx => .inl hx) h (.inl ⟨rfl, hz⟩)
theorem not_take {l : List Nat} (nd : l.Nodup) {i x : Nat} (h : l[i]? = some x) : x ∉ l.take i := fun hm => by
  obtain ⟨k, hk, e⟩ := List.getElem_of_mem hm
  rw [List.length_take] at hk
  have e2 : l[k]? = some x := by
    rw [← e, List.getElem_take, List.getElem?_eq_getElem]
  have := nodup_ne nd e2 h
  omega
theorem no0 {l : List Nat} {x : Nat} (h : x ∈ l.take 0) : False := by
  rw [List.take_zero] at h; cases h
theorem big {z : Int} (h : z.natAbs < 2 ^ 9000) : Sm z := Nat.lt_of_lt_of_le h (Nat.pow_le_pow_right (by decide) (by decide))
/-- where the loop of signs_of stands -/
structure Sg (H0 H : Hp) (N B : Nat) (Orig : Prop) (D L G : Addr) (as : List Addr) (S left : List Nat) (R : Nat → Nat → Int) (ahead : Int) (t : Nat) (sg : List Int) : Prop where
  rows : RowsAt H D as N R
  fr : ∀ x ∈ D :: as, H0 x = none
  hL : H L = some (.lst (nats left))
  L0 : H0 L = none
  Ln : L ∉ D :: as
  hG : H G = some (.lst (sg.map V.int))
  G0 : H0 G = none
  Gn : G ∉ D :: as
  LG : L ≠ G
  lt : ∀ i ∈ left, i < N
  bi : BI N (B : Rat) Orig (∀ s ∈ sg, 0 < s) S left R ahead t
  ex : Ex H0 H
  len : sg.length = S.length
theorem none_of {H0 H : Hp} {x : Addr} (e : Ex H0 H) (h : H x = none) : H0 x = none := by
  cases q : H0 x with
  | none => rfl
  | some o => rw [e _ _ q] at h; cases h
theorem Sg.place {H0 H : Hp} {N B : Nat} {Orig : Prop} {D L G : Addr} {as : List Addr} {S left : List Nat} {R : Nat → Nat → Int} {ahead : Int} {t : Nat} {sg : List Int} {Q : VK} (h : Sg H0 H N B Orig D L G as S left R ahead t sg) (hN : N ≤ 8) (ht : t ≤ S.length)
    (k : ∀ H' as' R' t' pl, Sg H0 H' N B Orig D L G as' S left R' ahead t' sg → ((pl = .non ∧ ∀ a ∈ left, ∀ b ∈ left, R' a b = 0) ∨ ∃ p : Nat, p ∈ left ∧ pl = .int (p : Int) ∧ R' p p ≠ 0) → Q pl H') : spPlace [.ref D, .ref L] H Q E0 := by
  refine place_step h.rows hN h.hL h.lt h.bi ht fun H' as' R' t' pl hk hr hx hb hp => k H' as' R' t' pl ⟨hr, ?_, hk _ _ h.Ln h.hL, h.L0, ?_, hk _ _ h.Gn h.hG, h.G0, ?_, h.LG, h.lt, hb, ?_, h.len⟩ hp
  · intro x hm
    rcases List.mem_cons.mp hm with e | hm
    · rw [e]; exact h.fr D (List.mem_cons_self ..)
    · rcases hx x hm with hm | hm
      · exact h.fr x (List.mem_cons_of_mem _ hm)
      · exact none_of h.ex hm
  · intro hm
    rcases List.mem_cons.mp hm with e | hm
    · exact h.Ln (by rw [e]; exact List.mem_cons_self ..)
    · rcases hx _ hm with hm | hm
      · exact h.Ln (List.mem_cons_of_mem _ hm)
      · rw [h.hL] at hm; cases hm
  · intro hm
    rcases List.mem_cons.mp hm with e | hm
    · exact h.Gn (by rw [e]; exact List.mem_cons_self ..)
    · rcases hx _ hm with hm | hm
      · exact h.Gn (List.mem_cons_of_mem _ hm)
      · rw [h.hG] at hm; cases hm
  · intro x o ho
    refine hk x o (fun hm => ?_) (h.ex x o ho)
    rw [h.fr x hm] at ho; cases ho
section
variable {P : Program} {w : World} {K : PySem.W.Frag} {mg : Str → Option Value} {base : Heap}
def spSigns (K : PySem.W.Frag) : Sp := fun vs H Q _ => ∃ v, vs = [v] ∧ ∃ a, ∃ A d N : Nat, LsR K H v a ∧ a.length = N + 1 ∧ N ≤ 8 ∧ Tr a ∧ InL A d a ∧ 0 < d ∧ d < 2 ^ 64 ∧ 1 ≤ A ∧ A < 2 ^ 300 ∧ Fit N A ∧
  ∀ z H' sg, Ex H H' → LsI H' z sg → ((∀ s ∈ sg, 0 < s) ↔ RRn N (en a)) → sg.length ≤ 8 → Q z H'
theorem sc_signs_of : FnScope ["curve", "rows", "left", "ahead", "signs", "place", "pivot", "other", "held", "at"] ["curve"] (defScope (tp 46)) := ⟨rfl, rfl, rfl, by decide +kernel, rfl, by decide +kernel, by decide +kernel⟩
theorem ok_signs_of (T : Tx K mg) : Ok P w K mg base 5 "signs_of" ["curve"] (spSigns K) := by
  have O_whole_table := ok_whole_table (P := P) (w := w) (base := base) T
  have O_whole_place := ok_whole_place (P := P) (w := w) (base := base) T
  refine T.d_signs_of.ok sc_signs_of (fun vs H Q E h => ?_) (fun _ _ _ _ _ _ us hl => match us, hl with | [_], _ => rfl) (fun cdv A outer s H vs Q E hr h => ?_)
  · obtain ⟨_, rfl, _⟩ := h
    rfl
  · refine ⟨_, (pss_cons (ps_set (i := 1) sc_signs_of.nd rfl (.inl rfl) (pe_c O_whole_table (hr.mono (by decide)) (by rfl) (pa_cons (pv 0) pa_nil)))
      (pss_cons (ps_par3 (i := 2) (j := 3) (l := 4) rfl sc_signs_of.nd rfl rfl rfl (by decide) (by decide) (by decide) rfl rfl rfl (pa_cons (pe_listRg rfl (by rfl) T.n_list (prg_1 (by rfl) T.n_range (pe_callB (call_lenK (K := K) rfl) (by rfl) T.n_len (by decide +kernel) (pa_cons (pv 1) pa_nil)))) (pa_cons pe_int (pa_cons (pe_lst pa_nil) pa_nil))) (by rfl))
      (pss_cons (ps_set (i := 5) sc_signs_of.nd rfl (.inr rfl) (pe_c O_whole_place (hr.mono (by decide)) (by rfl) (pa_cons (pv 1) (pa_cons (pv 2) pa_nil))))
      (pss_cons (ps_while PassesOwn.never (pt_cmpR op_notN (pv 5) pe_non (nomark _)) (pss_cons (ps_set (i := 6) sc_signs_of.nd rfl (.inl rfl) (pe_ix (ix_listK (K := K) rfl) (pe_ix (ix_listK (K := K) rfl) (pv 1) (pv 5) (fun _ _ => rfl)) (pv 5) (fun _ _ => rfl)))
      (pss_cons (ps_expr (pe_bm PySem.F.plainAttrs_list PySem.F.slot_list_append PySem.F.type_list_append mt_append (pv 4) (pa_cons (pe_ifExp (pt_cmpR op_eq (pe_cmpR op_gt (pv 6) pe_int (nomark _)) (pe_cmpR op_gt (pv 3) pe_int (nomark _)) (nomark _)) pe_int (pe_un un_neg pe_int)) pa_nil)))
      (pss_cons (ps_setLc (i := 2) (own := [("other", 7)]) rfl sc_signs_of.nd rfl rfl (sw_true rfl rfl rfl (by decide +kernel)) (pi_list (pv 2)) (blkOk_by (own := [("other", 7)]) (N := ["curve", "rows", "left", "ahead", "signs", "place", "pivot", "other", "held", "at"]) (sc := defScope (tp 46)) (by decide +kernel)) (fun _ _ _ _ _ => (pg_name (i := 7) sc_signs_of.nd rfl (.inl rfl))) (fun _ _ _ _ _ => pts_one (pt_cmpR op_ne (pv 7) (pv 5) (nomark _))) (fun _ _ _ _ _ => (pv 7)))
      (pss_cons (ps_for PassesOwn.never rfl (pi_list (pv 2)) (pg_name (i := 7) sc_signs_of.nd rfl (.inl rfl)) (pss_cons (ps_set (i := 8) sc_signs_of.nd rfl (.inl rfl) (pe_ix (ix_listK (K := K) rfl) (pe_ix (ix_listK (K := K) rfl) (pv 1) (pv 7) (fun _ _ => rfl)) (pv 5) (fun _ _ => rfl)))
      (pss_one (ps_for PassesOwn.never rfl (pi_list (pv 2)) (pg_name (i := 9) sc_signs_of.nd rfl (.inl rfl)) (pss_one (ps_asg (pe_op op_fdivZ (pe_op op_sub (pe_op op_mulW (pv 6) (pe_ix (ix_listK (K := K) rfl) (pe_ix (ix_listK (K := K) rfl) (pv 1) (pv 7) (fun _ _ => rfl)) (pv 9) (fun _ _ => rfl))) (pe_op op_mulW (pv 8) (pe_ix (ix_listK (K := K) rfl) (pe_ix (ix_listK (K := K) rfl) (pv 1) (pv 5) (fun _ _ => rfl)) (pv 9) (fun _ _ => rfl)))) (pv 3)) (pg_sub (pe_ix (ix_listK (K := K) rfl) (pv 1) (pv 7) (fun _ _ => rfl)) (pv 9) set_list)))))))
      (pss_cons (ps_set (i := 3) sc_signs_of.nd rfl (.inl rfl) (pv 6))
      (pss_one (ps_set (i := 5) sc_signs_of.nd rfl (.inr rfl) (pe_c O_whole_place (hr.mono (by decide)) (by rfl) (pa_cons (pv 1) (pa_cons (pv 2) pa_nil)))))))))))
      (pss_one (ps_ret (pv 4))))))), ?_⟩
    obtain ⟨v, rfl, a, A, d, N, hv, hl, hN, ta, hA, hd, bd, hA1, hA2, hfit, k⟩ := h
    refine ⟨_, rfl, _, rfl, a, A, d, N, hv, hl, hN, ta, hA, hd, bd, hA1, hA2, fun D as H1 ns e1 hw hR fr => ?_⟩
    have hc := cf_le hw.2.1
    have st := table_start hA1 hc hN
    rw [← propext (table_rr hl ta hw)] at k
    generalize (∀ v, 0 ≤ qf N (fun i j => (Sx (cf ns) N (i + j) : Rat)) v) = Orig at *
    have hB1 : 1 ≤ 32 ^ (2 * N) * A ^ (2 * N) := Nat.mul_pos (Nat.pow_pos (by decide)) (Nat.pow_pos hA1)
    generalize hBe : 32 ^ (2 * N) * A ^ (2 * N) = B at *
    have hfit' : (N * (4 ^ N * B)) ^ N < 2 ^ 9000 := by rw [← hBe]; exact hfit
    have hlen : (as.map V.ref).length = N := by rw [List.length_map]; exact hR.2.1
    refine ⟨_, rfl, D, _, rfl, .inl (.of hR.1), _, rfl, RgOk.of_le (by decide) (by rw [hlen]; omega) (by decide) (by rw [hlen]; omega), fun L hL => ?_⟩
    refine ⟨(by show 0 ≤ sizeLine; decide), fun G hG => ?_⟩
    refine ⟨_, _, _, rfl, ?_⟩
    have er : rgV 0 ((as.map V.ref).length : Int) = nats (List.range N) := by
      unfold rgV
      rw [hlen, show (((N : Nat) : Int) - 0).toNat = N by omega]
      exact List.map_congr_left fun i _ => by rw [Int.zero_add]
    have eL := Evl.Ex.new (o := .lst (rgV 0 ((as.map V.ref).length : Int))) hL
    have eG := Evl.Ex.new (o := .lst []) hG
    have hL' : (upd (upd H1 L (.lst (rgV 0 ((as.map V.ref).length : Int)))) G (.lst [])) L = some (.lst (nats (List.range N))) := by
      rw [← er]
      exact eG L _ upd_same
    have nm : ∀ x ∈ D :: as, H1 x ≠ none := fun x hx e => by
      rcases List.mem_cons.mp hx with h | h
      · rw [h, hR.1] at e; cases e
      · obtain ⟨i, hi, e'⟩ := List.getElem_of_mem h
        rw [hR.2.2.2 i x (by rw [List.getElem?_eq_getElem hi, e'])] at e; cases e
    have hG1 : H1 G = none := none_of eL hG
    have s0 : Sg H (upd (upd H1 L (.lst (rgV 0 ((as.map V.ref).length : Int)))) G (.lst [])) N B Orig D L G as [] (List.range N) (fun i j => Sx (cf ns) N (i + j)) 1 0 [] :=
      ⟨hR.mono (eL.trans eG), fr, hL', none_of e1 hL, fun h => nm L h hL, upd_same, none_of e1 hG1, fun h => nm G h hG1, fun e => (by rw [← e, upd_same] at hG; cases hG), fun i hi => List.mem_range.mp hi, st.pos' (by simp), (e1.trans eL).trans eG, rfl⟩
    refine ⟨_, rfl, _, rfl, ?_⟩
    dsimp only [tSeq, tRet, tCB, tCall, tCons, tNext, gName, tAsg, tNil, tIfS, tOp, tC]
    refine s0.place hN (Nat.le_refl 0) fun H2 as2 R2 t2 pl s2 hpl => ?_
    refine ⟨fun m σ H' => ∃ L as S left R ahead t sg pl w6 w7 w8 w9, σ = [some v, some (.ref D), some (.ref L), some (.int ahead), some (.ref G), some pl, w6, w7, w8, w9] ∧ Sg H H' N B Orig D L G as S left R ahead t sg ∧ ((pl = .non ∧ ∀ a ∈ left, ∀ b ∈ left, R a b = 0) ∨ ∃ p : Nat, p ∈ left ∧ pl = .int (p : Int) ∧ R p p ≠ 0) ∧ m = left.length, ⟨_, L, as2, [], _, R2, 1, t2, [], pl, none, none, none, none, rfl, s2, hpl, rfl⟩, ?_⟩
    rintro m σ H' ⟨L, as, S, left, R, ahead, t, sg, pl, w6, w7, w8, w9, rfl, s, hpl, rfl⟩
    refine ⟨_, rfl, rfl, _, rfl, ?_⟩
    rcases hpl with ⟨rfl, hz⟩ | ⟨p, hp, rfl, hpp⟩
    · refine iteF ⟨_, rfl, k _ _ sg s.ex ⟨G, rfl, s.hG⟩ (s.bi.done hz).symm ?_⟩
      have := s.bi.ne'
      have := s.len
      omega
    refine iteT ?_
    have hpN := s.lt p hp
    obtain ⟨ap, ha1, ha2, ha3⟩ := s.rows.row hpN
    obtain ⟨hne, hnd, hlen2, htS⟩ := s.bi.ne'
    have sizes : ∀ {i j}, i ∈ left → j ∈ left → (R i j).natAbs < 2 ^ 9000 := fun hi hj => Nat.lt_of_le_of_lt (s.bi.size hB1 hi hj) hfit'
    have sizeA : ahead.natAbs < 2 ^ 9000 := Nat.lt_of_le_of_lt (s.bi.sizeA hB1 hp) hfit'
    refine ⟨_, fun _ _ z => z, ?_⟩
    refine ⟨_, rfl, _, rfl, D, _, _, _, rfl, rfl, .of s.rows.1, atI_nat ha2, _, rfl, ap, _, _, _, rfl, rfl, .of ha3, atI_rng rfl hpN, ?_⟩
    refine ⟨_, rfl, .inl ⟨rfl, _, .of s.hG⟩, ?_⟩
    refine ⟨_, rfl, _, _, rfl, rfl, _, rfl, _, _, rfl, rfl, rfl, _, rfl, ?_⟩
    refine if_val _ (if (0 < R p p ↔ 0 < ahead) then 1 else -1) ?_ ?_ ?_
    · intro h F f
      have h : (0 < R p p ↔ 0 < ahead) := by simpa using h
      rw [if_pos h] at f
      exact f
    · intro h F f
      have h : ¬ (0 < R p p ↔ 0 < ahead) := by simpa using h
      rw [if_neg h] at f
      exact ⟨_, rfl, f⟩
    have hx : 0 < (if (0 < R p p ↔ 0 < ahead) then 1 else -1 : Int) ↔ (0 < R p p ↔ 0 < ahead) := by
      by_cases h : (0 < R p p ↔ 0 < ahead)
      · rw [if_pos h]; exact ⟨fun _ => h, fun _ => by decide⟩
      · rw [if_neg h]; exact ⟨fun z => absurd z (by decide), fun z => absurd z h⟩
    generalize (if (0 < R p p ↔ 0 < ahead) then 1 else -1 : Int) = x at hx ⊢
    have slen := s.len
    refine ⟨G, _, _, rfl, rfl, s.hG, ?_, ?_⟩
    · rw [List.length_map]
      exact Nat.lt_of_lt_of_le (by omega : sg.length < 100) (by decide)
    have hG3 : (upd H' G (.lst (sg.map V.int ++ [V.int x]))) G = some (.lst ((sg ++ [x]).map V.int)) := by rw [upd_same, List.map_append]; rfl
    have off3 : ∀ y o, y ≠ G → H' y = some o → (upd H' G (.lst (sg.map V.int ++ [V.int x]))) y = some o := fun y o h e => by rw [upd_ne h]; exact e
    have ex3 : Ex H (upd H' G (.lst (sg.map V.int ++ [V.int x]))) := Evl.Ex.mut s.ex s.G0
    have hL3 := off3 L _ s.LG s.hL
    have hR3 : RowsAt (upd H' G (.lst (sg.map V.int ++ [V.int x]))) D as N R := ⟨off3 D _ (fun e => s.Gn (by rw [e]; exact List.mem_cons_self ..)) s.rows.1, s.rows.2.1, s.rows.2.2.1, fun i a ha => off3 a _ (fun e => s.Gn (by rw [← e]; exact List.mem_cons_of_mem _ (List.mem_of_getElem? ha))) (s.rows.2.2.2 i a ha)⟩
    generalize upd H' G (.lst (sg.map V.int ++ [V.int x])) = H3 at *
    dsimp only [tSeq, tRet, tCB, tCall, tCons, tNext, gName, tAsg, tNil, tIfS, tOp, tC]
    refine LcF (a := L) (xs := nats left) (fun y => !decide (y = V.int (p : Int))) (fun F f => ⟨_, rfl, f⟩) (.of hL3) (by rw [List.length_map]; omega) ?_ ?_ ?_ ?_
    · exact fun _ => rfl
    · intro y H4 hy e4 F f
      obtain ⟨i, _, rfl⟩ := List.mem_map.mp hy
      exact ⟨_, rfl, _, rfl, rfl, _, rfl, f⟩
    · intro y H4 hy e4 F f
      exact ⟨_, rfl, f⟩
    intro L2 H4 hL2 e4 hL4
    have hfl : (nats left).filter (fun y => !decide (y = V.int (p : Int))) = nats (left.filter (· != p)) := by
      unfold nats
      rw [List.filter_map]
      congr 1
      refine List.filter_congr fun i _ => ?_
      by_cases e : i = p
      · subst e; simp
      · have : ¬ V.int (i : Int) = V.int (p : Int) := fun z => e (by injection z with z; omega)
        show (!decide (V.int (i : Int) = V.int (p : Int))) = (i != p)
        rw [decide_eq_false this]
        simp [e]
    rw [hfl] at hL4
    have hR4 := hR3.mono e4
    have hG4 := e4 _ _ hG3
    have inl : ∀ {i}, i ∈ left.filter (· != p) → i ∈ left ∧ i ≠ p := fun hi => ⟨(List.mem_filter.mp hi).1, by simpa using (List.mem_filter.mp hi).2⟩
    have nd2 : (left.filter (· != p)).Nodup := hnd.sublist List.filter_sublist
    have len3 : (left.filter (· != p)).length < left.length := by
      have h1 := List.length_filter_le (· != p) left
      rcases Nat.lt_or_ge (left.filter (· != p)).length left.length with h | h
      · exact h
      · exfalso
        have h2 : left.filter (· != p) = left := List.filter_sublist.eq_of_length (by omega)
        have h3 : p ∈ left.filter (· != p) := by rw [h2]; exact hp
        exact (inl h3).2 rfl
    have hL2n : L2 ∉ D :: as := fun hm => by
      rcases List.mem_cons.mp hm with h | h
      · rw [h, hR3.1] at hL2; cases hL2
      · obtain ⟨i, hi, e'⟩ := List.getElem_of_mem h
        rw [hR3.2.2.2 i L2 (by rw [List.getElem?_eq_getElem hi, e'])] at hL2; cases hL2
    have hL2G : L2 ≠ G := fun e => by rw [e, hG3] at hL2; cases hL2
    have hit : ∀ (i : Nat) y, (nats (left.filter (· != p)))[i]? = some y → ∃ q : Nat, (left.filter (· != p))[i]? = some q ∧ y = V.int (q : Int) ∧ q ∈ left.filter (· != p) := fun i y hy => by
      rw [List.getElem?_map] at hy
      cases e : (left.filter (· != p))[i]? with
      | none => rw [e] at hy; cases hy
      | some q => rw [e] at hy; cases hy; exact ⟨q, rfl, rfl, List.mem_of_getElem? e⟩
    have hLa : L2 ∉ as := fun h => hL2n (List.mem_cons_of_mem _ h)
    have hDa : D ∉ as := (List.nodup_cons.mp hR4.2.2.1).1
    refine ForL (xs := nats (left.filter (· != p))) (a := L2) (fun i σ H5 => (∃ w7 w8 w9, σ = [some v, some (.ref D), some (.ref L2), some (.int ahead), some (.ref G), some (.int (p : Int)), some (.int (R p p)), w7, w8, w9]) ∧ Kp as H4 H5 ∧ ∃ R2, RowsAt H5 D as N R2 ∧
      (∀ x ∈ (left.filter (· != p)).take i, ∀ y ∈ left.filter (· != p), R2 x y = (R p p * R x y - R x p * R p y).fdiv ahead) ∧ (∀ x, x ∉ (left.filter (· != p)).take i → ∀ y, R2 x y = R x y) ∧ (∀ x y, y ∉ left.filter (· != p) → R2 x y = R x y)) (fun F f => ⟨_, rfl, f⟩) (.of hL4)
      ⟨⟨_, _, _, rfl⟩, Kp.refl _ _, R, hR4, fun x hx => (no0 hx).elim, fun _ _ _ => rfl, fun _ _ _ => rfl⟩ ?_ ?_ ?_
    · rintro i σ H5 _ ⟨_, kp, _⟩
      exact .of (kp _ _ hLa hL4)
    · rintro i y σ H5 hy ⟨⟨w7, w8, w9, rfl⟩, kp, R2, hR5, p1, p2, p3⟩
      obtain ⟨x0, hx0, rfl, hxm⟩ := hit i y hy
      have hxl := inl hxm
      have hxN := s.lt x0 hxl.1
      have hxt := not_take nd2 hx0
      obtain ⟨ax, b1, b2, b3⟩ := hR5.row hxN
      refine ⟨_, rfl, _, rfl, D, _, _, _, rfl, rfl, .of hR5.1, atI_nat b2, _, rfl, ax, _, _, _, rfl, rfl, .of b3, atI_rng rfl hpN, ?_⟩
      have eh : R2 x0 p = R x0 p := p2 x0 hxt p
      rw [eh]
      dsimp only [tSeq, tRet, tCB, tCall, tCons, tNext, gName, tAsg, tNil, tIfS, tOp, tC]
      refine ForL (xs := nats (left.filter (· != p))) (a := L2) (fun j σ H6 => (∃ w9, σ = [some v, some (.ref D), some (.ref L2), some (.int ahead), some (.ref G), some (.int (p : Int)), some (.int (R p p)), some (.int (x0 : Int)), some (.int (R x0 p)), w9]) ∧ Kp as H4 H6 ∧ ∃ R2, RowsAt H6 D as N R2 ∧
        (∀ x ∈ (left.filter (· != p)).take i, ∀ y ∈ left.filter (· != p), R2 x y = (R p p * R x y - R x p * R p y).fdiv ahead) ∧ (∀ x, x ∉ (left.filter (· != p)).take i → x ≠ x0 → ∀ y, R2 x y = R x y) ∧ (∀ x y, y ∉ left.filter (· != p) → R2 x y = R x y) ∧
        (∀ y ∈ (left.filter (· != p)).take j, R2 x0 y = (R p p * R x0 y - R x0 p * R p y).fdiv ahead) ∧ (∀ y, y ∉ (left.filter (· != p)).take j → R2 x0 y = R x0 y)) (fun F f => ⟨_, rfl, f⟩) (.of (kp _ _ hLa hL4))
        ⟨⟨_, rfl⟩, kp, R2, hR5, p1, fun x hx _ => p2 x hx, p3, fun x hx => (no0 hx).elim, fun y _ => p2 x0 hxt y⟩ ?_ ?_ ?_
      · rintro j σ H6 _ ⟨_, kp, _⟩
        exact .of (kp _ _ hLa hL4)
      · rintro j y σ H6 hy ⟨⟨w9, rfl⟩, kp, R3, hR6, q1, q2, q3, q4, q5⟩
        obtain ⟨y0, hy0, rfl, hym⟩ := hit j y hy
        have hyl := inl hym
        have hyN := s.lt y0 hyl.1
        have hyt := not_take nd2 hy0
        obtain ⟨bx, c1, c2, c3⟩ := hR6.row hxN
        obtain ⟨bp, c4, c5, c6⟩ := hR6.row hpN
        have v1 : R3 x0 y0 = R x0 y0 := q5 y0 hyt
        have v2 : R3 p y0 = R p y0 := q2 p (fun h => (inl (List.mem_of_mem_take h)).2 rfl) (fun e => hxl.2 e.symm) y0
        refine ⟨_, rfl, _, rfl, _, rfl, D, _, _, _, rfl, rfl, .of hR6.1, atI_nat c2, _, rfl, bx, _, _, .int (R x0 y0), rfl, rfl, .of c3, by rw [← v1]; exact atI_rng rfl hyN, _, _, rfl, rfl, Sm.mul (big (sizes hp hp)) (big (sizes hxl.1 hyl.1)), ?_⟩
        refine ⟨_, rfl, _, rfl, _, rfl, D, _, _, _, rfl, rfl, .of hR6.1, atI_nat c5, _, rfl, bp, _, _, .int (R p y0), rfl, rfl, .of c6, by rw [← v2]; exact atI_rng rfl hyN, _, _, rfl, rfl, Sm.mul (big (sizes hxl.1 hp)) (big (sizes hp hyl.1)), _, _, rfl, rfl, ?_⟩
        refine ⟨_, rfl, _, _, rfl, rfl, ⟨hne, PySem.Flt.log2_lt_of (by decide) sizeA⟩, ?_⟩
        refine ⟨_, rfl, _, rfl, D, _, _, _, rfl, rfl, .of hR6.1, atI_nat c2, _, rfl, bx, _, _, y0, rfl, rfl, c3, ixN_nat (by simpa using hyN), ⟨_, rfl⟩, ?_, fun a b => if a = x0 ∧ b = y0 then (R p p * R x0 y0 - R x0 p * R p y0).fdiv ahead else R3 a b, ?_, ?_, ?_, ?_, ?_, ?_⟩
        · intro z o hz ho
          rw [upd_ne (fun e => hz (by rw [e]; exact List.mem_of_getElem? c1))]
          exact kp z o hz ho
        · rw [rng_set (g := fun b => V.int (if x0 = x0 ∧ b = y0 then (R p p * R x0 y0 - R x0 p * R p y0).fdiv ahead else R3 x0 b)) hyN]
          · exact hR6.put (R' := fun a b => if a = x0 ∧ b = y0 then (R p p * R x0 y0 - R x0 p * R p y0).fdiv ahead else R3 a b) c1 fun t _ ht b _ => if_neg fun z => ht z.1
          · rw [if_pos ⟨rfl, rfl⟩]
          · intro m hm
            rw [if_neg (fun z => hm z.2)]
        · intro a ha b hb
          dsimp only
          rw [if_neg (fun z => hxt (by rw [← z.1]; exact ha))]
          exact q1 a ha b hb
        · intro a ha hax b
          dsimp only
          rw [if_neg (fun z => hax z.1)]
          exact q2 a ha hax b
        · intro a b hb
          dsimp only
          rw [if_neg (fun z => hb (by rw [z.2]; exact hym))]
          exact q3 a b hb
        · intro b hb
          dsimp only
          by_cases e : b = y0
          · rw [if_pos ⟨rfl, e⟩, e]
          · rw [if_neg (fun z => e z.2)]
            refine q4 b ?_
            rw [List.take_succ, hy0] at hb
            rcases List.mem_append.mp hb with h | h
            · exact h
            · exact absurd (by simpa using h) e
        · intro b hb
          rw [List.take_succ, hy0] at hb
          dsimp only
          rw [if_neg (fun z => hb (List.mem_append_right _ (by simp [z.2])))]
          exact q5 b fun h => hb (List.mem_append_left _ h)
      · rintro σ H6 ⟨⟨w9, rfl⟩, kp, R3, hR6, q1, q2, q3, q4, q5⟩
        refine ⟨⟨_, _, _, rfl⟩, kp, R3, hR6, ?_, ?_, q3⟩
        · intro a ha b hb
          rw [List.take_succ, hx0] at ha
          rcases List.mem_append.mp ha with h | h
          · exact q1 a h b hb
          · have : a = x0 := by simpa using h
            rw [this]
            exact q4 b (by rw [List.take_of_length_le (by simp)]; exact hb)
        · intro a ha b
          rw [List.take_succ, hx0] at ha
          exact q2 a (fun h => ha (List.mem_append_left _ h)) (fun e => ha (List.mem_append_right _ (by simp [e]))) b
    · rintro σ H5 ⟨⟨w7, w8, w9, rfl⟩, kp, R2, hR5, p1, p2, p3⟩
      rw [List.length_map, List.take_length] at p1
      have bi2 := pivot s.bi hp hpp (R' := R2) fun i hi j hj => p1 i hi j hj
      have s5 : Sg H H5 N B Orig D L2 G as (S ++ [p]) (left.filter (· != p)) R2 (R p p) t (sg ++ [x]) :=
        ⟨hR5, s.fr, kp _ _ hLa hL4, none_of ex3 hL2, hL2n, kp _ _ (fun h => s.Gn (List.mem_cons_of_mem _ h)) hG4, s.G0, s.Gn, hL2G, fun i hi => s.lt i (inl hi).1, bi2.pos' (by
          constructor
          · rintro ⟨h1, h2⟩ z hz
            rcases List.mem_append.mp hz with h | h
            · exact h1 z h
            · have : z = x := by simpa using h
              rw [this]; exact hx.mpr h2
          · intro h
            exact ⟨fun z hz => h z (List.mem_append_left _ hz), hx.mp (h x (by simp))⟩), fun z o ho => kp z o (fun hm => by
              have := s.fr z (List.mem_cons_of_mem _ hm)
              rw [this] at ho; cases ho) (e4 z o (ex3 z o ho)), by rw [List.length_append, List.length_append, slen]; rfl⟩
      refine ⟨_, rfl, _, rfl, _, rfl, ?_⟩
      dsimp only [tSeq, tRet, tCB, tCall, tCons, tNext, gName, tAsg, tNil, tIfS, tOp, tC]
      refine s5.place hN (by rw [List.length_append]; exact htS) fun H6 as6 R6 t6 pl6 s6 hpl6 => ?_
      exact ⟨_, len3, L2, as6, S ++ [p], left.filter (· != p), R6, R p p, t6, sg ++ [x], pl6, _, _, _, _, rfl, s6, hpl6, rfl⟩
end
end K66

set_option Elab.async false
set_option linter.all false
set_option maxRecDepth 100000
set_option maxHeartbeats 2000000
set_option exponentiation.threshold 100000
namespace K66
open PySem PySem.Spec PyProof.Rows L2
open Evl (Ex)
theorem rep_N0 {K : PySem.W.Frag} {H : Hp} : ∀ n, Paired (IsN K H) (List.replicate n (V.int 0)) (List.replicate n 0)
  | 0 => .nil
  | n + 1 => .cons (.inl ⟨0, rfl, rfl⟩) (rep_N0 n)
section
variable {P : Program} {w : World} {K : PySem.W.Frag} {mg : Str → Option Value} {base : Heap}
def spReal (K : PySem.W.Frag) : Sp := fun vs H Q _ => ∃ v, vs = [v] ∧ ∃ a, LsR K H v a ∧ a ≠ [] ∧ Tr a ∧ Fine a ∧ ∀ H' b, Ex H H' → (b = true ↔ RR (en a)) → Q (.bl b) H'
theorem sc_are_real : FnScope ["curve", "sign"] ["curve"] (defScope (tp 48)) := ⟨rfl, rfl, rfl, by decide +kernel, rfl, by decide +kernel, by decide +kernel⟩
theorem ok_are_real (T : Tx K mg) : Ok P w K mg base 6 "are_real" ["curve"] (spReal K) := by
  have O_signs_of := ok_signs_of (P := P) (w := w) (base := base) T
  refine T.d_are_real.ok sc_are_real (fun vs H Q E h => ?_) (fun _ _ _ _ _ _ us hl => match us, hl with | [_], _ => rfl) (fun cdv A outer s H vs Q E hr h => ?_)
  · obtain ⟨_, rfl, _⟩ := h
    rfl
  · refine ⟨_, (pss_one (ps_ret (pe_callB (cr_all (by rfl)) (by rfl) T.n_all (by decide +kernel) (pa_cons (pe_lc (own := [("sign", 1)]) rfl sc_are_real.nd (pi_list (pe_c O_signs_of (hr.mono (by decide)) (by rfl) (pa_cons (pv 0) pa_nil))) (blkOk_by (own := [("sign", 1)]) (N := ["curve", "sign"]) (sc := defScope (tp 48)) (by decide +kernel)) (fun _ _ _ _ _ => (pg_name (i := 1) sc_are_real.nd rfl (.inl rfl))) (fun _ _ _ _ _ => pts_nil) (fun _ _ _ _ _ => (pe_cmpR op_gt (pv 1) pe_int (nomark _)))) pa_nil)))), ?_⟩
    obtain ⟨v, rfl, a, hv, hne, ta, ⟨hl9, A, d, hA, hd, bd, hA1, hA2, hfit⟩, k⟩ := h
    obtain ⟨N, hN⟩ : ∃ N, a.length = N + 1 := ⟨a.length - 1, by
      cases a with
      | nil => exact absurd rfl hne
      | cons x l => simp⟩
    dsimp only [tSeq, tRet, tCB, tCall, tCons, tNext, gName, tAsg, tNil, tIfS, tOp, tC]
    refine tLc_list ?_
    refine ⟨_, rfl, _, rfl, a, A, d, N, hv, hN, by omega, ta, hA, hd, bd, hA1, hA2, by rw [hN] at hfit; exact hfit, fun z H1 sg e1 hz hs hsl => ?_⟩
    obtain ⟨p, rfl, hp⟩ := hz
    refine ⟨p, rfl, ⟨_, .of hp⟩, ?_⟩
    refine LcBL (sg.map fun s => decide (0 < s)) (R := IsB) rep_B (.of hp) (by simp) (by rw [List.length_map]; omega) ?_ ?_ ?_
    · exact fun _ => rfl
    · intro i x b H2 D zs hx hb e2 hD Q' q'
      rw [List.getElem?_map] at hx hb
      cases e : sg[i]? with
      | none => rw [e] at hx; cases hx
      | some s =>
        rw [e] at hx hb
        cases hx; cases hb
        exact ⟨_, rfl, _, _, rfl, rfl, q' _ _ (Evl.Ex.refl _) rfl (by intro e; cases e)⟩
    · intro D H2 zs hD e2 hz hp2
      refine ⟨D, _, rfl, .of (by rw [hz, bools_eq hp2]), ?_⟩
      refine k _ _ (e1.trans e2) ?_
      rw [← rr_any (n := N) (fun k hk => en_big (by omega)) (by omega), ← hs, List.all_map, List.all_eq_true]
      exact ⟨fun h s hs => of_decide_eq_true (h s hs), fun h s hs => decide_eq_true (h s hs)⟩
def spFenced (K : PySem.W.Frag) : Sp := fun vs H Q _ => ∃ v, vs = [v] ∧ ∃ a, SqN K H v a ∧ Fine a ∧ ∀ H' b, Ex H H' → (b = true ↔ trim a ≠ [] ∧ RR (en a)) → Q (.bl b) H'
theorem sc_is_fenced : FnScope ["curve", "plain_one"] ["curve"] (defScope (tp 49)) := ⟨rfl, rfl, rfl, by decide +kernel, rfl, by decide +kernel, by decide +kernel⟩
theorem ok_is_fenced (T : Tx K mg) : Ok P w K mg base 7 "is_fenced" ["curve"] (spFenced K) := by
  have O_want_curve := ok_want_curve (P := P) (w := w) (base := base) T
  have O_are_real := ok_are_real (P := P) (w := w) (base := base) T
  refine T.d_is_fenced.ok sc_is_fenced (fun vs H Q E h => ?_) (fun _ _ _ _ _ _ us hl => match us, hl with | [_], _ => rfl) (fun cdv A outer s H vs Q E hr h => ?_)
  · obtain ⟨_, rfl, _⟩ := h
    rfl
  · refine ⟨_, (pss_cons (ps_set (i := 1) sc_is_fenced.nd rfl (.inl rfl) (pe_c O_want_curve (hr.mono (by decide)) (by rfl) (pa_cons (pv 0) pa_nil)))
      (pss_one (ps_ret (pe_and (pe_cmpR op_gt (pe_callB (call_lenK (K := K) rfl) (by rfl) T.n_len (by decide +kernel) (pa_cons (pv 1) pa_nil)) pe_int (nomark _)) (pe_one (pe_c O_are_real (hr.mono (by decide)) (by rfl) (pa_cons (pv 1) pa_nil))))))), ?_⟩
    obtain ⟨v, rfl, a, hv, hf, k⟩ := h
    refine ⟨_, rfl, _, rfl, a, hv, by have := hf.1; omega, fun z H1 e1 hz => ?_⟩
    obtain ⟨p, xs, rfl, h1, h2⟩ := id hz
    have hl := h2.length
    refine ⟨_, rfl, p, xs, rfl, .inl (.of h1), _, _, rfl, rfl, _, rfl, ?_⟩
    refine ite2 (fun h => ?_) (fun h => ?_)
    · have h : (0 : Int) < (xs.length : Int) := of_decide_eq_true h
      have hne : trim a ≠ [] := fun e => by
        rw [e] at hl
        simp at hl
        rw [hl] at h
        simp at h
      refine ⟨_, rfl, _, rfl, trim a, hz, hne, tr_trim a, hf.trim, fun H2 b e2 hb => ?_⟩
      refine k _ _ (e1.trans e2) ?_
      rw [hb, en_trim']
      exact ⟨fun h => ⟨hne, h⟩, fun h => h.2⟩
    · have h : ¬ (0 : Int) < (xs.length : Int) := fun z => h (decide_eq_true z)
      refine k _ _ e1 ?_
      have e : trim a = [] := List.eq_nil_of_length_eq_zero (by omega)
      exact ⟨fun z => (by cases z), fun z => absurd e z.1⟩
def spKept (K : PySem.W.Frag) : Sp := fun vs H Q _ => ∃ v, vs = [v] ∧ ∃ a, LsR K H v a ∧ Tr a ∧ Fine a ∧ ∀ H' b, Ex H H' → (b = true ↔ RR (en a)) → Q (.bl b) H'
theorem sc_is_kept : FnScope ["image"] ["image"] (defScope (tp 52)) := ⟨rfl, rfl, rfl, by decide +kernel, rfl, by decide +kernel, by decide +kernel⟩
theorem ok_is_kept (T : Tx K mg) : Ok P w K mg base 8 "is_kept" ["image"] (spKept K) := by
  have O_is_fenced := ok_is_fenced (P := P) (w := w) (base := base) T
  refine T.d_is_kept.ok sc_is_kept (fun vs H Q E h => ?_) (fun _ _ _ _ _ _ us hl => match us, hl with | [_], _ => rfl) (fun cdv A outer s H vs Q E hr h => ?_)
  · obtain ⟨_, rfl, _⟩ := h
    rfl
  · refine ⟨_, (pss_one (ps_ret (pe_or (pe_cmpR (op_eqNil (Nat.lt_of_le_of_lt (Nat.le_trans (Nat.le_add_right _ _) (Nat.le_add_right _ _)) hr.un)) (pv 0) (pe_lst pa_nil) (nomark _)) (pe_one (pe_c O_is_fenced (hr.mono (by decide)) (by rfl) (pa_cons (pv 0) pa_nil)))))), ?_⟩
    obtain ⟨v, rfl, a, hv, ta, hf, k⟩ := h
    obtain ⟨p, xs, rfl, h1, h2⟩ := id hv
    have hl := h2.length
    refine ⟨_, rfl, (by show 0 ≤ sizeLine; decide), fun q hq => ?_⟩
    have e1 := Evl.Ex.new (o := .lst []) hq
    refine ⟨p, q, xs, rfl, rfl, .of (e1 _ _ h1), .of upd_same, ?_⟩
    cases a with
    | nil =>
      have : xs = [] := List.eq_nil_of_length_eq_zero hl
      subst this
      refine ⟨_, rfl, iteT (k _ _ e1 ?_)⟩
      exact ⟨fun _ => rr_nil rfl, fun _ => rfl⟩
    | cons x l =>
      cases xs with
      | nil => cases hl
      | cons y ys =>
        refine ⟨_, rfl, iteF ⟨_, rfl, _, rfl, _, (hv.mono e1).sqN, hf, fun H' b e2 hb => k _ _ (e1.trans e2) ?_⟩⟩
        rw [hb, trim_of_tr ta]
        exact ⟨fun h => h.2, fun h => ⟨by simp, h⟩⟩
def spPow (K : PySem.W.Frag) : Sp := fun vs H Q _ => ∃ n : Nat, vs = [.int (n : Int)] ∧ n ≤ 8 ∧ ∀ z H', Ex H H' → LsR K H' z (powL n) → Q z H'
theorem sc_power_of : FnScope ["many"] ["many"] (defScope (tp 54)) := ⟨rfl, rfl, rfl, by decide +kernel, rfl, by decide +kernel, by decide +kernel⟩
theorem ok_power_of (T : Tx K mg) : Ok P w K mg base 7 "power_of" ["many"] (spPow K) := by
  have O_plain := ok_plain (P := P) (w := w) (base := base) T
  refine T.d_power_of.ok sc_power_of (fun vs H Q E h => ?_) (fun _ _ _ _ _ _ us hl => match us, hl with | [_], _ => rfl) (fun cdv A outer s H vs Q E hr h => ?_)
  · obtain ⟨_, rfl, _⟩ := h
    rfl
  · refine ⟨_, (pss_one (ps_ret (pe_c O_plain (hr.mono (by decide)) (by rfl) (pa_cons (pe_op op_cat (pe_op op_rep (pe_lst (pa_cons pe_int pa_nil)) (pv 0)) (pe_lst (pa_cons pe_int pa_nil))) pa_nil)))), ?_⟩
    obtain ⟨n, rfl, hn, k⟩ := h
    refine ⟨(by show 1 ≤ sizeLine; decide), fun p hp => ?_⟩
    refine ⟨_, rfl, p, _, _, rfl, rfl, upd_same, by omega, by omega, ?_, fun q hq => ?_⟩
    · rw [Int.toNat_natCast]
      exact Nat.le_trans (by simp; omega : _ ≤ 8) (by decide)
    rw [Int.toNat_natCast]
    refine ⟨(by show 1 ≤ sizeLine; decide), fun r hr => ?_⟩
    have e1 := Evl.Ex.new (o := .lst [V.int 0]) hp
    have e2 := Evl.Ex.new (o := .lst (List.replicate n [V.int 0]).flatten) hq
    have e3 := Evl.Ex.new (o := .lst [V.int 1]) hr
    have hfl : (List.replicate n [V.int 0]).flatten = List.replicate n (V.int 0) := by simp
    refine ⟨q, r, _, _, rfl, rfl, e3 _ _ upd_same, upd_same, ?_, fun s hs => ?_⟩
    · rw [hfl]
      exact Nat.le_trans (by simp; omega : _ ≤ 9) (by decide)
    have e4 := Evl.Ex.new (o := .lst ((List.replicate n [V.int 0]).flatten ++ [V.int 1])) hs
    refine ⟨_, rfl, powL n, ⟨s, _, rfl, .inl upd_same, ?_⟩, by rw [powL_len]; omega, fun z H' e5 hz => ?_⟩
    · rw [hfl]
      unfold powL
      exact p2_app (rep_N0 n) (.cons (.inl ⟨1, rfl, rfl⟩) .nil)
    · rw [trim_powL] at hz
      exact k z H' ((((e1.trans e2).trans e3).trans e4).trans e5) hz
def spImage (K : PySem.W.Frag) : Sp := fun vs H Q _ => ∃ v u, vs = [v, u] ∧ ∃ a qs, LsR K H v a ∧ LsR K H u qs ∧ a.length ≤ 9 ∧ qs.length ≤ 9 ∧ (∃ A d B e, InL A d a ∧ InL B e qs ∧ 0 < d ∧ 0 < e ∧ 1 ≤ A ∧ 1 ≤ B ∧ A * B * 10 ^ 9 < 2 ^ 3000 ∧ d * e < 2 ^ 3000) ∧ ∀ z H', Ex H H' → LsR K H' z (imgL [] a qs) → Q z H'
theorem sc_image_by : FnScope ["told", "numbers", "found", "left", "number"] ["told", "numbers"] (defScope (tp 55)) := ⟨rfl, rfl, rfl, by decide +kernel, rfl, by decide +kernel, by decide +kernel⟩
theorem ok_image_by (T : Tx K mg) : Ok P w K mg base 7 "image_by" ["told", "numbers"] (spImage K) := by
  have O_plus := ok_plus (P := P) (w := w) (base := base) T
  have O_derived := ok_derived (P := P) (w := w) (base := base) T
  have O_scaled := ok_scaled (P := P) (w := w) (base := base) T
  refine T.d_image_by.ok sc_image_by (fun vs H Q E h => ?_) (fun _ _ _ _ _ _ us hl => match us, hl with | [_, _], _ => rfl) (fun cdv A outer s H vs Q E hr h => ?_)
  · obtain ⟨_, _, rfl, _⟩ := h
    rfl
  · refine ⟨_, (pss_cons (ps_par (i := 2) (j := 3) rfl sc_image_by.nd rfl rfl (by decide) rfl rfl (pa_cons (pe_lst pa_nil) (pa_cons (pv 0) pa_nil)) (by rfl))
      (pss_cons (ps_for PassesOwn.never rfl (pi_list (pv 1)) (pg_name (i := 4) sc_image_by.nd rfl (.inl rfl)) (pss_cons (ps_set (i := 2) sc_image_by.nd rfl (.inl rfl) (pe_c O_plus (hr.mono (by decide)) (by rfl) (pa_cons (pv 2) (pa_cons (pe_c O_scaled (hr.mono (by decide)) (by rfl) (pa_cons (pv 3) (pa_cons (pv 4) pa_nil))) pa_nil))))
      (pss_one (ps_set (i := 3) sc_image_by.nd rfl (.inl rfl) (pe_c O_derived (hr.mono (by decide)) (by rfl) (pa_cons (pv 3) pa_nil))))))
      (pss_one (ps_ret (pv 2))))), ?_⟩
    obtain ⟨v, u, rfl, a, qs, hv, hu, la, lq, ⟨A, d, B, e, hA, hB, hd, he, hA1, hB1, hAB, hde⟩, k⟩ := h
    obtain ⟨p, xs, rfl, h1, h2⟩ := id hu
    have hl := h2.length
    refine ⟨(by show 0 ≤ sizeLine; decide), fun D hD => ?_⟩
    have e1 := Evl.Ex.new (o := .lst []) hD
    refine ⟨_, rfl, _, _, rfl, ?_⟩
    dsimp only [tSeq, tRet, tCB, tCall, tCons, tNext, gName, tAsg, tNil, tIfS, tOp, tC]
    have be : e < 2 ^ 3000 := Nat.lt_of_le_of_lt (Nat.le_mul_of_pos_left e hd) hde
    have bd : d < 2 ^ 3000 := Nat.lt_of_le_of_lt (Nat.le_mul_of_pos_right d he) hde
    have p10 : ∀ n, n ≤ 9 → 10 ^ n ≤ 10 ^ 9 := fun n hn => Nat.pow_le_pow_right (by decide) hn
    have p9 : ∀ n, n ≤ 9 → 9 ^ n ≤ 10 ^ 9 := fun n hn => Nat.le_trans (Nat.pow_le_pow_left (by decide) n) (p10 n hn)
    have bF : ∀ n, n ≤ 9 → A * B * 10 ^ n < 2 ^ 3000 := fun n hn => Nat.lt_of_le_of_lt (Nat.mul_le_mul_left _ (p10 n hn)) hAB
    have bL : ∀ n, n ≤ 9 → A * 9 ^ n < 2 ^ 3000 := fun n hn => Nat.lt_of_le_of_lt (Nat.mul_le_mul (Nat.le_mul_of_pos_right A hB1) (p9 n hn)) hAB
    have bB : B < 2 ^ 3000 := Nat.lt_of_le_of_lt (Nat.le_trans (Nat.le_mul_of_pos_left B hA1) (Nat.le_mul_of_pos_right _ (by decide))) hAB
    have bLB : ∀ n, n ≤ 9 → A * 9 ^ n * B < 2 ^ 3000 := fun n hn => by
      rw [Nat.mul_right_comm]
      exact Nat.lt_of_le_of_lt (Nat.mul_le_mul_left _ (p9 n hn)) hAB
    refine ForL (xs := xs) (a := p) (fun i σ H' => ∃ x y w4 f l, σ = [some v, some (.ref p), some x, some y, w4] ∧ Ex H H' ∧ LsR K H' x f ∧ LsR K H' y l ∧ f.length ≤ 9 ∧ l.length ≤ 9 ∧ InL (A * B * 10 ^ i) (d * e) f ∧ InL (A * 9 ^ i) d l ∧ imgL f l (qs.drop i) = imgL [] a qs) (fun F f => ⟨_, rfl, f⟩) (.of (e1 _ _ h1)) ⟨_, _, _, [], a, rfl, e1, ⟨D, [], rfl, upd_same, .nil⟩, hv.mono e1, by simp, la, InL.nil _ _, by rw [Nat.pow_zero, Nat.mul_one]; exact hA, rfl⟩ ?_ ?_ ?_
    · rintro i σ H' _ ⟨_, _, _, _, _, rfl, ex, _⟩
      exact .of (ex _ _ h1)
    · rintro i x σ H' hx ⟨y, z, w4, f, l, rfl, ex, hf, hl', lf, ll, bf, bl, hi⟩
      obtain ⟨q, hq, rq⟩ := p2_left h2 hx
      have hin : i < 9 := by
        have := (List.getElem?_eq_some_iff.mp hq).1
        omega
      have hqB := hB q (List.mem_of_getElem? hq)
      obtain ⟨t1, t2, t3, t4, t5⟩ := img_turn bf bl hqB lf ll
      have q1 := byN_len (trim l) q
      have q2 := trim_len l
      refine ⟨_, rfl, _, rfl, _, rfl, _, _, rfl, l, q, hl'.sqN, .inr (rq.mono ex), by omega, bl.sz hd (bL i (by omega)) bd, hqB.sz he bB be, fun z1 H1 e2 hz1 => ?_⟩
      refine ⟨_, _, rfl, f, byN (trim l) q, (hf.mono e2).sqN, hz1.sqN, by omega, by omega, bf.sz (Nat.mul_pos hd he) (bF i (by omega)) hde, t1.sz (Nat.mul_pos hd he) (bLB i (by omega)) hde, fun z2 H2 e3 hz2 => ?_⟩
      refine ⟨_, rfl, _, rfl, l, ((hl'.mono e2).mono e3).sqN, by omega, bl.sz hd (bL i (by omega)) bd, fun z3 H3 e4 hz3 => ?_⟩
      refine ⟨_, _, _, _, _, rfl, ((ex.trans e2).trans e3).trans e4, hz2.mono e4, hz3, t4, t5, t2, t3, ?_⟩
      obtain ⟨hq1, hq2⟩ := List.getElem?_eq_some_iff.mp hq
      rw [← hi, List.drop_eq_getElem_cons hq1, hq2]; rfl
    · rintro σ H' ⟨y, z, w4, f, l, rfl, ex, hf, hl', lf, ll, bf, bl, hi⟩
      rw [hl, List.drop_length] at hi
      exact ⟨_, rfl, k _ _ ex (by rw [← hi]; exact hf)⟩
end
end K66

set_option Elab.async false
set_option linter.all false
set_option maxRecDepth 100000
set_option maxHeartbeats 2000000
set_option exponentiation.threshold 100000
namespace K66
open PySem PySem.Spec PyProof.Rows L2
open Evl (Ex)
theorem make_RA {K : PySem.W.Frag} {t b : Int} (hb : 0 < b) (hz : b.natAbs < 2 ^ 8000) {H : Hp} {Q : Addr → Hp → Prop} (q : ∀ x H', Ex H H' → IsR K H' (.ref x) (Rat.divInt t b) → Q x H') :
    ∀ x dx, H x = none → H dx = none → dx ≠ x → spInit K [.ref x, .int t, .int b] (upd (upd H dx (.own x)) x (.ins (RC K) dx [])) (fun v H2 => v = .non ∧ Q x H2) E0 := by
  intro x dx hx hd hne
  refine ⟨x, t, b, dx, rfl, hb, hz, upd_same, rfl, ?_⟩
  rw [upd_upd]
  refine q _ _ (fun a o ha => ?_) ⟨x, dx, rfl, upd_same⟩
  rw [upd_ne (ne_of_none ha hx), upd_ne (ne_of_none ha hd)]
  exact ha
section
variable {P : Program} {w : World} {K : PySem.W.Frag} {mg : Str → Option Value} {base : Heap}
def spShifted (K : PySem.W.Frag) : Sp := fun vs H Q _ => ∃ v u, vs = [v, u] ∧ ∃ a qs, SqN K H v a ∧ SqN K H u qs ∧ ImgOk a qs ∧ ∀ z H', Ex H H' → LsR K H' z (imgL [] (trim a) (trim qs)) → Q z H'
theorem sc_shifted : FnScope ["curve", "rule", "told"] ["curve", "rule"] (defScope (tp 56)) := ⟨rfl, rfl, rfl, by decide +kernel, rfl, by decide +kernel, by decide +kernel⟩
theorem ok_shifted (T : Tx K mg) : Ok P w K mg base 8 "shifted" ["curve", "rule"] (spShifted K) := by
  have O_want_curve := ok_want_curve (P := P) (w := w) (base := base) T
  have O_image_by := ok_image_by (P := P) (w := w) (base := base) T
  refine T.d_shifted.ok sc_shifted (fun vs H Q E h => ?_) (fun _ _ _ _ _ _ us hl => match us, hl with | [_, _], _ => rfl) (fun cdv A outer s H vs Q E hr h => ?_)
  · obtain ⟨_, _, rfl, _⟩ := h
    rfl
  · refine ⟨_, (pss_cons (ps_set (i := 2) sc_shifted.nd rfl (.inl rfl) (pe_c O_want_curve (hr.mono (by decide)) (by rfl) (pa_cons (pv 0) pa_nil)))
      (pss_one (ps_ret (pe_c O_image_by (hr.mono (by decide)) (by rfl) (pa_cons (pv 2) (pa_cons (pe_c O_want_curve (hr.mono (by decide)) (by rfl) (pa_cons (pv 1) pa_nil)) pa_nil)))))), ?_⟩
    obtain ⟨v, u, rfl, a, qs, hv, hu, ⟨la, lq, A, d, B, e, h1, h2, h3, h4, h5, h6, h7, h8⟩, k⟩ := h
    refine ⟨_, rfl, _, rfl, a, hv, by omega, fun x H1 e1 hx => ?_⟩
    refine ⟨_, rfl, _, rfl, _, rfl, qs, hu.mono e1, by omega, fun y H2 e2 hy => ?_⟩
    exact ⟨_, _, rfl, trim a, trim qs, hx.mono e2, hy, Nat.le_trans (trim_len a) la, Nat.le_trans (trim_len qs) lq, ⟨A, d, B, e, h1.trim, h2.trim, h3, h4, h5, h6, h7, h8⟩, fun z H3 e3 r => k z H3 ((e1.trans e2).trans e3) r⟩
def spPowIm (K : PySem.W.Frag) : Sp := fun vs H Q _ => ∃ v, ∃ n : Nat, vs = [v, .int (n : Int)] ∧ ∃ qs, SqN K H v qs ∧ n ≤ 8 ∧ RuleOk qs ∧ ∀ z H', Ex H H' → LsR K H' z (pim n qs) → Q z H'
theorem sc_power_image : FnScope ["rule", "many", "told"] ["rule", "many"] (defScope (tp 57)) := ⟨rfl, rfl, rfl, by decide +kernel, rfl, by decide +kernel, by decide +kernel⟩
theorem ok_power_image (T : Tx K mg) : Ok P w K mg base 8 "power_image" ["rule", "many"] (spPowIm K) := by
  have O_want_curve := ok_want_curve (P := P) (w := w) (base := base) T
  have O_want_many := ok_want_many (P := P) (w := w) (base := base) T
  have O_image_by := ok_image_by (P := P) (w := w) (base := base) T
  have O_power_of := ok_power_of (P := P) (w := w) (base := base) T
  refine T.d_power_image.ok sc_power_image (fun vs H Q E h => ?_) (fun _ _ _ _ _ _ us hl => match us, hl with | [_, _], _ => rfl) (fun cdv A outer s H vs Q E hr h => ?_)
  · obtain ⟨_, _, rfl, _⟩ := h
    rfl
  · refine ⟨_, (pss_cons (ps_set (i := 2) sc_power_image.nd rfl (.inl rfl) (pe_c O_want_curve (hr.mono (by decide)) (by rfl) (pa_cons (pv 0) pa_nil)))
      (pss_cons (ps_expr (pe_c O_want_many (hr.mono (by decide)) (by rfl) (pa_cons (pv 1) (pa_cons (pe_glob (v := .int 8) (by rfl) T.k_MOST_COINS.choose_spec ⟨_, rfl⟩) pa_nil))))
      (pss_one (ps_ret (pe_c O_image_by (hr.mono (by decide)) (by rfl) (pa_cons (pe_c O_power_of (hr.mono (by decide)) (by rfl) (pa_cons (pv 1) pa_nil)) (pa_cons (pv 2) pa_nil))))))), ?_⟩
    obtain ⟨v, n, rfl, qs, hv, hn, hq, k⟩ := h
    refine ⟨_, rfl, _, rfl, qs, hv, by have := hq.1; omega, fun x H1 e1 hx => ?_⟩
    refine ⟨_, rfl, _, _, rfl, by omega, by omega, ?_⟩
    refine ⟨_, rfl, n, rfl, hn, fun y H2 e2 hy => ?_⟩
    obtain ⟨g1, g2, g3⟩ := hq.img hn
    exact ⟨_, rfl, _, _, rfl, powL n, trim qs, hy, hx.mono e2, g1, g2, g3, fun z H3 e3 r => k z H3 ((e1.trans e2).trans e3) r⟩
def spKeeps (K : PySem.W.Frag) : Sp := fun vs H Q _ => ∃ v, ∃ n : Nat, vs = [v, .int (n : Int)] ∧ ∃ qs, SqN K H v qs ∧ n ≤ 8 ∧ RuleFine n qs ∧ ∀ H' b, Ex H H' → (b = true ↔ RR (img qs (mono n))) → Q (.bl b) H'
theorem sc_keeps_fenced : FnScope ["rule", "many"] ["rule", "many"] (defScope (tp 58)) := ⟨rfl, rfl, rfl, by decide +kernel, rfl, by decide +kernel, by decide +kernel⟩
theorem ok_keeps_fenced (T : Tx K mg) : Ok P w K mg base 9 "keeps_fenced" ["rule", "many"] (spKeeps K) := by
  have O_is_kept := ok_is_kept (P := P) (w := w) (base := base) T
  have O_power_image := ok_power_image (P := P) (w := w) (base := base) T
  refine T.d_keeps_fenced.ok sc_keeps_fenced (fun vs H Q E h => ?_) (fun _ _ _ _ _ _ us hl => match us, hl with | [_, _], _ => rfl) (fun cdv A outer s H vs Q E hr h => ?_)
  · obtain ⟨_, _, rfl, _⟩ := h
    rfl
  · refine ⟨_, (pss_one (ps_ret (pe_c O_is_kept (hr.mono (by decide)) (by rfl) (pa_cons (pe_c O_power_image (hr.mono (by decide)) (by rfl) (pa_cons (pv 0) (pa_cons (pv 1) pa_nil))) pa_nil)))), ?_⟩
    obtain ⟨v, n, rfl, qs, hv, hn, hq, k⟩ := h
    refine ⟨_, rfl, _, rfl, v, n, rfl, qs, hv, hn, hq.ok, fun z H1 e1 hz => ?_⟩
    refine ⟨_, rfl, _, hz, tr_pim n qs, hq.fine hn, fun H2 b e2 hb => k _ _ (e1.trans e2) ?_⟩
    rw [hb, en_pim]
def spRuleTo (K : PySem.W.Frag) : Sp := fun vs H Q _ => ∃ v, ∃ n : Nat, vs = [v, .int (n : Int)] ∧ ∃ a, SqN K H v a ∧ n ≤ 8 ∧ a.length ≤ 9 ∧ (trim a).length ≤ n + 1 ∧ (∃ A d, InL A d a ∧ 0 < d ∧ A < 2 ^ 1000 ∧ d < 2 ^ 1000) ∧ ∀ z H', Ex H H' → LsR K H' z (rtL a n) → Q z H'
theorem sc_rule_to : FnScope ["curve", "many", "told", "entries", "found", "part", "place"] ["curve", "many"] (defScope (tp 59)) := ⟨rfl, rfl, rfl, by decide +kernel, rfl, by decide +kernel, by decide +kernel⟩
theorem ok_rule_to (T : Tx K mg) : Ok P w K mg base 7 "rule_to" ["curve", "many"] (spRuleTo K) := by
  have O_want_curve := ok_want_curve (P := P) (w := w) (base := base) T
  have O_want_many := ok_want_many (P := P) (w := w) (base := base) T
  have O_plain := ok_plain (P := P) (w := w) (base := base) T
  have O_degree := ok_degree (P := P) (w := w) (base := base) T
  have O_init1 := ok_init1 (P := P) (w := w) (base := base) T
  have O_over := ok_Ratio_over (P := P) (w := w) (base := base) T
  have O___mul__ := ok_Ratio___mul__ (P := P) (w := w) (base := base) T
  refine T.d_rule_to.ok sc_rule_to (fun vs H Q E h => ?_) (fun _ _ _ _ _ _ us hl => match us, hl with | [_, _], _ => rfl) (fun cdv A outer s H vs Q E hr h => ?_)
  · obtain ⟨_, _, rfl, _⟩ := h
    rfl
  · refine ⟨_, (pss_cons (ps_set (i := 2) sc_rule_to.nd rfl (.inl rfl) (pe_c O_want_curve (hr.mono (by decide)) (by rfl) (pa_cons (pv 0) pa_nil)))
      (pss_cons (ps_expr (pe_c O_want_many (hr.mono (by decide)) (by rfl) (pa_cons (pv 1) (pa_cons (pe_glob (v := .int 8) (by rfl) T.k_MOST_COINS.choose_spec ⟨_, rfl⟩) pa_nil))))
      (pss_cons (ps_if (pt_cmpR op_gt (pe_c O_degree (hr.mono (by decide)) (by rfl) (pa_cons (pv 2) pa_nil)) (pv 1) (nomark _)) (pss_one ps_never) pss_nil)
      (pss_cons (ps_set (i := 3) sc_rule_to.nd rfl (.inl rfl) (pe_callTy call_list_of (by rfl) T.n_list (by decide +kernel) (pa_cons (pv 2) pa_nil)))
      (pss_cons (ps_while PassesOwn.never (pt_cmpR op_le (pe_callB (call_lenK (K := K) rfl) (by rfl) T.n_len (by decide +kernel) (pa_cons (pv 3) pa_nil)) (pv 1) (nomark _)) (pss_one (ps_expr (pe_bm PySem.F.plainAttrs_list PySem.F.slot_list_append PySem.F.type_list_append mt_append (pv 3) (pa_cons (pe_mkRK (K := K) rfl T O_init1 (hr.mono (by decide)) (by rfl) (pa_cons pe_int pa_nil)) pa_nil)))))
      (pss_cons (ps_par (i := 4) (j := 5) rfl sc_rule_to.nd rfl rfl (by decide) rfl rfl (pa_cons (pe_lst pa_nil) (pa_cons (pe_mkRK (K := K) rfl T O_init1 (hr.mono (by decide)) (by rfl) (pa_cons pe_int pa_nil)) pa_nil)) (by rfl))
      (pss_cons (ps_for PassesOwn.never rfl (pi_range1 (by rfl) T.n_range (pa_cons (pe_op op_add (pv 1) pe_int) pa_nil)) (pg_name (i := 6) sc_rule_to.nd rfl (.inl rfl)) (pss_cons (ps_expr (pe_bm PySem.F.plainAttrs_list PySem.F.slot_list_append PySem.F.type_list_append mt_append (pv 4) (pa_cons (pe_op (op_mulK (K := K) rfl T O___mul__ (hr.mono (by decide))) (pe_ix (ix_listK (K := K) rfl) (pv 3) (pe_op op_sub (pv 1) (pv 6)) (fun _ _ => rfl)) (pv 5)) pa_nil)))
      (pss_one (ps_if (pt_cmpR op_lt (pv 6) (pv 1) (nomark _)) (pss_one (ps_set (i := 5) sc_rule_to.nd rfl (.inl rfl) (pe_over T O_over (hr.mono (by decide)) (pv 5) (pa_cons (pe_op op_sub (pv 1) (pv 6)) pa_nil)))) pss_nil))))
      (pss_one (ps_ret (pe_c O_plain (hr.mono (by decide)) (by rfl) (pa_cons (pv 4) pa_nil))))))))))), ?_⟩
    obtain ⟨v, n, rfl, a, hv, hn, hl9, hln, ⟨A, d, hA, hd, bA, bd⟩, k⟩ := h
    refine ⟨_, rfl, _, rfl, a, hv, by omega, fun x H1 e1 hx => ?_⟩
    refine ⟨_, rfl, _, _, rfl, by omega, by omega, ?_⟩
    refine ⟨_, rfl, _, rfl, trim a, hx.sqN, by omega, fun H2 e2 => ?_⟩
    rw [trim_of_tr (tr_trim a)]
    refine ⟨_, rfl, _, _, rfl, rfl, _, rfl, ?_⟩
    rw [decide_eq_false (by omega)]
    refine iteF ?_
    have hx2 := hx.mono e2
    obtain ⟨p, xs, rfl, h1, h2⟩ := id hx2
    have hxl := h2.length
    refine ⟨_, rfl, p, xs, rfl, .inl (.of h1), fun E hE => ?_⟩
    have e3 := Evl.Ex.new (o := .lst xs) hE
    have hE0 : H E = none := none_of (e1.trans e2) hE
    refine ⟨fun m σ H' => ∃ zs es, σ = [some v, some (.int (n : Int)), some (.ref p), some (.ref E), none, none, none] ∧ Ex H H' ∧ H' E = some (.lst zs) ∧ Paired (IsR K H') zs es ∧ (∀ k, en es k = en a k) ∧ es.length ≤ n + 1 ∧ m = n + 1 - es.length, ⟨_, xs, trim a, rfl, (e1.trans e2).trans e3, upd_same, p2_mono (fun _ _ r => r.mono e3) h2, en_trim a, hln, rfl⟩, ?_⟩
    rintro m σ H' ⟨zs, es, rfl, ex, hz, hp, hes, hel, rfl⟩
    have hzl := hp.length
    refine ⟨_, rfl, E, zs, rfl, .inl (.of hz), _, rfl, _, _, rfl, rfl, _, rfl, ?_⟩
    refine ite2 (fun h => ?_) (fun h => ?_)
    · have h : (zs.length : Int) ≤ (n : Int) := of_decide_eq_true h
      refine ⟨_, fun _ _ z => z, ?_⟩
      refine ⟨_, rfl, .inl ⟨rfl, _, .of hz⟩, ?_⟩
      dsimp only [tCons, tMake, tNil, tC, List.cons_append, List.nil_append]
      refine make_RA (t := 0) (b := 1) (by decide) (by decide +kernel) fun z H3 e4 hr => ?_
      refine ⟨E, zs, .ref z, rfl, rfl, e4 _ _ hz, Nat.lt_of_lt_of_le (by omega : zs.length < 100) (by decide), ?_⟩
      refine ⟨_, ?_, _, es ++ [0], rfl, Evl.Ex.mut (ex.trans e4) hE0, upd_same, ?_, ?_, ?_, rfl⟩
      · rw [List.length_append, List.length_singleton]; omega
      · exact p2_app (lsR_put (e4 _ _ hz) (p2_mono (fun _ _ r => r.mono e4) hp)) (.cons (isR_put (e4 _ _ hz) hr) .nil)
      · intro k
        rw [← hes k]
        unfold en
        rw [List.getD_eq_getElem?_getD, List.getD_eq_getElem?_getD, List.getElem?_append]
        split
        · rfl
        · rename_i h
          rw [List.getElem?_eq_none (by omega : es.length ≤ k)]
          cases k - es.length <;> rfl
      · rw [List.length_append, List.length_singleton]; omega
    · have h : ¬ (zs.length : Int) ≤ (n : Int) := fun z => h (decide_eq_true z)
      have hzn : es.length = n + 1 := by omega
      refine ⟨(by show 0 ≤ sizeLine; decide), fun F hF => ?_⟩
      have e4 := Evl.Ex.new (o := .lst []) hF
      have hFE : F ≠ E := fun e => by rw [e, hz] at hF; cases hF
      have hF0 := none_of ex hF
      dsimp only [tCons, tMake, tNil, tC, List.cons_append, List.nil_append]
      refine make_RA (t := 1) (b := 1) (by decide) (by decide +kernel) fun z H3 e5 hr => ?_
      refine ⟨_, _, rfl, ?_⟩
      have r1 : Rat.divInt 1 1 = pf n 0 := by
        show Rat.divInt 1 1 = 1
        decide +kernel
      rw [r1] at hr
      dsimp only [tSeq, tRet, tCB, tCall, tCons, tNext, gName, tAsg, tNil, tIfS, tOp, tC]
      refine ForR1 (n + 1) (fun i σ H' => ∃ fs y w6, σ = [some v, some (.int (n : Int)), some (.ref p), some (.ref E), some (.ref F), some y, w6] ∧ Ex H H' ∧ H' E = some (.lst zs) ∧ Paired (IsR K H') zs es ∧ H' F = some (.lst fs) ∧ Paired (IsR K H') fs ((List.range i).map fun j => en a (n - j) * pf n j) ∧ (i ≤ n → IsR K H' y (pf n i))) (fun G f => ⟨_, rfl, _, _, rfl, rfl, f⟩) (by omega) ⟨[], .ref z, none, rfl, (ex.trans e4).trans e5, e5 _ _ (e4 _ _ hz), p2_mono (fun _ _ r => (r.mono e4).mono e5) hp, e5 _ _ upd_same, .nil, fun _ => hr⟩ ?_ ?_
      · rintro i σ H4 hi ⟨fs, y, w6, rfl, ex4, hz4, hp4, hF4, hf4, hy4⟩
        have hy := hy4 (by omega)
        have hi8 : i ≤ 8 := by omega
        have pin := pf_in hn hi8
        have psz : Sz (pf n i) := pin.sz (by decide) (Nat.lt_of_lt_of_le (by decide : 40320 < 2 ^ 16) (Nat.pow_le_pow_right (by decide) (by decide))) (Nat.lt_of_lt_of_le (by decide : 40320 < 2 ^ 16) (Nat.pow_le_pow_right (by decide) (by decide)))
        have asz : Sz (en a (n - i)) := (hA.en _).sz hd (Nat.lt_of_lt_of_le bA (Nat.pow_le_pow_right (by decide) (by decide))) (Nat.lt_of_lt_of_le bd (Nat.pow_le_pow_right (by decide) (by decide)))
        obtain ⟨x, hx, rx⟩ := p2_right hp4 (get_en (l := es) (k := n - i) (by omega))
        rw [hes] at rx
        have hfl := hf4.length
        rw [List.length_map, List.length_range] at hfl
        refine ⟨_, rfl, .inl ⟨rfl, _, .of hF4⟩, ?_⟩
        refine ⟨_, rfl, _, rfl, _, rfl, _, _, rfl, rfl, E, zs, _, x, rfl, rfl, .of hz4, by rw [show (n : Int) - (i : Int) = ((n - i : Nat) : Int) by omega]; exact atI_nat hx, ?_⟩
        refine ⟨_, rfl, ?_⟩
        refine rd_RR rx hy asz psz fun z5 H5 e5 hz5 => ?_
        refine ⟨F, fs, z5, rfl, rfl, e5 _ _ hF4, Nat.lt_of_lt_of_le (by omega : fs.length < 100) (by decide), ?_⟩
        have hF5 := e5 _ _ hF4
        have exn := Evl.Ex.mut (o := .lst (fs ++ [z5])) (ex4.trans e5) hF0
        have hz6 : (upd H5 F (.lst (fs ++ [z5]))) E = some (.lst zs) := by rw [upd_ne (fun e => hFE e.symm)]; exact e5 _ _ hz4
        have hp6 := lsR_put (o := .lst (fs ++ [z5])) hF5 (p2_mono (fun _ _ r => r.mono e5) hp4)
        have hf6 : Paired (IsR K (upd H5 F (.lst (fs ++ [z5])))) (fs ++ [z5]) ((List.range (i + 1)).map fun j => en a (n - j) * pf n j) := by
          rw [← rng_snoc]
          exact p2_app (lsR_put hF5 (p2_mono (fun _ _ r => r.mono e5) hf4)) (.cons (isR_put hF5 hz5) .nil)
        have hy6 := isR_put (o := .lst (fs ++ [z5])) hF5 (hy.mono e5)
        have hF6 : (upd H5 F (.lst (fs ++ [z5]))) F = some (.lst (fs ++ [z5])) := upd_same
        generalize upd H5 F (.lst (fs ++ [z5])) = H6 at *
        refine ⟨_, rfl, _, rfl, _, _, rfl, rfl, _, rfl, ?_⟩
        refine ite2 (fun h => ?_) (fun h => ?_)
        · have h : (i : Int) < (n : Int) := of_decide_eq_true h
          obtain ⟨b, dx, rfl, hb⟩ := id hy6
          refine ⟨_, rfl, b, dx, _, rfl, hb, rf_no _ (by decide +kernel) (by decide +kernel), ?_⟩
          refine ⟨_, rfl, _, rfl, _, _, rfl, rfl, _, _, rfl, pf n i, (((n - i : Nat) : Int) : Rat), hy6, .inl ⟨_, rfl, by rw [show (n : Int) - (i : Int) = ((n - i : Nat) : Int) by omega]⟩, psz, sz_small (by rw [Int.natAbs_natCast]; exact Nat.lt_of_lt_of_le (by omega : n - i < 100) (by decide)), (show 0 < ((((n - i : Nat) : Int) : Rat)).num by rw [Rat.num_intCast]; omega), fun z7 H7 e7 hz7 => ?_⟩
          refine ⟨_, _, _, rfl, exn.trans e7, e7 _ _ hz6, p2_mono (fun _ _ r => r.mono e7) hp6, e7 _ _ hF6, p2_mono (fun _ _ r => r.mono e7) hf6, fun _ => ?_⟩
          exact hz7
        · have h : ¬ (i : Int) < (n : Int) := fun z => h (decide_eq_true z)
          exact ⟨_, _, _, rfl, exn, hz6, hp6, hF6, hf6, fun hc => by omega⟩
      · rintro σ H4 ⟨fs, y, w6, rfl, ex4, hz4, hp4, hF4, hf4, hy4⟩
        refine ⟨_, rfl, _, rfl, _, (show LsR K H4 (.ref F) _ from ⟨F, fs, rfl, hF4, hf4⟩).sqN, by simp; omega, fun z H5 e5 hz5 => k z H5 (ex4.trans e5) hz5⟩
end
end K66

set_option Elab.async false
set_option linter.all false
set_option maxRecDepth 100000
set_option maxHeartbeats 2000000
set_option exponentiation.threshold 100000
namespace K66
open PySem PySem.Spec PyProof.Rows L2
open Evl (Ex)
/-- the law's pot: two numbers -/
def Pot (H : Hp) (p : Addr) : Prop := ∃ x y : Int, H p = some (.lst [.int x, .int y]) ∧ 0 ≤ x ∧ 0 ≤ y ∧ y < 2 ^ 32
section
variable {P : Program} {w : World} {K : PySem.W.Frag} {mg : Str → Option Value} {base : Heap}
def spPot (K : PySem.W.Frag) : Sp := fun vs H Q _ => ∃ a, ∃ k : Nat, vs = [.ref a, .int (k : Int)] ∧ ∃ ns : List Int, SqL K H a (ns.map V.int) ∧ k < 100 ∧ ∀ p H', Ex H H' → H p = none → Pot H' p → Q (.ref p) H'
theorem sc__law_pot : FnScope ["_law_script", "_law_k", "_law_cell"] ["_law_script", "_law_k"] (defScope (tp 61)) := ⟨rfl, rfl, rfl, by decide +kernel, rfl, by decide +kernel, by decide +kernel⟩
theorem ok__law_pot (T : Tx K mg) : Ok P w K mg base 1 "_law_pot" ["_law_script", "_law_k"] ((spPot K)) := by
  refine T.d__law_pot.ok sc__law_pot (fun vs H Q E h => ?_) (fun _ _ _ _ _ _ us hl => match us, hl with | [_, _], _ => rfl) (fun cdv A outer s H vs Q E hr h => ?_)
  · obtain ⟨_, _, rfl, _⟩ := h
    rfl
  · refine ⟨_, (pss_cons (ps_set (i := 2) sc__law_pot.nd rfl (.inl rfl) (pe_ifExp (pt_cmpR op_lt (pv 1) (pe_callB (call_lenK (K := K) rfl) (by rfl) T.n_len (by decide +kernel) (pa_cons (pv 0) pa_nil)) (nomark _)) (pe_callB call_abs (by rfl) T.n_abs (by decide +kernel) (pa_cons (pe_ix (ix_listK (K := K) rfl) (pv 0) (pv 1) (fun _ _ => rfl)) pa_nil)) (pe_op op_add (pe_op op_mulW pe_int (pv 1)) pe_int)))
      (pss_one (ps_ret (pe_lst (pa_cons (pe_callB (call_max2 rfl) (by rfl) T.n_max (by decide +kernel) (pa_cons pe_int (pa_cons (pe_op op_sub (pv 2) (pe_op op_pow pe_int pe_int)) pa_nil))) (pa_cons (pe_op op_add (pe_op op_mod (pe_callTy call_int1 (by rfl) T.n_int (by decide +kernel) (pa_cons (pe_op op_add (pe_op op_add (pe_op op_mulW (pe_op op_mod (pe_callTy call_int1 (by rfl) T.n_int (by decide +kernel) (pa_cons (pv 2) pa_nil)) pe_int) pe_int) (pe_op op_mulW pe_int (pv 1))) pe_int) pa_nil)) pe_int) pe_int) pa_nil)))))), ?_⟩
    obtain ⟨a, n, rfl, ns, ha, hn, k⟩ := h
    refine ⟨_, rfl, _, rfl, a, _, rfl, .inl ha, _, _, rfl, rfl, _, rfl, ?_⟩
    have hx : ∃ x : Int, (∀ h : (n : Int) < ((ns.map V.int).length : Int), x = if cf ns n < 0 then - cf ns n else cf ns n) ∧ (∀ h : ¬ (n : Int) < ((ns.map V.int).length : Int), x = 83 * (n : Int) + 47) := by
      by_cases h : (n : Int) < ((ns.map V.int).length : Int)
      · exact ⟨_, fun _ => rfl, fun z => absurd h z⟩
      · exact ⟨_, fun z => absurd z h, fun _ => rfl⟩
    obtain ⟨x, hx1, hx2⟩ := hx
    refine if_val _ x ?_ ?_ ?_
    · intro h F f
      have h := of_decide_eq_true h
      refine ⟨_, rfl, _, rfl, a, _, _, _, rfl, rfl, ha, atI_int rfl (by simpa using h), _, rfl, ?_⟩
      rw [← hx1 h]
      exact f
    · intro h F f
      have h : ¬ (n : Int) < ((ns.map V.int).length : Int) := fun z => h (decide_eq_true z)
      refine ⟨_, rfl, _, _, rfl, rfl, Sm.mul (Sm.of (by decide)) (Sm.of (by rw [Int.natAbs_natCast]; exact Nat.lt_of_lt_of_le hn (by decide +kernel))), _, _, rfl, rfl, ?_⟩
      rw [hx2 h] at f
      exact f
    have mb : ∀ z b : Int, 0 < b → b < 2 ^ 32 → (z % b).natAbs < 2 ^ 6000 := fun z b h1 h2 => by
      have a1 := Int.emod_nonneg z (show b ≠ 0 by omega)
      have a2 := Int.emod_lt_of_pos z h1
      exact Nat.lt_of_lt_of_le (by omega : (z % b).natAbs < 2 ^ 32) (Nat.pow_le_pow_right (by decide) (by decide))
    have nb : ((n : Nat) : Int).natAbs < 2 ^ 6000 := by rw [Int.natAbs_natCast]; exact Nat.lt_of_lt_of_le hn (by decide +kernel)
    refine ⟨_, rfl, _, _, rfl, rfl, ⟨by decide, by decide, by decide⟩, _, _, rfl, rfl, _, _, rfl, ?_⟩
    refine ⟨_, rfl, .inl ⟨_, rfl, _, _, rfl, rfl, (show (0 : Int) < 2147483563 by decide), _, _, rfl, rfl, Sm.mul (Sm.of (mb _ _ (by decide) (by decide))) (Sm.of (by decide)), _, rfl, _, _, rfl, rfl, Sm.mul (Sm.of (by decide)) (Sm.of nb), _, _, rfl, rfl, _, _, rfl, rfl, .inl ⟨_, rfl, _, _, rfl, rfl, (show (0 : Int) < 2147483587 by decide), _, _, rfl, rfl, (by show 2 ≤ sizeLine; decide), fun p hp => ?_⟩⟩⟩
    refine k p _ (Evl.Ex.new hp) hp ⟨_, _, upd_same, ?_, ?_, ?_⟩
    · split <;> omega
    · have := Int.emod_nonneg ((x % 2147483563 * 47513 + 6211 * (n : Int) + 53)) (show (2147483587 : Int) ≠ 0 by decide)
      omega
    · have := Int.emod_lt_of_pos ((x % 2147483563 * 47513 + 6211 * (n : Int) + 53)) (show (0 : Int) < 2147483587 by decide)
      omega
def spDraw : Sp := fun vs H Q _ => ∃ p, ∃ m : Nat, vs = [.ref p, .int (m : Int)] ∧ Pot H p ∧ 1 ≤ m ∧ m ≤ 1000 ∧ ∀ (d : Nat) H', Kp [p] H H' → Pot H' p → d < m → Q (.int (d : Int)) H'
theorem sc__law_draw : FnScope ["_law_pot_here", "_law_many", "_law_digit"] ["_law_pot_here", "_law_many"] (defScope (tp 62)) := ⟨rfl, rfl, rfl, by decide +kernel, rfl, by decide +kernel, by decide +kernel⟩
theorem ok__law_draw (T : Tx K mg) : Ok P w K mg base 1 "_law_draw" ["_law_pot_here", "_law_many"] (spDraw) := by
  refine T.d__law_draw.ok sc__law_draw (fun vs H Q E h => ?_) (fun _ _ _ _ _ _ us hl => match us, hl with | [_, _], _ => rfl) (fun cdv A outer s H vs Q E hr h => ?_)
  · obtain ⟨_, _, rfl, _⟩ := h
    rfl
  · refine ⟨_, (pss_cons (ps_if (pt_cmpR op_gt (pe_ix (ix_listK (K := K) rfl) (pv 0) pe_int (fun _ _ => rfl)) pe_int (nomark _)) (pss_cons (ps_asg (pe_callB call_divmod (by rfl) T.n_divmod (by decide +kernel) (pa_cons (pe_ix (ix_listK (K := K) rfl) (pv 0) pe_int (fun _ _ => rfl)) (pa_cons (pv 1) pa_nil))) (pg_tup rfl (pgs_cons (pg_sub (pv 0) pe_int set_list) (pgs_cons (pg_name (i := 2) sc__law_draw.nd rfl (.inl rfl)) pgs_nil))))
      (pss_one (ps_ret (pv 2)))) pss_nil)
      (pss_cons (ps_asg (pe_op op_mod (pe_callTy call_int1 (by rfl) T.n_int (by decide +kernel) (pa_cons (pe_op op_add (pe_op op_mulW (pe_ix (ix_listK (K := K) rfl) (pv 0) pe_int (fun _ _ => rfl)) pe_int) pe_int) pa_nil)) pe_int) (pg_sub (pv 0) pe_int set_list))
      (pss_one (ps_ret (pe_op op_mod (pe_callTy call_int1 (by rfl) T.n_int (by decide +kernel) (pa_cons (pe_op op_fdivW (pe_op op_mod (pe_callTy call_int1 (by rfl) T.n_int (by decide +kernel) (pa_cons (pe_op op_mulW (pe_ix (ix_listK (K := K) rfl) (pv 0) pe_int (fun _ _ => rfl)) (pe_ix (ix_listK (K := K) rfl) (pv 0) pe_int (fun _ _ => rfl))) pa_nil)) pe_int) pe_int) pa_nil)) (pv 1)))))), ?_⟩
    obtain ⟨p, m, rfl, ⟨x, y, hp, hx, hy, hy2⟩, hm1, hm2, k⟩ := h
    refine ⟨_, rfl, p, _, _, _, rfl, rfl, .of hp, rfl, _, _, rfl, rfl, _, rfl, ?_⟩
    have m0 : (0 : Int) < (m : Int) := by omega
    refine ite2 (fun h => ?_) (fun h => ?_)
    · refine ⟨_, rfl, p, _, _, _, rfl, rfl, .of hp, rfl, _, rfl, _, _, rfl, ⟨m0, by omega⟩, fun t ht => ?_⟩
      have e1 := Evl.Ex.new (o := .tup [.int (x / (m : Int)), .int (x % (m : Int))]) ht
      have htp : t ≠ p := fun e => by rw [e, hp] at ht; cases ht
      refine ⟨t, _, rfl, .of upd_same, rfl, _, _, rfl, _, rfl, p, _, _, 0, rfl, rfl, e1 _ _ hp, rfl, _, _, rfl, rfl, ?_⟩
      obtain ⟨d, hd⟩ : ∃ d : Nat, x % (m : Int) = (d : Int) := ⟨(x % (m : Int)).toNat, by have := Int.emod_nonneg x (show (m : Int) ≠ 0 by omega); omega⟩
      have hd2 := Int.emod_lt_of_pos x m0
      refine ⟨_, rfl, ?_⟩
      rw [hd] at e1 ⊢
      refine k d _ (fun z o hz ho => ?_) ⟨_, _, upd_same, Int.ediv_nonneg hx (by omega), hy, hy2⟩ (by omega)
      have hzp : z ≠ p := fun e => hz (by rw [e]; simp)
      rw [upd_ne hzp]
      exact e1 _ _ ho
    · have mb : ∀ z b : Int, 0 < b → b < 2 ^ 32 → (z % b).natAbs < 2 ^ 6000 := fun z b h1 h2 => by
        have a1 := Int.emod_nonneg z (show b ≠ 0 by omega)
        have a2 := Int.emod_lt_of_pos z h1
        exact Nat.lt_of_lt_of_le (by omega : (z % b).natAbs < 2 ^ 32) (Nat.pow_le_pow_right (by decide) (by decide))
      have yb : y.natAbs < 2 ^ 6000 := Nat.lt_of_lt_of_le (by omega : y.natAbs < 2 ^ 32) (Nat.pow_le_pow_right (by decide) (by decide))
      refine ⟨_, rfl, p, _, _, _, rfl, rfl, .of hp, rfl, _, _, rfl, rfl, Sm.mul (Sm.of yb) (Sm.of (by decide)), _, _, rfl, rfl, .inl ⟨_, rfl, _, _, rfl, rfl, (show (0 : Int) < 2147483587 by decide), ?_⟩⟩
      refine ⟨_, rfl, p, _, _, 1, rfl, rfl, hp, rfl, ?_⟩
      have hp2 : (upd H p (.lst ([V.int x, V.int y].set 1 (V.int ((y * 48271 + 907) % 2147483587))))) p = some (.lst [V.int x, V.int ((y * 48271 + 907) % 2147483587)]) := upd_same
      have y0 := Int.emod_nonneg (y * 48271 + 907) (show (2147483587 : Int) ≠ 0 by decide)
      have y1 := Int.emod_lt_of_pos (y * 48271 + 907) (show (0 : Int) < 2147483587 by decide)
      have hk : Kp [p] H (upd H p (.lst ([V.int x, V.int y].set 1 (V.int ((y * 48271 + 907) % 2147483587))))) := fun z o hz ho => by
        rw [upd_ne (fun e => hz (by rw [e]; simp))]
        exact ho
      refine ⟨_, rfl, p, _, _, _, rfl, rfl, .of hp2, rfl, _, rfl, p, _, _, _, rfl, rfl, .of hp2, rfl, _, _, rfl, rfl, Sm.mul (Sm.of (mb _ _ (by decide) (by decide))) (Sm.of (mb _ _ (by decide) (by decide))), .inl ⟨_, rfl, _, _, rfl, rfl, (show (0 : Int) < 2147483549 by decide), _, _, rfl, rfl, ⟨by decide, by decide⟩, .inl ⟨_, rfl, _, rfl, _, _, rfl, rfl, m0, ?_⟩⟩⟩
      dsimp only
      obtain ⟨d, hd⟩ : ∃ d : Nat, (((y * 48271 + 907) % 2147483587) * ((y * 48271 + 907) % 2147483587) % 2147483549 / 32) % (m : Int) = (d : Int) := ⟨_, (Int.toNat_of_nonneg (Int.emod_nonneg _ (show (m : Int) ≠ 0 by omega))).symm⟩
      have hd2 := Int.emod_lt_of_pos (((y * 48271 + 907) % 2147483587) * ((y * 48271 + 907) % 2147483587) % 2147483549 / 32) m0
      rw [hd] at hd2 ⊢
      exact k d _ hk ⟨_, _, hp2, hx, y0, by omega⟩ (by omega)
def spPick : Sp := fun vs H Q _ => ∃ p s, vs = [.ref p, .ref s] ∧ ∃ xs, Pot H p ∧ H s = some (.lst xs) ∧ s ≠ p ∧ 1 ≤ xs.length ∧ xs.length ≤ 1000 ∧ ∀ (i : Nat) x H', Kp [p] H H' → Pot H' p → xs[i]? = some x → Q x H'
theorem sc__law_pick : FnScope ["_law_pot_here", "_law_some"] ["_law_pot_here", "_law_some"] (defScope (tp 63)) := ⟨rfl, rfl, rfl, by decide +kernel, rfl, by decide +kernel, by decide +kernel⟩
theorem ok__law_pick (T : Tx K mg) : Ok P w K mg base 2 "_law_pick" ["_law_pot_here", "_law_some"] (spPick) := by
  have O__law_draw := ok__law_draw (P := P) (w := w) (base := base) T
  refine T.d__law_pick.ok sc__law_pick (fun vs H Q E h => ?_) (fun _ _ _ _ _ _ us hl => match us, hl with | [_, _], _ => rfl) (fun cdv A outer s H vs Q E hr h => ?_)
  · obtain ⟨_, _, rfl, _⟩ := h
    rfl
  · refine ⟨_, (pss_one (ps_ret (pe_ix (ix_listK (K := K) rfl) (pv 1) (pe_c O__law_draw (hr.mono (by decide)) (by rfl) (pa_cons (pv 0) (pa_cons (pe_callB (call_lenK (K := K) rfl) (by rfl) T.n_len (by decide +kernel) (pa_cons (pv 1) pa_nil)) pa_nil))) (fun _ _ => rfl)))), ?_⟩
    obtain ⟨p, s, rfl, xs, hp, hs, hsp, h1, h2, k⟩ := h
    refine ⟨_, rfl, _, rfl, _, rfl, s, xs, rfl, .inl (.of hs), p, xs.length, rfl, hp, h1, h2, fun d H' hk hp' hd => ?_⟩
    have hs' := hk s _ (fun h => hsp (by simpa using h)) hs
    exact ⟨s, xs, _, xs[d]'hd, rfl, rfl, .of hs', atI_nat (List.getElem?_eq_getElem hd), k d _ H' hk hp' (List.getElem?_eq_getElem hd)⟩
theorem sc__law_common : FnScope ["_law_one", "_law_other"] ["_law_one", "_law_other"] (defScope (tp 64)) := ⟨rfl, rfl, rfl, by decide +kernel, rfl, by decide +kernel, by decide +kernel⟩
theorem ok__law_common (T : Tx K mg) : Ok P w K mg base 1 "_law_common" ["_law_one", "_law_other"] (spGcd) := by
  refine T.d__law_common.ok sc__law_common (fun vs H Q E h => ?_) (fun _ _ _ _ _ _ us hl => match us, hl with | [_, _], _ => rfl) (fun cdv A outer s H vs Q E hr h => ?_)
  · obtain ⟨_, _, rfl, _⟩ := h
    rfl
  · refine ⟨_, (pss_cons (ps_par (i := 0) (j := 1) rfl sc__law_common.nd rfl rfl (by decide) rfl rfl (pa_cons (pe_callB call_abs (by rfl) T.n_abs (by decide +kernel) (pa_cons (pv 0) pa_nil)) (pa_cons (pe_callB call_abs (by rfl) T.n_abs (by decide +kernel) (pa_cons (pv 1) pa_nil)) pa_nil)) (by rfl))
      (pss_cons (ps_while PassesOwn.never (pt_cmpR op_gt (pv 1) pe_int (nomark _)) (pss_one (ps_par (i := 0) (j := 1) rfl sc__law_common.nd rfl rfl (by decide) rfl rfl (pa_cons (pv 1) (pa_cons (pe_op op_mod (pe_callTy call_int1 (by rfl) T.n_int (by decide +kernel) (pa_cons (pv 0) pa_nil)) (pe_callTy call_int1 (by rfl) T.n_int (by decide +kernel) (pa_cons (pv 1) pa_nil))) pa_nil)) (by rfl))))
      (pss_one (ps_ret (pv 0))))), ?_⟩
    obtain ⟨a, b, rfl, q⟩ := h
    refine ⟨_, rfl, a, rfl, _, rfl, b, rfl, _, _, rfl, ?_⟩
    rw [abs_if, abs_if]
    refine ⟨fun m σ' H' => ∃ x y : Nat, σ' = [some (.int (x : Int)), some (.int (y : Int))] ∧ H' = H ∧ Nat.gcd x y = Nat.gcd a.natAbs b.natAbs ∧ m = y, ⟨_, _, _, rfl, rfl, rfl, rfl⟩, ?_⟩
    rintro m σ' H' ⟨x, y, rfl, rfl, e, rfl⟩
    refine ⟨_, rfl, _, _, rfl, rfl, _, rfl, ?_⟩
    refine ite2 (fun hb => ?_) (fun hb => ?_)
    · have hy : 0 < m := by have := of_decide_eq_true hb; omega
      refine ⟨_, fun _ _ z => z, ?_⟩
      refine ⟨_, rfl, _, rfl, .inl ⟨_, rfl, _, rfl, .inl ⟨_, rfl, _, _, rfl, rfl, (by show (0 : Int) < (m : Int); omega), ?_⟩⟩⟩
      refine ⟨_, _, rfl, x % m, Nat.mod_lt _ hy, m, x % m, ?_, rfl, ?_, rfl⟩
      · show [some (V.int (m : Int)), some (V.int ((x : Int) % (m : Int)))] = _
        rw [Int.natCast_emod]
      · rw [← e, Nat.gcd_comm m, ← Nat.gcd_rec, Nat.gcd_comm]
    · have hy : m = 0 := by
        have : ¬ (0 : Int) < (m : Int) := fun z => hb (decide_eq_true z)
        omega
      subst hy
      rw [Nat.gcd_zero_right] at e
      refine ⟨_, rfl, ?_⟩
      rw [e]
      exact q
def spLow : Sp := fun vs H Q _ => ∃ t b : Int, vs = [.int t, .int b] ∧ 0 < b ∧ b.natAbs < 2 ^ 8000 ∧ ∀ z H', Ex H H' → IsT H' z (Rat.divInt t b) → Q z H'
theorem sc__law_low : FnScope ["_law_top", "_law_bottom", "_law_part"] ["_law_top", "_law_bottom"] (defScope (tp 65)) := ⟨rfl, rfl, rfl, by decide +kernel, rfl, by decide +kernel, by decide +kernel⟩
theorem ok__law_low (T : Tx K mg) : Ok P w K mg base 2 "_law_low" ["_law_top", "_law_bottom"] (spLow) := by
  have O__law_common := ok__law_common (P := P) (w := w) (base := base) T
  refine T.d__law_low.ok sc__law_low (fun vs H Q E h => ?_) (fun _ _ _ _ _ _ us hl => match us, hl with | [_, _], _ => rfl) (fun cdv A outer s H vs Q E hr h => ?_)
  · obtain ⟨_, _, rfl, _⟩ := h
    rfl
  · refine ⟨_, (pss_cons (ps_set (i := 2) sc__law_low.nd rfl (.inl rfl) (pe_ifExp (pt_cmpR op_gt (pv 1) pe_int (nomark _)) (pe_c O__law_common (hr.mono (by decide)) (by rfl) (pa_cons (pv 0) (pa_cons (pv 1) pa_nil))) (pe_op op_sub pe_int (pe_c O__law_common (hr.mono (by decide)) (by rfl) (pa_cons (pv 0) (pa_cons (pv 1) pa_nil))))))
      (pss_one (ps_ret (pe_tup (pa_cons (pe_op op_fdivW (pv 0) (pv 2)) (pa_cons (pe_op op_fdivW (pv 1) (pv 2)) pa_nil)))))), ?_⟩
    obtain ⟨t, b, rfl, hb, hz, k⟩ := h
    have hg : 0 < Nat.gcd t.natAbs b.natAbs := Nat.gcd_pos_of_pos_right _ (by omega)
    have hgl : Nat.gcd t.natAbs b.natAbs ≤ b.natAbs := Nat.gcd_le_right _ (by omega)
    have dv : ∀ i : Int, CDivW i ((Nat.gcd t.natAbs b.natAbs : Nat) : Int) := fun i => wide_div (b := 8000) (by omega) (by rw [Int.natAbs_natCast]; exact Nat.lt_of_le_of_lt hgl hz) (by decide) (by decide)
    refine ⟨_, rfl, _, _, rfl, rfl, _, rfl, ?_⟩
    rw [decide_eq_true hb]
    refine iteT ?_
    refine ⟨_, rfl, _, rfl, _, _, rfl, ?_⟩
    refine ⟨_, rfl, _, rfl, _, _, rfl, rfl, dv t, _, rfl, _, rfl, _, _, rfl, rfl, dv b, (by show 2 ≤ sizeLine; decide), fun p hp => ?_⟩
    refine k _ _ (Evl.Ex.new hp) ⟨p, rfl, ?_⟩
    rw [upd_same, divInt_num hb, divInt_den hb]
def spT2 (f : Rat → Rat → Rat) : Sp := fun vs H Q _ => ∃ v u, vs = [v, u] ∧ ∃ p q, IsT H v p ∧ IsT H u q ∧ Sz p ∧ Sz q ∧ ∀ z H', Ex H H' → IsT H' z (f p q) → Q z H'
theorem sc__law_sum : FnScope ["_law_one", "_law_other"] ["_law_one", "_law_other"] (defScope (tp 66)) := ⟨rfl, rfl, rfl, by decide +kernel, rfl, by decide +kernel, by decide +kernel⟩
theorem ok__law_sum (T : Tx K mg) : Ok P w K mg base 3 "_law_sum" ["_law_one", "_law_other"] ((spT2 (fun p q => p + q))) := by
  have O__law_low := ok__law_low (P := P) (w := w) (base := base) T
  refine T.d__law_sum.ok sc__law_sum (fun vs H Q E h => ?_) (fun _ _ _ _ _ _ us hl => match us, hl with | [_, _], _ => rfl) (fun cdv A outer s H vs Q E hr h => ?_)
  · obtain ⟨_, _, rfl, _⟩ := h
    rfl
  · refine ⟨_, (pss_one (ps_ret (pe_c O__law_low (hr.mono (by decide)) (by rfl) (pa_cons (pe_op op_add (pe_op op_mulW (pe_ix (ix_tupK (K := K) rfl) (pv 0) pe_int (fun _ _ => rfl)) (pe_ix (ix_tupK (K := K) rfl) (pv 1) pe_int (fun _ _ => rfl))) (pe_op op_mulW (pe_ix (ix_tupK (K := K) rfl) (pv 1) pe_int (fun _ _ => rfl)) (pe_ix (ix_tupK (K := K) rfl) (pv 0) pe_int (fun _ _ => rfl)))) (pa_cons (pe_op op_mulW (pe_ix (ix_tupK (K := K) rfl) (pv 0) pe_int (fun _ _ => rfl)) (pe_ix (ix_tupK (K := K) rfl) (pv 1) pe_int (fun _ _ => rfl))) pa_nil))))), ?_⟩
    obtain ⟨v, u, rfl, p, q, ⟨a, rfl, ha⟩, ⟨b, rfl, hb⟩, zp, zq, k⟩ := h
    refine ⟨_, rfl, a, _, _, _, rfl, rfl, .of ha, rfl, _, rfl, b, _, _, _, rfl, rfl, .of hb, rfl, _, _, rfl, rfl, sz_mul zp.1 (den_nat zq), ?_⟩
    refine ⟨_, rfl, b, _, _, _, rfl, rfl, .of hb, rfl, _, rfl, a, _, _, _, rfl, rfl, .of ha, rfl, _, _, rfl, rfl, sz_mul zq.1 (den_nat zp), _, _, rfl, rfl, ?_⟩
    refine ⟨_, rfl, a, _, _, _, rfl, rfl, .of ha, rfl, _, rfl, b, _, _, _, rfl, rfl, .of hb, rfl, _, _, rfl, rfl, sz_mul (den_nat zp) (den_nat zq), ?_⟩
    refine ⟨_, _, rfl, Int.mul_pos (den_pos' p) (den_pos' q), sz_den zp zq, fun z H' e hz => k z H' e ?_⟩
    show IsT H' z (p + q)
    rw [add_div]
    exact hz
theorem sc__law_times : FnScope ["_law_one", "_law_other"] ["_law_one", "_law_other"] (defScope (tp 67)) := ⟨rfl, rfl, rfl, by decide +kernel, rfl, by decide +kernel, by decide +kernel⟩
theorem ok__law_times (T : Tx K mg) : Ok P w K mg base 3 "_law_times" ["_law_one", "_law_other"] ((spT2 (fun p q => p * q))) := by
  have O__law_low := ok__law_low (P := P) (w := w) (base := base) T
  refine T.d__law_times.ok sc__law_times (fun vs H Q E h => ?_) (fun _ _ _ _ _ _ us hl => match us, hl with | [_, _], _ => rfl) (fun cdv A outer s H vs Q E hr h => ?_)
  · obtain ⟨_, _, rfl, _⟩ := h
    rfl
  · refine ⟨_, (pss_one (ps_ret (pe_c O__law_low (hr.mono (by decide)) (by rfl) (pa_cons (pe_op op_mulW (pe_ix (ix_tupK (K := K) rfl) (pv 0) pe_int (fun _ _ => rfl)) (pe_ix (ix_tupK (K := K) rfl) (pv 1) pe_int (fun _ _ => rfl))) (pa_cons (pe_op op_mulW (pe_ix (ix_tupK (K := K) rfl) (pv 0) pe_int (fun _ _ => rfl)) (pe_ix (ix_tupK (K := K) rfl) (pv 1) pe_int (fun _ _ => rfl))) pa_nil))))), ?_⟩
    obtain ⟨v, u, rfl, p, q, ⟨a, rfl, ha⟩, ⟨b, rfl, hb⟩, zp, zq, k⟩ := h
    refine ⟨_, rfl, a, _, _, _, rfl, rfl, .of ha, rfl, _, rfl, b, _, _, _, rfl, rfl, .of hb, rfl, _, _, rfl, rfl, sz_mul zp.1 zq.1, ?_⟩
    refine ⟨_, rfl, a, _, _, _, rfl, rfl, .of ha, rfl, _, rfl, b, _, _, _, rfl, rfl, .of hb, rfl, _, _, rfl, rfl, sz_mul (den_nat zp) (den_nat zq), ?_⟩
    refine ⟨_, _, rfl, Int.mul_pos (den_pos' p) (den_pos' q), sz_den zp zq, fun z H' e hz => k z H' e ?_⟩
    show IsT H' z (p * q)
    rw [mul_div']
    exact hz
def spRead (K : PySem.W.Frag) : Sp := fun vs H Q _ => ∃ v, vs = [v] ∧ ∃ q, IsN K H v q ∧ ∀ z H', Ex H H' → IsT H' z q → Q z H'
theorem sc__law_read : FnScope ["_law_number"] ["_law_number"] (defScope (tp 68)) := ⟨rfl, rfl, rfl, by decide +kernel, rfl, by decide +kernel, by decide +kernel⟩
theorem ok__law_read (T : Tx K mg) : Ok P w K mg base 3 "_law_read" ["_law_number"] ((spRead K)) := by
  have O_top := ok_Ratio_top (P := P) (w := w) (base := base) T
  have O_bottom := ok_Ratio_bottom (P := P) (w := w) (base := base) T
  refine T.d__law_read.ok sc__law_read (fun vs H Q E h => ?_) (fun _ _ _ _ _ _ us hl => match us, hl with | [_], _ => rfl) (fun cdv A outer s H vs Q E hr h => ?_)
  · obtain ⟨_, rfl, _⟩ := h
    rfl
  · refine ⟨_, (pss_one (ps_ret (pe_ifExp (pt_val (pe_callB call_isi (by rfl) T.n_isinstance (by decide +kernel) (pa_cons (pv 0) (pa_cons (pe_glob (v := .ref (RC K)) (by rfl) T.g_Ratio rfl) pa_nil)))) (pe_tup (pa_cons (pe_prK (K := K) rfl O_top (hr.mono (by decide)) T.cl T.p_top (pv 0) rfl) (pa_cons (pe_prK (K := K) rfl O_bottom (hr.mono (by decide)) T.cl T.p_bottom (pv 0) rfl) pa_nil))) (pe_tup (pa_cons (pv 0) (pa_cons pe_int pa_nil)))))), ?_⟩
    obtain ⟨v, rfl, q, hv, k⟩ := h
    rcases hv with ⟨i, rfl, rfl⟩ | hR
    · refine ⟨_, rfl, _, .ref (RC K), _, _, false, rfl, .own _, .base (.int i), T.kiR, _, rfl, iteF ?_⟩
      refine ⟨_, rfl, (by show 2 ≤ sizeLine; decide), fun p hp => k _ _ (Evl.Ex.new hp) ⟨p, rfl, ?_⟩⟩
      rw [upd_same, Rat.num_intCast, Rat.den_intCast]; rfl
    · obtain ⟨a, dx, rfl, ha⟩ := id hR
      refine ⟨_, rfl, _, .ref (RC K), _, _, true, rfl, .own _, ty_R T ha, T.kRR, _, rfl, iteT ?_⟩
      refine ⟨_, rfl, a, dx, _, rfl, ha, _, rfl, q, hR, _, rfl, a, dx, _, rfl, ha, _, rfl, q, hR, (by show 2 ≤ sizeLine; decide), fun p hp => k _ _ (Evl.Ex.new hp) ⟨p, rfl, upd_same⟩⟩
def spTold (K : PySem.W.Frag) : Sp := fun vs H Q _ => ∃ v, vs = [v] ∧ ∃ q, IsT H v q ∧ Sz q ∧ ∀ z H', Ex H H' → IsN K H' z q → Q z H'
theorem sc__law_told : FnScope ["_law_one"] ["_law_one"] (defScope (tp 69)) := ⟨rfl, rfl, rfl, by decide +kernel, rfl, by decide +kernel, by decide +kernel⟩
theorem ok__law_told (T : Tx K mg) : Ok P w K mg base 4 "_law_told" ["_law_one"] ((spTold K)) := by
  have O_init2 := ok_init2 (P := P) (w := w) (base := base) T
  refine T.d__law_told.ok sc__law_told (fun vs H Q E h => ?_) (fun _ _ _ _ _ _ us hl => match us, hl with | [_], _ => rfl) (fun cdv A outer s H vs Q E hr h => ?_)
  · obtain ⟨_, rfl, _⟩ := h
    rfl
  · refine ⟨_, (pss_one (ps_ret (pe_ifExp (pt_cmpR op_eq (pe_ix (ix_tupK (K := K) rfl) (pv 0) pe_int (fun _ _ => rfl)) pe_int (nomark _)) (pe_ix (ix_tupK (K := K) rfl) (pv 0) pe_int (fun _ _ => rfl)) (pe_mkRK (K := K) rfl T O_init2 (hr.mono (by decide)) (by rfl) (pa_cons (pe_ix (ix_tupK (K := K) rfl) (pv 0) pe_int (fun _ _ => rfl)) (pa_cons (pe_ix (ix_tupK (K := K) rfl) (pv 0) pe_int (fun _ _ => rfl)) pa_nil)))))), ?_⟩
    obtain ⟨v, rfl, q, ⟨a, rfl, ha⟩, zq, k⟩ := h
    refine ⟨_, rfl, a, _, _, _, rfl, rfl, .of ha, rfl, rfl, _, rfl, ?_⟩
    refine ite2 (fun h => ?_) (fun h => ?_)
    · have h : (q.den : Int) = 1 := by have := of_decide_eq_true h; injection this
      refine ⟨_, rfl, a, _, _, _, rfl, rfl, .of ha, rfl, k _ _ (Evl.Ex.refl _) (.inl ⟨_, rfl, ?_⟩)⟩
      have e := Rat.num_divInt_den q
      rw [h, Rat.divInt_eq_div] at e
      have e1 : ((1 : Int) : Rat) = 1 := rfl
      rw [e1] at e
      rw [← e]
      conv => lhs; rw [e]
      have : q / 1 = q := by grind -verbose
      grind -verbose
    · refine ⟨_, rfl, a, _, _, _, rfl, rfl, .of ha, rfl, _, rfl, a, _, _, _, rfl, rfl, .of ha, rfl, ?_⟩
      refine make_R (den_pos' q) (Nat.lt_of_lt_of_le (den_nat zq) (Nat.pow_le_pow_right (by decide) (by decide))) fun z H' e hz => k z H' e (.inr ?_)
      rw [Rat.num_divInt_den] at hz
      exact hz
end
end K66

set_option Elab.async false
set_option linter.all false
set_option maxRecDepth 100000
set_option maxHeartbeats 2000000
set_option exponentiation.threshold 100000
namespace K66
open PySem PySem.Spec PyProof.Rows L2
open Evl (Ex)
abbrev LsT : Hp → V → List Rat → Prop := Ls IsT
theorem LsT.mono {H H' : Hp} {v : V} {l : List Rat} (h : LsT H v l) (e : Ex H H') : LsT H' v l := Ls.mono (fun e r => r.mono e) h e
theorem isT_put {H : Hp} {D : Addr} {zs : List V} {o : HO} {v : V} {q : Rat} (hD : H D = some (.lst zs)) (h : IsT H v q) : IsT (upd H D o) v q :=
  rep_T.off (sep_T h hD) (fun a o' ne h => by rw [upd_ne ne]; exact h) h
theorem lsT_put {H : Hp} {D : Addr} {zs : List V} {o : HO} {ls : List V} {qs : List Rat} (hD : H D = some (.lst zs)) (h : Paired (IsT H) ls qs) : Paired (IsT (upd H D o)) ls qs :=
  p2_mono (fun v b r => isT_put hD r) h
theorem num0 (q : Rat) : decide (V.int q.num = V.int 0) = decide (q = 0) := by
  by_cases h : q = 0
  · subst h; rfl
  · rw [decide_eq_false h, decide_eq_false]
    intro e
    injection e with e
    exact h (Rat.num_eq_zero.mp e)
section
variable {P : Program} {w : World} {K : PySem.W.Frag} {mg : Str → Option Value} {base : Heap}
def spCut : Sp := fun vs H Q _ => ∃ v, vs = [v] ∧ ∃ qs, LsT H v qs ∧ qs.length ≤ 10000 ∧ ∀ z H', Ex H H' → LsT H' z (trim qs) → Q z H'
theorem sc__law_cut : FnScope ["_law_curve_here", "_law_many"] ["_law_curve_here"] (defScope (tp 70)) := ⟨rfl, rfl, rfl, by decide +kernel, rfl, by decide +kernel, by decide +kernel⟩
theorem ok__law_cut (T : Tx K mg) : Ok P w K mg base 1 "_law_cut" ["_law_curve_here"] (spCut) := by
  refine T.d__law_cut.ok sc__law_cut (fun vs H Q E h => ?_) (fun _ _ _ _ _ _ us hl => match us, hl with | [_], _ => rfl) (fun cdv A outer s H vs Q E hr h => ?_)
  · obtain ⟨_, rfl, _⟩ := h
    rfl
  · refine ⟨_, (pss_cons (ps_set (i := 1) sc__law_cut.nd rfl (.inl rfl) (pe_callB (call_lenK (K := K) rfl) (by rfl) T.n_len (by decide +kernel) (pa_cons (pv 0) pa_nil)))
      (pss_cons (ps_while PassesOwn.never (PW.pt (pw_and (pt_cmpR op_gt (pv 1) pe_int (nomark _)) (pw_and1 (pt_cmpR op_eq (pe_ix (ix_tupK (K := K) rfl) (pe_ix (ix_listK (K := K) rfl) (pv 0) (pe_op op_sub (pv 1) pe_int) (fun _ _ => rfl)) pe_int (fun _ _ => rfl)) pe_int (nomark _))))) (pss_one (ps_set (i := 1) sc__law_cut.nd rfl (.inl rfl) (pe_op op_sub (pv 1) pe_int))))
      (pss_one (ps_ret (pe_callTy call_list_of (by rfl) T.n_list (by decide +kernel) (pa_cons (pe_slice (sl_listK (K := K) rfl) (pv 0) po_none (po_some (pv 1))) pa_nil)))))), ?_⟩
    obtain ⟨v, rfl, qs, ⟨a, vs, rfl, hv, hp⟩, hl, k⟩ := h
    have hln : vs.length = qs.length := hp.length
    refine ⟨_, rfl, a, vs, rfl, .inl (.of hv), ?_⟩
    refine ⟨fun m σ' H' => ∃ n : Nat, σ' = [some (.ref a), some (.int (n : Int))] ∧ H' = H ∧ n ≤ qs.length ∧ tln qs qs.length = tln qs n ∧ m = n, ⟨_, qs.length, by rw [hln]; rfl, rfl, Nat.le_refl _, rfl, rfl⟩, ?_⟩
    rintro m σ' H' ⟨n, rfl, rfl, hn, ht, rfl⟩
    have fin : ∀ n : Nat, tln qs qs.length = n → ∀ p, H' p = none → ∀ l, upd H' p (.lst (cutV vs none (some (n : Int)))) l = none → Q (.ref l) (upd (upd H' p (.lst (cutV vs none (some (n : Int))))) l (.lst (cutV vs none (some (n : Int))))) := by
      intro n e p hp0 l hl
      have ex := (Evl.Ex.new (o := .lst (cutV vs none (some (n : Int)))) hp0).trans (Evl.Ex.new (o := .lst (cutV vs none (some (n : Int)))) hl)
      refine k _ _ ex ⟨l, _, rfl, upd_same, ?_⟩
      rw [cut_take]
      unfold trim
      rw [e]
      rw [cut_take] at ex
      exact p2_mono (fun _ _ r => r.mono ex) (p2_take n hp)
    have fin2 : ∀ n : Nat, tln qs qs.length = n → ∃ v, [some (V.ref a), some (V.int (n : Int))][0]? = some (some v) ∧ ∃ i, [some (V.ref a), some (V.int (n : Int))][1]? = some (some i) ∧ ∃ j, i = .int j ∧ rSlL K v none (some j) H' fun x H1 => ∃ p ys, [x] = [V.ref p] ∧ (SqL K H1 p ys ∨ SqT K H1 p ys) ∧ ∀ l, H1 l = none → Q (.ref l) (upd H1 l (.lst ys)) :=
      fun n e => ⟨_, rfl, _, rfl, _, rfl, a, vs, rfl, .of hv, fun p hp0 => ⟨p, _, rfl, .inl (.of upd_same), fin n e p hp0⟩⟩
    refine ⟨_, rfl, _, _, rfl, rfl, _, rfl, ?_⟩
    refine ite2 (fun hb => ?_) (fun hb => ?_)
    · have hm : 0 < m := by have := of_decide_eq_true hb; omega
      obtain ⟨x, hx, rx⟩ := p2_right hp (get_en (show m - 1 < qs.length by omega))
      have e1 : (m : Int) - 1 = ((m - 1 : Nat) : Int) := by omega
      obtain ⟨b, rfl, hb'⟩ := id rx
      refine ⟨_, rfl, _, rfl, _, _, rfl, rfl, a, vs, _, .ref b, rfl, rfl, .of hv, ?_, ?_⟩
      · rw [e1]; exact atI_nat hx
      refine ⟨b, _, _, _, rfl, rfl, .of hb', rfl, rfl, _, rfl, ?_⟩
      rw [num0]
      refine ite2 (fun hz => ?_) (fun hz => ?_)
      · have hz : en qs (m - 1) = 0 := of_decide_eq_true hz
        refine ⟨_, fun _ _ z => z, ?_⟩
        refine ⟨_, rfl, _, _, rfl, rfl, ?_⟩
        obtain ⟨m, rfl⟩ : ∃ n, m = n + 1 := ⟨m - 1, by omega⟩
        refine ⟨m, by omega, m, ?_, rfl, by omega, ?_, rfl⟩
        · show [some (V.ref a), some (V.int (((m + 1 : Nat) : Int) - 1))] = _
          rw [e1]; rfl
        · rw [ht]
          show (if en qs m = 0 then tln qs m else m + 1) = tln qs m
          exact if_pos hz
      · have hz : ¬ en qs (m - 1) = 0 := fun z => hz (decide_eq_true z)
        have et : tln qs qs.length = m := by
          obtain ⟨m, rfl⟩ : ∃ n, m = n + 1 := ⟨m - 1, by omega⟩
          rw [ht]
          show (if en qs m = 0 then tln qs m else m + 1) = m + 1
          exact if_neg hz
        exact fin2 m et
    · have hm : m = 0 := by
        have : ¬ (0 : Int) < (m : Int) := fun z => hb (decide_eq_true z)
        omega
      subst hm
      exact iteF (fin2 0 (by rw [ht]; rfl))
def spCurve (K : PySem.W.Frag) : Sp := fun vs H Q _ => ∃ v, vs = [v] ∧ ∃ qs, LsR K H v qs ∧ qs.length ≤ 10000 ∧ ∀ z H', Ex H H' → LsT H' z (trim qs) → Q z H'
theorem sc__law_curve : FnScope ["_law_told_here", "_law_number"] ["_law_told_here"] (defScope (tp 71)) := ⟨rfl, rfl, rfl, by decide +kernel, rfl, by decide +kernel, by decide +kernel⟩
theorem ok__law_curve (T : Tx K mg) : Ok P w K mg base 4 "_law_curve" ["_law_told_here"] ((spCurve K)) := by
  have O__law_cut := ok__law_cut (P := P) (w := w) (base := base) T
  have O__law_read := ok__law_read (P := P) (w := w) (base := base) T
  refine T.d__law_curve.ok sc__law_curve (fun vs H Q E h => ?_) (fun _ _ _ _ _ _ us hl => match us, hl with | [_], _ => rfl) (fun cdv A outer s H vs Q E hr h => ?_)
  · obtain ⟨_, rfl, _⟩ := h
    rfl
  · refine ⟨_, (pss_one (ps_ret (pe_c O__law_cut (hr.mono (by decide)) (by rfl) (pa_cons (pe_lc (own := [("_law_number", 1)]) rfl sc__law_curve.nd (pi_list (pv 0)) (blkOk_by (own := [("_law_number", 1)]) (N := ["_law_told_here", "_law_number"]) (sc := defScope (tp 71)) (by decide +kernel)) (fun _ _ _ _ _ => (pg_name (i := 1) sc__law_curve.nd rfl (.inl rfl))) (fun _ _ _ _ _ => pts_nil) (fun _ _ _ _ _ => (pe_c O__law_read (hr.mono (by decide)) (by rfl) (pa_cons (pv 1) pa_nil)))) pa_nil)))), ?_⟩
    obtain ⟨v, rfl, qs, ⟨a, vs, rfl, hv, hp⟩, hl, k⟩ := h
    have hln : vs.length = qs.length := hp.length
    dsimp only [tSeq, tRet, tCB, tCall, tCons, tNext, gName, tAsg, tNil, tIfS, tOp, tC]
    refine LcL qs rep_T (fun F f => ⟨_, rfl, f⟩) (.of hv) hln (by omega) ?_ ?_ ?_
    · exact fun _ => rfl
    · intro i x b H2 D zs hx hb e2 hD Q' q'
      obtain ⟨q, hq, rq⟩ := p2_left hp hx
      cases hq.symm.trans hb
      exact ⟨_, rfl, x, rfl, _, .inr (rq.mono e2), fun z H3 e3 r => q' z H3 e3 r (sep_T r (e3 _ _ hD))⟩
    · intro D H2 zs hD e2 hz hp2
      exact ⟨_, rfl, qs, ⟨D, zs, rfl, hz, hp2⟩, by omega, fun z H3 e3 r => k z H3 (e2.trans e3) r⟩
/-- a list of numbers, none of them the list's own -/
def spAsTold (K : PySem.W.Frag) : Sp := fun vs H Q _ => ∃ v, vs = [v] ∧ ∃ qs, LsT H v qs ∧ qs.length ≤ 10000 ∧ LSz qs ∧ ∀ a zs H', Ex H H' → H a = none → H' a = some (.lst zs) → Paired (IsN K H') zs qs → Q (.ref a) H'
theorem sc__law_as_told : FnScope ["_law_curve_here", "_law_entry"] ["_law_curve_here"] (defScope (tp 78)) := ⟨rfl, rfl, rfl, by decide +kernel, rfl, by decide +kernel, by decide +kernel⟩
theorem ok__law_as_told (T : Tx K mg) : Ok P w K mg base 5 "_law_as_told" ["_law_curve_here"] ((spAsTold K)) := by
  have O__law_told := ok__law_told (P := P) (w := w) (base := base) T
  refine T.d__law_as_told.ok sc__law_as_told (fun vs H Q E h => ?_) (fun _ _ _ _ _ _ us hl => match us, hl with | [_], _ => rfl) (fun cdv A outer s H vs Q E hr h => ?_)
  · obtain ⟨_, rfl, _⟩ := h
    rfl
  · refine ⟨_, (pss_one (ps_ret (pe_lc (own := [("_law_entry", 1)]) rfl sc__law_as_told.nd (pi_list (pv 0)) (blkOk_by (own := [("_law_entry", 1)]) (N := ["_law_curve_here", "_law_entry"]) (sc := defScope (tp 78)) (by decide +kernel)) (fun _ _ _ _ _ => (pg_name (i := 1) sc__law_as_told.nd rfl (.inl rfl))) (fun _ _ _ _ _ => pts_nil) (fun _ _ _ _ _ => (pe_c O__law_told (hr.mono (by decide)) (by rfl) (pa_cons (pv 1) pa_nil)))))), ?_⟩
    obtain ⟨v, rfl, qs, ⟨a, vs, rfl, hv, hp⟩, hl, hz, k⟩ := h
    have hln : vs.length = qs.length := hp.length
    dsimp only [tSeq, tRet, tCB, tCall, tCons, tNext, gName, tAsg, tNil, tIfS, tOp, tC]
    refine LcL qs (rep_N (K := K)) (fun F f => ⟨_, rfl, f⟩) (.of hv) hln (by omega) ?_ ?_ ?_
    · exact fun _ => rfl
    · intro i x b H2 D zs hx hb e2 hD Q' q'
      obtain ⟨q, hq, rq⟩ := p2_left hp hx
      cases hq.symm.trans hb
      exact ⟨_, rfl, x, rfl, _, rq.mono e2, hz _ (List.mem_of_getElem? hq), fun z H3 e3 r => q' z H3 e3 r (sep_N r (e3 _ _ hD))⟩
    · intro D H2 zs hD e2 hz hp2
      exact k D zs H2 e2 hD hz hp2
def spMulT : Sp := fun vs H Q _ => ∃ v u, vs = [v, u] ∧ ∃ a b, LsT H v a ∧ LsT H u b ∧ a.length ≤ 41 ∧ b.length ≤ 41 ∧ a ≠ [] ∧ b ≠ [] ∧ (∃ A d B e, InL A d a ∧ InL B e b ∧ 0 < d ∧ 0 < e ∧ A < 2 ^ 3000 ∧ B < 2 ^ 3000 ∧ 82 * (A * B) < 2 ^ 3000 ∧ d * e < 2 ^ 3000) ∧ ∀ z H', Ex H H' → LsT H' z (trim (mulL a b)) → Q z H'
theorem sc__law_product : FnScope ["_law_one", "_law_other", "_law_k", "_law_found", "_law_j"] ["_law_one", "_law_other"] (defScope (tp 72)) := ⟨rfl, rfl, rfl, by decide +kernel, rfl, by decide +kernel, by decide +kernel⟩
theorem ok__law_product (T : Tx K mg) : Ok P w K mg base 4 "_law_product" ["_law_one", "_law_other"] (spMulT) := by
  have O__law_cut := ok__law_cut (P := P) (w := w) (base := base) T
  have O__law_sum := ok__law_sum (P := P) (w := w) (base := base) T
  have O__law_times := ok__law_times (P := P) (w := w) (base := base) T
  refine T.d__law_product.ok sc__law_product (fun vs H Q E h => ?_) (fun _ _ _ _ _ _ us hl => match us, hl with | [_, _], _ => rfl) (fun cdv A outer s H vs Q E hr h => ?_)
  · obtain ⟨_, _, rfl, _⟩ := h
    rfl
  · refine ⟨_, (pss_cons (ps_setLc (i := 3) (own := [("_law_k", 2)]) rfl sc__law_product.nd rfl rfl (sw_true rfl rfl rfl (by decide +kernel)) (pi_range1 (by rfl) T.n_range (pa_cons (pe_op op_sub (pe_op op_add (pe_callB (call_lenK (K := K) rfl) (by rfl) T.n_len (by decide +kernel) (pa_cons (pv 0) pa_nil)) (pe_callB (call_lenK (K := K) rfl) (by rfl) T.n_len (by decide +kernel) (pa_cons (pv 1) pa_nil))) pe_int) pa_nil)) (blkOk_by (own := [("_law_k", 2)]) (N := ["_law_one", "_law_other", "_law_k", "_law_found", "_law_j"]) (sc := defScope (tp 72)) (by decide +kernel)) (fun _ _ _ _ _ => (pg_name (i := 2) sc__law_product.nd rfl (.inl rfl))) (fun _ _ _ _ _ => pts_nil) (fun _ _ _ _ _ => (pe_tup (pa_cons pe_int (pa_cons pe_int pa_nil)))))
      (pss_cons (ps_for PassesOwn.never rfl (pi_range1 (by rfl) T.n_range (pa_cons (pe_callB (call_lenK (K := K) rfl) (by rfl) T.n_len (by decide +kernel) (pa_cons (pv 0) pa_nil)) pa_nil)) (pg_name (i := 2) sc__law_product.nd rfl (.inl rfl)) (pss_one (ps_for PassesOwn.never rfl (pi_range1 (by rfl) T.n_range (pa_cons (pe_callB (call_lenK (K := K) rfl) (by rfl) T.n_len (by decide +kernel) (pa_cons (pv 1) pa_nil)) pa_nil)) (pg_name (i := 4) sc__law_product.nd rfl (.inl rfl)) (pss_one (ps_asg (pe_c O__law_sum (hr.mono (by decide)) (by rfl) (pa_cons (pe_ix (ix_listK (K := K) rfl) (pv 3) (pe_op op_add (pv 2) (pv 4)) (fun _ _ => rfl)) (pa_cons (pe_c O__law_times (hr.mono (by decide)) (by rfl) (pa_cons (pe_ix (ix_listK (K := K) rfl) (pv 0) (pv 2) (fun _ _ => rfl)) (pa_cons (pe_ix (ix_listK (K := K) rfl) (pv 1) (pv 4) (fun _ _ => rfl)) pa_nil))) pa_nil))) (pg_sub (pv 3) (pe_op op_add (pv 2) (pv 4)) set_list))))))
      (pss_one (ps_ret (pe_c O__law_cut (hr.mono (by decide)) (by rfl) (pa_cons (pv 3) pa_nil)))))), ?_⟩
    obtain ⟨v, u, rfl, a, b, hv, hu, la, lb, na, nb, ⟨A, d, B, e, hA, hB, hd, he, bA, bB, bAB, bde⟩, k⟩ := h
    obtain ⟨p, xs, rfl, h1, h2⟩ := id hv
    obtain ⟨q, ys, rfl, h3, h4⟩ := id hu
    have e2 := h2.length
    have e4 := h4.length
    have bd : d < 2 ^ 3000 := Nat.lt_of_le_of_lt (Nat.le_mul_of_pos_right d he) bde
    have be : e < 2 ^ 3000 := Nat.lt_of_le_of_lt (Nat.le_mul_of_pos_left e hd) bde
    have za : a.length ≠ 0 := fun z => na (List.eq_nil_of_length_eq_zero z)
    have zb : b.length ≠ 0 := fun z => nb (List.eq_nil_of_length_eq_zero z)
    dsimp only [tSeq, tRet, tCB, tCall, tCons, tNext, gName, tAsg, tNil, tIfS, tOp, tC]
    refine LcR1 (a.length + b.length - 1) ((List.range (a.length + b.length - 1)).map fun m => pp (en a) (en b) 0 0 m) rep_T (fun F f => ⟨_, rfl, p, xs, rfl, .inl (.of h1), _, rfl, q, ys, rfl, .inl (.of h3), _, _, rfl, rfl, _, _, rfl, rfl, by
      dsimp only
      rw [e2, e4, show ((a.length : Nat) : Int) + ((b.length : Nat) : Int) - 1 = ((a.length + b.length - 1 : Nat) : Int) by omega]
      exact f⟩) (by simp) (by omega) ?_ ?_ ?_
    · exact fun _ => rfl
    · intro i c H2 D zs hi hc e hD Q' q'
      rw [List.getElem?_map, List.getElem?_range hi] at hc
      cases hc
      refine ⟨(by show 2 ≤ sizeLine; decide), fun t ht => ?_⟩
      refine q' _ _ (Evl.Ex.new ht) ⟨t, rfl, ?_⟩ (fun e => by injection e with e; rw [e, hD] at ht; cases ht)
      show upd H2 t _ t = some (.tup [.int (pp (en a) (en b) 0 0 i).num, .int (pp (en a) (en b) 0 0 i).den])
      rw [pp_zero, upd_same]; rfl
    · intro D H2 zs hD e hz hp2
      refine ForR1 a.length (fun i σ H' => (∃ w2 w4, σ = [some (.ref p), some (.ref q), w2, some (.ref D), w4]) ∧ Ex H H' ∧ ∃ zs, H' D = some (.lst zs) ∧ Paired (IsT H') zs ((List.range (a.length + b.length - 1)).map fun m => pp (en a) (en b) i 0 m)) (fun F f => ⟨_, rfl, p, xs, rfl, .inl (.of (e _ _ h1)), by dsimp only; rw [e2]; exact f⟩) (by omega) ⟨⟨_, _, rfl⟩, e, zs, hz, hp2⟩ ?_ ?_
      · rintro i σ H' hi ⟨⟨w2, w4, rfl⟩, ex, zs, hz, hp⟩
        refine ForR1 b.length (fun j σ H' => (∃ w4, σ = [some (.ref p), some (.ref q), some (.int (i : Int)), some (.ref D), w4]) ∧ Ex H H' ∧ ∃ zs, H' D = some (.lst zs) ∧ Paired (IsT H') zs ((List.range (a.length + b.length - 1)).map fun m => pp (en a) (en b) i j m)) (fun F f => ⟨_, rfl, q, ys, rfl, .inl (.of (ex _ _ h3)), by dsimp only; rw [e4]; exact f⟩) (by omega) ⟨⟨_, rfl⟩, ex, zs, hz, hp⟩ ?_ ?_
        · rintro j σ H3 hj ⟨⟨w4, rfl⟩, ex3, zs, hz, hp⟩
          obtain ⟨x, hx, rx⟩ := p2_right h2 (get_en hi)
          obtain ⟨y, hy, ry⟩ := p2_right h4 (get_en hj)
          have hget : ((List.range (a.length + b.length - 1)).map fun m => pp (en a) (en b) i j m)[i + j]? = some (pp (en a) (en b) i j (i + j)) := by
            rw [List.getElem?_map, List.getElem?_range (by omega)]; rfl
          obtain ⟨z0, hz0, r0⟩ := p2_right hp hget
          have sz0 : Sz (pp (en a) (en b) i j (i + j)) := (pp_in (fun k => hA.en k) (fun k => hB.en k) i j (i + j)).sz (Nat.mul_pos hd he) (Nat.lt_of_le_of_lt (Nat.mul_le_mul_right _ (by omega)) bAB) bde
          have sz1 : Sz (en a i * en b j) := ((hA.en i).mul (hB.en j)).sz (Nat.mul_pos hd he) (Nat.lt_of_le_of_lt (Nat.le_mul_of_pos_left _ (by decide)) bAB) bde
          refine ⟨_, rfl, _, rfl, _, rfl, _, _, rfl, rfl, D, zs, _, z0, rfl, rfl, .of hz, atI_nat hz0, ?_⟩
          refine ⟨_, rfl, _, rfl, p, xs, _, x, rfl, rfl, .of (ex3 _ _ h1), atI_nat hx, _, rfl, _, rfl, q, ys, _, y, rfl, rfl, .of (ex3 _ _ h3), atI_nat hy, ?_⟩
          refine ⟨_, _, rfl, en a i, en b j, rx.mono ex3, ry.mono ex3, (hA.en i).sz hd bA bd, (hB.en j).sz he bB be, fun z1 H5 e5 hz1 => ?_⟩
          refine ⟨_, _, rfl, _, _, r0.mono e5, hz1, sz0, sz1, fun z2 H6 e6 hz2 => ?_⟩
          have hz6 := e6 _ _ (e5 _ _ hz)
          have hl6 := hp.length
          refine ⟨_, rfl, _, rfl, _, rfl, _, _, rfl, rfl, D, zs, _, i + j, rfl, rfl, hz6, ixN_nat (by rw [hl6, List.length_map, List.length_range]; omega), ⟨_, rfl⟩, Evl.Ex.mut ((ex3.trans e5).trans e6) hD, _, upd_same, ?_⟩
          have hp6 : Paired (IsT H6) zs _ := p2_mono (fun _ _ r => (r.mono e5).mono e6) hp
          have := p2_set (isT_put (o := .lst (zs.set (i + j) z2)) hz6 hz2) (i + j) (lsT_put (o := .lst (zs.set (i + j) z2)) hz6 hp6)
          rw [rng_set (g := fun m => pp (en a) (en b) i (j + 1) m) (by omega)] at this
          · exact this
          · rw [pp_step, if_pos rfl]
          · intro m hm
            rw [pp_step, if_neg hm, Rat.add_zero]
        · rintro σ H3 ⟨⟨w4, rfl⟩, ex3, zs, hz, hp⟩
          refine ⟨⟨_, _, rfl⟩, ex3, zs, hz, ?_⟩
          have := fun m => pp_row (f := en a) (g := en b) (n := b.length) (fun k hk => en_big hk) i m
          simp only [this] at hp
          exact hp
      · rintro σ H3 ⟨⟨w2, w4, rfl⟩, ex3, zs, hz, hp⟩
        have hm : mulL a b = (List.range (a.length + b.length - 1)).map fun m => pp (en a) (en b) a.length 0 m := by
          unfold mulL
          rw [if_neg (by omega)]
          have := fun m => pp_all (f := en a) (g := en b) (n := a.length) (fun k hk => en_big hk) m
          simp only [this]
        rw [← hm] at hp
        exact ⟨_, rfl, _, rfl, mulL a b, ⟨D, zs, rfl, hz, hp⟩, by rw [hm, List.length_map, List.length_range]; omega, fun z H4 e4 r => k z H4 (ex3.trans e4) r⟩
end
end K66

set_option Elab.async false
set_option linter.all false
set_option maxRecDepth 100000
set_option maxHeartbeats 2000000
set_option exponentiation.threshold 100000
namespace K66
open PySem PySem.Spec PyProof.Rows L2
open Evl (Ex)
theorem top_cf (ns : List Int) : top ns = cf ns (ns.length - 1) := rfl
theorem atI_top {ns : List Int} (h : 0 < ns.length) : atI (ns.map V.int) (-1) = some (V.int (top ns)) := by
  obtain ⟨l, x, rfl⟩ : ∃ l x, ns = l ++ [x] := ⟨ns.dropLast, ns.getLast (fun e => by rw [e] at h; simp at h), (List.dropLast_concat_getLast _).symm⟩
  rw [List.map_append]
  have e : top (l ++ [x]) = x := by
    unfold top
    rw [List.length_append, List.length_singleton, Nat.add_sub_cancel, List.getD_eq_getElem?_getD, List.getElem?_append_right (Nat.le_refl _), Nat.sub_self]; rfl
  rw [e]
  exact atI_last _ _
theorem cf_big {ns : List Int} {k : Nat} (h : ns.length ≤ k) : cf ns k = 0 := by
  unfold cf
  rw [List.getD_eq_getElem?_getD, List.getElem?_eq_none h]; rfl
/-- one turn -/
def turnI (rs ms : List Int) (size last : Int) (shift i : Nat) : Int := cf rs i * size - (if shift ≤ i then last * cf ms (i - shift) else 0)
theorem turn_cf (rs ms : List Int) (size last : Int) (hl : ms.length ≤ rs.length) (i : Nat) : cf ((List.range rs.length).map (turnI rs ms size last (rs.length - ms.length))) i = turnI rs ms size last (rs.length - ms.length) i := by
  unfold cf
  rw [List.getD_eq_getElem?_getD]
  by_cases h : i < rs.length
  · rw [List.getElem?_map, List.getElem?_range h]; rfl
  · rw [List.getElem?_eq_none (by simp; omega)]
    unfold turnI
    rw [cf_big (ns := rs) (by omega), if_pos (by omega), cf_big (ns := ms) (by omega), Int.mul_zero, Int.zero_mul]; rfl
theorem turn_le {rs ms : List Int} {size last : Int} {shift g h : Nat} (hr : ∀ i ∈ rs, i.natAbs ≤ 2 ^ g) (hm : ∀ i ∈ ms, i.natAbs ≤ 2 ^ h) (hs : size.natAbs ≤ 2 ^ h) (hl : last.natAbs ≤ 2 ^ g) (i : Nat) : (turnI rs ms size last shift i).natAbs ≤ 2 ^ (g + (h + 1)) := by
  have a1 : (cf rs i * size).natAbs ≤ 2 ^ g * 2 ^ h := by
    rw [Int.natAbs_mul]; exact Nat.mul_le_mul (cf_le hr i) hs
  have a2 : (if shift ≤ i then last * cf ms (i - shift) else 0).natAbs ≤ 2 ^ g * 2 ^ h := by
    split
    · rw [Int.natAbs_mul]; exact Nat.mul_le_mul hl (cf_le hm _)
    · exact Nat.zero_le _
  have e : 2 ^ (g + (h + 1)) = 2 * (2 ^ g * 2 ^ h) := by rw [Nat.pow_add, Nat.pow_succ, ← Nat.mul_assoc, Nat.mul_comm 2]
  unfold turnI
  omega
theorem turn_top {rs ms : List Int} {sign : Int} (h1 : sign = 1 ∨ sign = -1) (h2 : top ms = sign * ((top ms).natAbs : Int)) (hl : ms.length ≤ rs.length) (hm : 0 < ms.length) : turnI rs ms ((top ms).natAbs : Int) (top rs * sign) (rs.length - ms.length) (rs.length - 1) = 0 := by
  unfold turnI
  rw [if_pos (by omega), show rs.length - 1 - (rs.length - ms.length) = ms.length - 1 by omega, ← top_cf, ← top_cf]
  conv => lhs; rhs; rw [h2]
  rcases h1 with h | h
  · rw [h, Int.mul_one, Int.one_mul]; omega
  · rw [h]
    have : top rs * -1 * (-1 * ((top ms).natAbs : Int)) = top rs * ((top ms).natAbs : Int) := by
      rw [Int.mul_assoc, ← Int.mul_assoc (-1)]; simp
    rw [this]; omega
theorem dl_cf {rs : List Int} (h : top rs = 0) (i : Nat) : cf rs.dropLast i = cf rs i := by
  unfold cf
  rw [List.getD_eq_getElem?_getD, List.getD_eq_getElem?_getD]
  rcases Nat.lt_or_ge i (rs.length - 1) with q | q
  · rw [List.getElem?_dropLast, if_pos q]
  · rw [List.getElem?_eq_none (by rw [List.length_dropLast]; exact q)]
    rcases Nat.lt_or_ge i rs.length with q' | q'
    · have : i = rs.length - 1 := by omega
      rw [this]
      have := h
      unfold top at this
      rw [List.getD_eq_getElem?_getD] at this
      exact this.symm
    · rw [List.getElem?_eq_none q']
section
variable {P : Program} {w : World} {K : PySem.W.Frag} {mg : Str → Option Value} {base : Heap}
def spWholeT : Sp := fun vs H Q _ => ∃ v, vs = [v] ∧ ∃ l, ∃ A d : Nat, LsT H v l ∧ l.length ≤ 41 ∧ InL A d l ∧ 0 < d ∧ d < 2 ^ 3000 ∧ A < 2 ^ 3000 ∧ ∀ z H' L, Ex H H' → 0 < L → L ∣ d → (∀ k, k < l.length → (en l k).den ∣ L) → LsI H' z (l.map fun q => wh q L) → Q z H'
theorem sc__law_whole : FnScope ["_law_curve_here", "_law_bottom", "_law_entry"] ["_law_curve_here"] (defScope (tp 73)) := ⟨rfl, rfl, rfl, by decide +kernel, rfl, by decide +kernel, by decide +kernel⟩
theorem ok__law_whole (T : Tx K mg) : Ok P w K mg base 2 "_law_whole" ["_law_curve_here"] (spWholeT) := by
  have O__law_common := ok__law_common (P := P) (w := w) (base := base) T
  refine T.d__law_whole.ok sc__law_whole (fun vs H Q E h => ?_) (fun _ _ _ _ _ _ us hl => match us, hl with | [_], _ => rfl) (fun cdv A outer s H vs Q E hr h => ?_)
  · obtain ⟨_, rfl, _⟩ := h
    rfl
  · refine ⟨_, (pss_cons (ps_set (i := 1) sc__law_whole.nd rfl (.inr rfl) pe_int)
      (pss_cons (ps_for PassesOwn.never rfl (pi_list (pv 0)) (pg_name (i := 2) sc__law_whole.nd rfl (.inl rfl)) (pss_one (ps_set (i := 1) sc__law_whole.nd rfl (.inr rfl) (pe_op op_mulW (pv 1) (pe_op op_fdivW (pe_ix (ix_tupK (K := K) rfl) (pv 2) pe_int (fun _ _ => rfl)) (pe_c O__law_common (hr.mono (by decide)) (by rfl) (pa_cons (pv 1) (pa_cons (pe_ix (ix_tupK (K := K) rfl) (pv 2) pe_int (fun _ _ => rfl)) pa_nil))))))))
      (pss_one (ps_ret (pe_lc (own := [("_law_entry", 2)]) rfl sc__law_whole.nd (pi_list (pv 0)) (blkOk_by (own := [("_law_entry", 2)]) (N := ["_law_curve_here", "_law_bottom", "_law_entry"]) (sc := defScope (tp 73)) (by decide +kernel)) (fun _ _ _ _ _ => (pg_name (i := 2) sc__law_whole.nd rfl (.inl rfl))) (fun _ _ _ _ _ => pts_nil) (fun _ _ _ _ _ => (pe_op op_mulW (pe_ix (ix_tupK (K := K) rfl) (pv 2) pe_int (fun _ _ => rfl)) (pe_op op_fdivW (pv 1) (pe_ix (ix_tupK (K := K) rfl) (pv 2) pe_int (fun _ _ => rfl)))))))))), ?_⟩
    obtain ⟨v, rfl, a, A, d, hv, la, hA, hd, bd, bA, k⟩ := h
    obtain ⟨p, xs, rfl, h1, h2⟩ := id hv
    have e2 := h2.length
    have xa : ∀ i x, xs[i]? = some x → IsT H x (en a i) ∧ i < a.length := fun i x hx => by
      obtain ⟨q, hq, r⟩ := p2_left h2 hx
      rw [en_get hq]
      exact ⟨r, (List.getElem?_eq_some_iff.mp hq).1⟩
    have dd : ∀ k, (en a k).den ∣ d := fun k => ((hA.en k).num_den hd).2.2
    have ld : ∀ {n : Nat}, n ∣ d → n < 2 ^ 3000 := fun h => Nat.lt_of_le_of_lt (Nat.le_of_dvd hd h) bd
    dsimp only [tSeq, tRet, tCB, tCall, tCons, tNext, gName, tAsg, tNil, tIfS, tOp, tC]
    refine ForL (xs := xs) (a := p) (fun i σ H' => ∃ (L : Nat) (w2 : Option V), σ = [some (.ref p), some (.int (L : Int)), w2] ∧ H' = H ∧ L ∣ d ∧ ∀ k, k < i → (en a k).den ∣ L) (fun F f => ⟨_, rfl, f⟩) (.of h1) ⟨1, none, rfl, rfl, Nat.one_dvd _, fun k hk => by omega⟩ ?_ ?_ ?_
    · rintro i σ H' _ ⟨_, _, _, rfl, _⟩
      exact .of h1
    · rintro i x σ H' hx ⟨L, w2, rfl, rfl, hL, hk⟩
      obtain ⟨⟨b, rfl, hb⟩, hi⟩ := xa i x hx
      have hLp : 0 < L := Nat.pos_of_dvd_of_pos hL hd
      have hdp := (en a i).den_pos
      have hg : 0 < Nat.gcd L (en a i).den := Nat.gcd_pos_of_pos_right _ hdp
      refine ⟨_, rfl, _, rfl, b, _, _, _, rfl, rfl, .of hb, rfl, _, rfl, _, rfl, b, _, _, _, rfl, rfl, .of hb, rfl, _, _, rfl, ?_⟩
      rw [Int.natAbs_natCast, Int.natAbs_natCast]
      refine ⟨_, _, rfl, rfl, wide_div (b := 3000) (by omega) (by rw [Int.natAbs_natCast]; exact Nat.lt_of_le_of_lt (Nat.gcd_le_left _ hLp) (ld hL)) (by decide) (by decide), _, _, rfl, rfl, wide_mul (a := 3000) (b := 3000) (by rw [Int.natAbs_natCast]; exact ld hL) ?_ (by decide) (by decide) (by decide), ?_⟩
      · rw [← Int.natCast_ediv, Int.natAbs_natCast]
        exact Nat.lt_of_le_of_lt (Nat.div_le_self _ _) (ld (dd i))
      · have el : (L : Int) * (((en a i).den : Int) / ((Nat.gcd L (en a i).den : Nat) : Int)) = ((Nat.lcm L (en a i).den : Nat) : Int) := by
          rw [← Int.natCast_ediv, ← Int.natCast_mul]
          congr 1
          unfold Nat.lcm
          rw [Nat.mul_div_assoc _ (Nat.gcd_dvd_right _ _)]
        dsimp only
        rw [el]
        refine ⟨_, _, rfl, rfl, Nat.lcm_dvd hL (dd i), fun k hk' => ?_⟩
        by_cases e : k = i
        · rw [e]; exact Nat.dvd_lcm_right _ _
        · exact Nat.dvd_trans (hk k (by omega)) (Nat.dvd_lcm_left _ _)
    · rintro σ H' ⟨L, w2, rfl, rfl, hL, hk⟩
      have hLp : 0 < L := Nat.pos_of_dvd_of_pos hL hd
      have hden : ∀ k, k < a.length → (en a k).den ∣ L := fun k h => hk k (by omega)
      dsimp only [tSeq, tRet, tCB, tCall, tCons, tNext, gName, tAsg, tNil, tIfS, tOp, tC]
      refine LcL ((a.map fun q => wh q L)) rep_I (fun F f => ⟨_, rfl, f⟩) (.of h1) (by simpa using e2) (by omega) ?_ ?_ ?_
      · exact fun _ => rfl
      · intro i x c H2 D zs hx hc e hD Q' q'
        obtain ⟨rx, hi⟩ := xa i x hx
        rw [List.getElem?_map, get_en hi] at hc
        cases hc
        have rx := rx.mono e
        obtain ⟨b, rfl, hb⟩ := id rx
        refine ⟨_, rfl, b, _, _, _, rfl, rfl, .of hb, rfl, _, rfl, _, rfl, b, _, _, _, rfl, rfl, .of hb, rfl, _, _, rfl, rfl, wide_div (b := 3000) (den_pos' _) (by rw [Int.natAbs_natCast]; exact ld (dd i)) (by decide) (by decide), ?_⟩
        refine ⟨_, _, rfl, rfl, wide_mul (a := 3000) (b := 3000) ?_ ?_ (by decide) (by decide) (by decide), ?_⟩
        · exact Nat.lt_of_le_of_lt ((hA.en i).num_den hd).1 bA
        · rw [show ((L : Int) / ((en a i).den : Int)) = ((L / (en a i).den : Nat) : Int) by rw [Int.natCast_ediv], Int.natAbs_natCast]
          exact Nat.lt_of_le_of_lt (Nat.div_le_self _ _) (ld hL)
        · exact q' _ _ (Evl.Ex.refl _) rfl (by intro e; cases e)
      · intro D H2 zs hD e hz hp
        rw [ints_eq hp] at hz
        exact k _ _ L e hLp hL hden ⟨D, rfl, hz⟩
def spRest : Sp := fun vs H Q _ => ∃ v u, vs = [v, u] ∧ ∃ ns ms, ∃ g h : Nat, LsI H v ns ∧ LsI H u ms ∧ Nrm ns ∧ NE ms ∧ ns.length ≤ 9 ∧ ms.length ≤ ns.length ∧ (∀ i ∈ ns, i.natAbs ≤ 2 ^ g) ∧ (∀ i ∈ ms, i.natAbs ≤ 2 ^ h) ∧ g + (ns.length + 1 - ms.length) * (h + 1) ≤ 19000 ∧ (2 ≤ ms.length → g + (ns.length + 1 - ms.length) * (h + 1) < 9000) ∧
  ∀ z H' rs, Ex H H' → LsI H' z rs → (∃ r c, Rst ns ms r ∧ 0 < c ∧ ∀ i, cf r i = c * cf rs i) → Nrm rs → rs.length < ms.length → (∀ i ∈ rs, i.natAbs ≤ 2 ^ (g + (ns.length + 1 - ms.length) * (h + 1))) → Q z H'
theorem sc__law_rest : FnScope ["_law_one", "_law_other", "_law_rest_here", "_law_size", "_law_sign", "_law_last", "_law_shift", "_law_part", "_law_number", "_law_k"] ["_law_one", "_law_other"] (defScope (tp 74)) := ⟨rfl, rfl, rfl, by decide +kernel, rfl, by decide +kernel, by decide +kernel⟩
theorem ok__law_rest (T : Tx K mg) : Ok P w K mg base 2 "_law_rest" ["_law_one", "_law_other"] (spRest) := by
  have O__law_common := ok__law_common (P := P) (w := w) (base := base) T
  refine T.d__law_rest.ok sc__law_rest (fun vs H Q E h => ?_) (fun _ _ _ _ _ _ us hl => match us, hl with | [_, _], _ => rfl) (fun cdv A outer s H vs Q E hr h => ?_)
  · obtain ⟨_, _, rfl, _⟩ := h
    rfl
  · refine ⟨_, (pss_cons (ps_asg (pe_tup (pa_cons (pe_callTy call_list_of (by rfl) T.n_list (by decide +kernel) (pa_cons (pv 0) pa_nil)) (pa_cons (pe_callB call_abs (by rfl) T.n_abs (by decide +kernel) (pa_cons (pe_ix (ix_listK (K := K) rfl) (pv 1) (pe_un un_neg pe_int) (fun _ _ => rfl)) pa_nil)) (pa_cons (pe_ifExp (pt_cmpR op_gt (pe_ix (ix_listK (K := K) rfl) (pv 1) (pe_un un_neg pe_int) (fun _ _ => rfl)) pe_int (nomark _)) pe_int (pe_un un_neg pe_int)) pa_nil)))) (pg_tup rfl (pgs_cons (pg_name (i := 2) sc__law_rest.nd rfl (.inr rfl)) (pgs_cons (pg_name (i := 3) sc__law_rest.nd rfl (.inr rfl)) (pgs_cons (pg_name (i := 4) sc__law_rest.nd rfl (.inl rfl)) pgs_nil)))))
      (pss_cons (ps_while PassesOwn.never (pt_cmpR op_ge (pe_callB (call_lenK (K := K) rfl) (by rfl) T.n_len (by decide +kernel) (pa_cons (pv 2) pa_nil)) (pe_callB (call_lenK (K := K) rfl) (by rfl) T.n_len (by decide +kernel) (pa_cons (pv 1) pa_nil)) (nomark _)) (pss_cons (ps_asg (pe_tup (pa_cons (pe_op op_mulW (pe_ix (ix_listK (K := K) rfl) (pv 2) (pe_un un_neg pe_int) (fun _ _ => rfl)) (pv 4)) (pa_cons (pe_op op_sub (pe_callB (call_lenK (K := K) rfl) (by rfl) T.n_len (by decide +kernel) (pa_cons (pv 2) pa_nil)) (pe_callB (call_lenK (K := K) rfl) (by rfl) T.n_len (by decide +kernel) (pa_cons (pv 1) pa_nil))) pa_nil))) (pg_tup rfl (pgs_cons (pg_name (i := 5) sc__law_rest.nd rfl (.inr rfl)) (pgs_cons (pg_name (i := 6) sc__law_rest.nd rfl (.inr rfl)) pgs_nil))))
      (pss_cons (ps_set (i := 2) sc__law_rest.nd rfl (.inr rfl) (pe_lc (own := [("_law_k", 9)]) rfl sc__law_rest.nd (pi_range1 (by rfl) T.n_range (pa_cons (pe_callB (call_lenK (K := K) rfl) (by rfl) T.n_len (by decide +kernel) (pa_cons (pv 2) pa_nil)) pa_nil)) (blkOk_by (own := [("_law_k", 9)]) (N := ["_law_one", "_law_other", "_law_rest_here", "_law_size", "_law_sign", "_law_last", "_law_shift", "_law_part", "_law_number", "_law_k"]) (sc := defScope (tp 74)) (by decide +kernel)) (fun _ _ _ _ _ => (pg_name (i := 9) sc__law_rest.nd rfl (.inl rfl))) (fun _ _ _ _ _ => pts_nil) (fun _ _ _ _ _ => (pe_op op_sub (pe_op op_mulW (pe_ix (ix_listK (K := K) rfl) (pv 2) (pv 9) (fun _ _ => rfl)) (pv 3)) (pe_ifExp (pt_cmpR op_ge (pv 9) (pv 6) (nomark _)) (pe_op op_mulW (pv 5) (pe_ix (ix_listK (K := K) rfl) (pv 1) (pe_op op_sub (pv 9) (pv 6)) (fun _ _ => rfl))) pe_int)))))
      (pss_one (ps_while PassesOwn.never (PW.pt (pw_and (pt_cmpR (op_neNil (Nat.lt_of_le_of_lt (Nat.le_trans (Nat.le_add_right _ _) (Nat.le_add_right _ _)) hr.un)) (pv 2) (pe_lst pa_nil) (nomark _)) (pw_and1 (pt_cmpR op_eq (pe_ix (ix_listK (K := K) rfl) (pv 2) (pe_un un_neg pe_int) (fun _ _ => rfl)) pe_int (nomark _))))) (pss_one (ps_expr (pe_bm0 PySem.F.plainAttrs_list PySem.F.slot_list_pop PySem.F.type_list_pop mt_pop (pv 2)))))))))
      (pss_cons (ps_set (i := 7) sc__law_rest.nd rfl (.inr rfl) pe_int)
      (pss_cons (ps_for PassesOwn.never rfl (pi_list (pv 2)) (pg_name (i := 8) sc__law_rest.nd rfl (.inl rfl)) (pss_one (ps_set (i := 7) sc__law_rest.nd rfl (.inr rfl) (pe_c O__law_common (hr.mono (by decide)) (by rfl) (pa_cons (pv 7) (pa_cons (pv 8) pa_nil))))))
      (pss_one (ps_ret (pe_lc (own := [("_law_number", 8)]) rfl sc__law_rest.nd (pi_list (pv 2)) (blkOk_by (own := [("_law_number", 8)]) (N := ["_law_one", "_law_other", "_law_rest_here", "_law_size", "_law_sign", "_law_last", "_law_shift", "_law_part", "_law_number", "_law_k"]) (sc := defScope (tp 74)) (by decide +kernel)) (fun _ _ _ _ _ => (pg_name (i := 8) sc__law_rest.nd rfl (.inl rfl))) (fun _ _ _ _ _ => pts_nil) (fun _ _ _ _ _ => (pe_op op_fdivW (pv 8) (pv 7)))))))))), ?_⟩
    obtain ⟨v, u, rfl, ns, ms, g, h, ⟨p, rfl, hp⟩, ⟨q, rfl, hq⟩, nn, nm, ln, lm, bn, bm, bgh, bg9, k⟩ := h
    have mp := nm.pos
    have hT := atI_top mp
    refine ⟨_, rfl, p, _, rfl, .inl (.of hp), fun D hD => ?_⟩
    have e1 := Evl.Ex.new (o := .lst (ns.map V.int)) hD
    have hq1 := e1 _ _ hq
    refine ⟨_, rfl, _, rfl, q, _, _, _, rfl, rfl, .of hq1, hT, _, rfl, ?_⟩
    refine ⟨_, rfl, _, rfl, q, _, _, _, rfl, rfl, .of hq1, hT, _, _, rfl, rfl, _, rfl, ?_⟩
    refine if_val _ (if 0 < top ms then 1 else -1) ?_ ?_ ?_
    · intro z F f
      rw [if_pos (of_decide_eq_true z)] at f
      exact f
    · intro z F f
      rw [if_neg (fun y => z (decide_eq_true y))] at f
      exact ⟨_, rfl, f⟩
    have hs1 : (if 0 < top ms then 1 else -1 : Int) = 1 ∨ (if 0 < top ms then 1 else -1 : Int) = -1 := by split <;> simp
    have hs2 : top ms = (if 0 < top ms then 1 else -1 : Int) * ((top ms).natAbs : Int) := by split <;> omega
    generalize (if 0 < top ms then 1 else -1 : Int) = sign at hs1 hs2 ⊢
    have hsz : (0 : Int) < ((top ms).natAbs : Int) := by have := nm.2; omega
    have hszb : (((top ms).natAbs : Int)).natAbs ≤ 2 ^ h := by rw [Int.natAbs_natCast, top_cf]; exact cf_le bm _
    refine ⟨(by show 3 ≤ sizeLine; decide), fun t ht => ?_⟩
    have e2 := Evl.Ex.new (o := .tup [.ref D, .int (if top ms < 0 then - top ms else top ms), .int sign]) ht
    refine ⟨t, _, rfl, .of upd_same, rfl, _, _, rfl, _, _, rfl, _, _, rfl, rfl, ?_⟩
    have eabs := abs_if (top ms)
    have b8 : ∀ x : Nat, x ≤ 19000 → ∀ z : Int, z.natAbs ≤ 2 ^ x → Sm z := fun x hx z hz => Nat.lt_of_le_of_lt hz (Nat.lt_of_le_of_lt (Nat.pow_le_pow_right (by decide) hx) (Nat.pow_lt_pow_right (by decide) (by decide)))
    have hbh : g + (h + 1) ≤ 19000 := by
      have : 1 * (h + 1) ≤ (ns.length + 1 - ms.length) * (h + 1) := Nat.mul_le_mul_right _ (by omega)
      omega
    refine ⟨fun m σ H' => ∃ D rs w5 w6 kk, σ = [some (.ref p), some (.ref q), some (.ref D), some (.int (((top ms).natAbs : Nat) : Int)), some (.int sign), w5, w6, none, none, none] ∧ Ex H H' ∧ H' D = some (.lst (rs.map V.int)) ∧ Rst ns ms rs ∧ Nrm rs ∧ kk + rs.length ≤ ns.length ∧ kk ≤ ns.length + 1 - ms.length ∧ (∀ i ∈ rs, i.natAbs ≤ 2 ^ (g + kk * (h + 1))) ∧ m = rs.length,
      ⟨_, D, ns, none, none, 0, ?_, e1.trans e2, e2 _ _ upd_same, Rst.start ns ms, nn, by omega, by omega, by rw [Nat.zero_mul, Nat.add_zero]; exact bn, rfl⟩, ?_⟩
    · rw [← eabs]; rfl
    rintro m σ H' ⟨D, rs, w5, w6, kk, rfl, ex, hD, hr, hn, hk, hk2, hb, rfl⟩
    have hq' := ex _ _ hq
    refine ⟨_, rfl, D, _, rfl, .inl (.of hD), _, rfl, q, _, rfl, .inl (.of hq'), _, _, rfl, rfl, _, rfl, ?_⟩
    refine ite2 (fun z => ?_) (fun z => ?_)
    · have z : ms.length ≤ rs.length := by have := of_decide_eq_true z; rw [List.length_map, List.length_map] at this; omega
      have rp : 0 < rs.length := by omega
      have hkk : kk + 1 ≤ ns.length + 1 - ms.length := by omega
      have hpow : g + (kk + 1) * (h + 1) ≤ 19000 := Nat.le_trans (Nat.add_le_add_left (Nat.mul_le_mul_right _ hkk) g) bgh
      have hpk : g + kk * (h + 1) ≤ 19000 := Nat.le_trans (Nat.add_le_add_left (Nat.mul_le_mul_right _ (by omega)) g) hpow
      have hh8 : h ≤ 19000 := by omega
      have bl : (top rs * sign).natAbs ≤ 2 ^ (g + kk * (h + 1)) := by
        rw [Int.natAbs_mul, top_cf]
        have h1 := cf_le hb (rs.length - 1)
        rcases hs1 with e | e
        · rw [e]; simpa using h1
        · rw [e]; simpa using h1
      have ssg : Sm sign := by
        rcases hs1 with e | e
        · rw [e]; exact Sm.of (by decide)
        · rw [e]; exact Sm.of (by decide)
      refine ⟨_, fun _ _ z => z, ?_⟩
      refine ⟨_, rfl, _, rfl, D, _, _, _, rfl, rfl, .of hD, atI_top rp, _, rfl, _, _, rfl, rfl, Sm.mul (b8 _ hpk _ (by rw [top_cf]; exact cf_le hb _)) ssg, ?_⟩
      refine ⟨_, rfl, D, _, rfl, .inl (.of hD), _, rfl, q, _, rfl, .inl (.of hq'), _, _, rfl, rfl, (by show 2 ≤ sizeLine; decide), fun t ht => ?_⟩
      refine ⟨t, _, rfl, .of upd_same, rfl, _, _, rfl, _, _, rfl, rfl, ?_⟩
      have e3 := Evl.Ex.new (o := .tup [.int (top rs * sign), .int (((rs.map V.int).length : Int) - ((ms.map V.int).length : Int))]) ht
      have hD3 := e3 _ _ hD
      have hq3 := e3 _ _ hq'
      have ex3 := ex.trans e3
      have esh : ((rs.map V.int).length : Int) - ((ms.map V.int).length : Int) = ((rs.length - ms.length : Nat) : Int) := by rw [List.length_map, List.length_map]; omega
      dsimp only
      rw [esh] at e3 hD3 hq3 ex3 ⊢
      generalize upd H' t (.tup [.int (top rs * sign), .int ((rs.length - ms.length : Nat) : Int)]) = H3 at *
      dsimp only [tSeq, tRet, tCB, tCall, tCons, tNext, gName, tAsg, tNil, tIfS, tOp, tC]
      refine LcR1 rs.length ((List.range rs.length).map (turnI rs ms ((top ms).natAbs : Int) (top rs * sign) (rs.length - ms.length))) rep_I (fun F f => ⟨_, rfl, D, _, rfl, .inl (.of hD3), by dsimp only; rw [List.length_map]; exact f⟩) (by simp) (by omega) ?_ ?_ ?_
      · exact fun _ => rfl
      · intro i c H4 E zs hi hc e4 hE Q' q'
        rw [List.getElem?_map, List.getElem?_range hi] at hc
        cases hc
        refine ⟨_, rfl, _, rfl, D, _, _, _, rfl, rfl, .of (e4 _ _ hD3), atI_int rfl hi, _, rfl, _, _, rfl, rfl, Sm.mul (b8 _ hpk _ (cf_le hb _)) (b8 _ hh8 _ hszb), ?_⟩
        refine ⟨_, rfl, _, rfl, _, _, rfl, rfl, _, rfl, ?_⟩
        refine if_val _ (if rs.length - ms.length ≤ i then (top rs * sign) * cf ms (i - (rs.length - ms.length)) else 0) ?_ ?_ ?_
        · intro y F f
          have y : rs.length - ms.length ≤ i := by have := of_decide_eq_true y; omega
          rw [if_pos y] at f
          exact ⟨_, rfl, _, rfl, _, rfl, _, rfl, _, _, rfl, rfl, q, _, _, _, rfl, rfl, .of (e4 _ _ hq3), atI_int (k := i - (rs.length - ms.length)) (by omega) (by omega), _, _, rfl, rfl, Sm.mul (b8 _ hpk _ bl) (b8 _ hh8 _ (cf_le bm _)), f⟩
        · intro y F f
          have y : ¬ rs.length - ms.length ≤ i := fun x => y (decide_eq_true (by omega))
          rw [if_neg y] at f
          exact f
        · exact ⟨_, _, rfl, rfl, q' _ _ (Evl.Ex.refl _) rfl (by intro e; cases e)⟩
      · intro E H4 zs hE e4 hz hp4
        rw [ints_eq hp4] at hz
        have htop := turn_top hs1 hs2 z mp
        have hcf := turn_cf rs ms ((top ms).natAbs : Int) (top rs * sign) z
        have hle : ∀ i, (turnI rs ms ((top ms).natAbs : Int) (top rs * sign) (rs.length - ms.length) i).natAbs ≤ 2 ^ (g + (kk + 1) * (h + 1)) := fun i => by
          have := turn_le (shift := rs.length - ms.length) hb bm hszb bl i
          rw [show g + kk * (h + 1) + (h + 1) = g + (kk + 1) * (h + 1) by rw [Nat.succ_mul]; omega] at this
          exact this
        have hrst := Rst.turn (r' := (List.range rs.length).map (turnI rs ms ((top ms).natAbs : Int) (top rs * sign) (rs.length - ms.length))) hr (by omega) z ((top ms).natAbs : Int) (top rs * sign) hsz (fun i => hcf i)
        have hlen1 : ((List.range rs.length).map (turnI rs ms ((top ms).natAbs : Int) (top rs * sign) (rs.length - ms.length))).length = rs.length := by simp
        have htop1 : cf ((List.range rs.length).map (turnI rs ms ((top ms).natAbs : Int) (top rs * sign) (rs.length - ms.length))) (rs.length - 1) = 0 := by rw [hcf]; exact htop
        have hle1 : ∀ i ∈ (List.range rs.length).map (turnI rs ms ((top ms).natAbs : Int) (top rs * sign) (rs.length - ms.length)), i.natAbs ≤ 2 ^ (g + (kk + 1) * (h + 1)) := fun i hi => by
          obtain ⟨j, _, rfl⟩ := List.mem_map.mp hi
          exact hle j
        generalize (List.range rs.length).map (turnI rs ms ((top ms).natAbs : Int) (top rs * sign) (rs.length - ms.length)) = r1 at *
        refine ⟨fun m σ H' => ∃ rs2, σ = [some (.ref p), some (.ref q), some (.ref E), some (.int (((top ms).natAbs : Nat) : Int)), some (.int sign), some (.int (top rs * sign)), some (.int ((rs.length - ms.length : Nat) : Int)), none, none, none] ∧ Ex H H' ∧ H' E = some (.lst (rs2.map V.int)) ∧ (∀ i, cf rs2 i = cf r1 i) ∧ rs2.length ≤ rs.length ∧ (∀ i ∈ rs2, i.natAbs ≤ 2 ^ (g + (kk + 1) * (h + 1))) ∧ m = rs2.length, ⟨_, r1, rfl, ex3.trans e4, hz, fun _ => rfl, by omega, hle1, rfl⟩, ?_⟩
        rintro m σ H5 ⟨rs2, rfl, ex5, hE5, hc5, hl5, hb5, rfl⟩
        have hE0 : H E = none := none_of ex3 hE
        have leave : ∀ H6, Ex H H6 → H6 E = some (.lst (rs2.map V.int)) → Nrm rs2 → ∃ m', m' < rs.length ∧ ∃ D rs' w5 w6 kk, [some (V.ref p), some (.ref q), some (.ref E), some (.int (((top ms).natAbs : Nat) : Int)), some (.int sign), some (.int (top rs * sign)), some (.int ((rs.length - ms.length : Nat) : Int)), none, none, none] = [some (.ref p), some (.ref q), some (.ref D), some (.int (((top ms).natAbs : Nat) : Int)), some (.int sign), w5, w6, none, none, none] ∧ Ex H H6 ∧ H6 D = some (.lst (rs'.map V.int)) ∧ Rst ns ms rs' ∧ Nrm rs' ∧ kk + rs'.length ≤ ns.length ∧ kk ≤ ns.length + 1 - ms.length ∧ (∀ i ∈ rs', i.natAbs ≤ 2 ^ (g + kk * (h + 1))) ∧ m' = rs'.length := by
          intro H6 ex6 hE6 hn6
          have hlt : rs2.length < rs.length := by
            rcases Nat.lt_or_ge rs2.length rs.length with y | y
            · exact y
            · exfalso
              rcases hn6 with e | e
              · rw [e] at y
                have y : rs.length ≤ 0 := y
                omega
              · apply e
                rw [top_cf, hc5, show rs2.length - 1 = rs.length - 1 by omega]
                exact htop1
          exact ⟨rs2.length, hlt, E, rs2, _, _, kk + 1, rfl, ex6, hE6, hrst.same (fun i => hc5 i), hn6, by omega, by omega, hb5, rfl⟩
        refine ⟨_, rfl, (by show 0 ≤ sizeLine; decide), fun y hy => ?_⟩
        have e6 := Evl.Ex.new (o := .lst []) hy
        have hE6 := e6 _ _ hE5
        refine ⟨E, y, _, rfl, rfl, .of hE6, .of upd_same, _, rfl, ?_⟩
        cases rs2 with
        | nil => exact iteF (iteF (leave _ (ex5.trans e6) hE6 (.inl rfl)))
        | cons a l =>
          refine iteT ?_
          refine ⟨_, rfl, _, rfl, E, _, _, _, rfl, rfl, .of hE6, atI_top (by simp), rfl, _, rfl, ?_⟩
          refine ite2 (fun x => ?_) (fun x => ?_)
          · have x : top (a :: l) = 0 := by have := of_decide_eq_true x; injection this
            refine ⟨_, fun _ _ z => z, ?_⟩
            refine ⟨_, rfl, .inl ⟨rfl, _, .of hE6⟩, E, _, V.int (top (a :: l)), rfl, rfl, hE6, ?_, ?_⟩
            · have := atI_top (ns := a :: l) (by simp)
              rw [List.length_map, List.getElem?_map]
              have e' : (a :: l)[(a :: l).length - 1]? = some (top (a :: l)) := cf_get (by simp)
              rw [e']; rfl
            · refine ⟨(a :: l).dropLast.length, by rw [List.length_dropLast]; simp, (a :: l).dropLast, rfl, Evl.Ex.mut (ex5.trans e6) hE0, by rw [upd_same, List.map_dropLast], fun i => by rw [dl_cf x]; exact hc5 i, by rw [List.length_dropLast]; omega, fun i hi => hb5 i (List.dropLast_subset _ hi), rfl⟩
          · have x : top (a :: l) ≠ 0 := fun e => x (decide_eq_true (by rw [e]))
            exact leave _ (ex5.trans e6) hE6 (.inr x)
    · have z : rs.length < ms.length := by
        rcases Nat.lt_or_ge rs.length ms.length with y | y
        · exact y
        · exact absurd (decide_eq_true (by rw [List.length_map, List.length_map]; omega)) z
      have hb10 : g + kk * (h + 1) ≤ g + (ns.length + 1 - ms.length) * (h + 1) := Nat.add_le_add_left (Nat.mul_le_mul_right _ hk2) g
      have hb9 : rs ≠ [] → g + kk * (h + 1) < 9000 := fun hne => Nat.lt_of_le_of_lt hb10 (bg9 (by
        have : 0 < rs.length := List.length_pos_iff.mpr hne
        omega))
      dsimp only [tSeq, tRet, tCB, tCall, tCons, tNext, gName, tAsg, tNil, tIfS, tOp, tC]
      refine ForL (xs := rs.map V.int) (a := D) (fun i σ H5 => ∃ (g : Nat) (w8 : Option V), σ = [some (.ref p), some (.ref q), some (.ref D), some (.int (((top ms).natAbs : Nat) : Int)), some (.int sign), w5, w6, some (.int (g : Int)), w8, none] ∧ H5 = H' ∧ ∀ k, k < i → (g : Int) ∣ cf rs k) (fun F f => ⟨_, rfl, f⟩) (.of hD) ⟨0, none, rfl, rfl, fun k hk => by omega⟩ ?_ ?_ ?_
      · rintro i σ H5 _ ⟨_, _, _, rfl, _⟩
        exact .of hD
      · rintro i x σ H5 hx ⟨gg, w8, rfl, rfl, hg⟩
        have hi : i < rs.length := by simpa using (List.getElem?_eq_some_iff.mp hx).1
        rw [List.getElem?_map, cf_get hi] at hx
        cases hx
        refine ⟨_, rfl, _, rfl, _, _, rfl, _, _, rfl, rfl, fun k hk => ?_⟩
        rw [Int.natAbs_natCast]
        by_cases ek : k = i
        · rw [ek]
          exact Int.ofNat_dvd_left.mpr (Nat.gcd_dvd_right _ _)
        · exact Int.dvd_trans (Int.natCast_dvd_natCast.mpr (Nat.gcd_dvd_left _ _)) (hg k (by omega))
      · rintro σ H5 ⟨gg, w8, rfl, rfl, hg⟩
        have hg' : ∀ k, (gg : Int) ∣ cf rs k := fun k => by
          rcases Nat.lt_or_ge k rs.length with y | y
          · exact hg k (by simpa using y)
          · rw [cf_big y]; exact Int.dvd_zero _
        have hgp : rs ≠ [] → 0 < gg ∧ gg ≤ 2 ^ (g + kk * (h + 1)) := fun hne => by
          have ht := hn.resolve_left hne
          have h1 : (gg : Int) ∣ top rs := hg' (rs.length - 1)
          have h2 : (top rs).natAbs ≤ 2 ^ (g + kk * (h + 1)) := cf_le hb _
          have h3 : gg ∣ (top rs).natAbs := Int.ofNat_dvd_left.mp h1
          have h4 : 0 < (top rs).natAbs := by omega
          exact ⟨Nat.pos_of_dvd_of_pos h3 h4, Nat.le_trans (Nat.le_of_dvd h4 h3) h2⟩
        dsimp only [tSeq, tRet, tCB, tCall, tCons, tNext, gName, tAsg, tNil, tIfS, tOp, tC]
        refine LcL (rs.map fun x => x / (gg : Int)) rep_I (fun F f => ⟨_, rfl, f⟩) (.of hD) (by simp) (by rw [List.length_map]; omega) ?_ ?_ ?_
        · exact fun _ => rfl
        · intro i x c H6 E zs hx hc e6 hE Q' q'
          have hi : i < rs.length := by simpa using (List.getElem?_eq_some_iff.mp hx).1
          rw [List.getElem?_map, cf_get hi] at hx hc
          cases hx; cases hc
          obtain ⟨g1, g2⟩ := hgp (fun e => by rw [e] at hi; simp at hi)
          refine ⟨_, rfl, _, rfl, _, _, rfl, rfl, wide_div (b := 9000) (by omega) (by rw [Int.natAbs_natCast]; exact Nat.lt_of_le_of_lt g2 (Nat.pow_lt_pow_right (by decide) (hb9 (fun e => by rw [e] at hi; simp at hi)))) (by decide) (by decide), ?_⟩
          exact q' _ _ (Evl.Ex.refl _) rfl (by intro e; cases e)
        · intro E H6 zs hE e6 hz hp6
          rw [ints_eq hp6] at hz
          have hcf : ∀ i, cf (rs.map fun x => x / (gg : Int)) i = cf rs i / (gg : Int) := fun i => by
            unfold cf
            rw [List.getD_eq_getElem?_getD, List.getD_eq_getElem?_getD, List.getElem?_map]
            cases rs[i]? <;> simp
          refine k _ _ _ (ex.trans e6) ⟨E, rfl, hz⟩ ⟨rs, if rs = [] then 1 else (gg : Int), hr, ?_, fun i => ?_⟩ ?_ (by simpa using z) (fun i hi => ?_)
          · split
            · decide
            · rename_i hne
              have := (hgp hne).1
              omega
          · rw [hcf]
            split
            · rename_i hne
              rw [hne]
              simp [cf]
            · exact (Int.mul_ediv_cancel' (hg' i)).symm
          · rcases hn with e | e
            · exact .inl (by rw [e]; rfl)
            · refine .inr ?_
              rw [top_cf, List.length_map, hcf]
              intro y
              have := Int.mul_ediv_cancel' (hg' (rs.length - 1))
              rw [y, Int.mul_zero] at this
              exact e this.symm
          · obtain ⟨x, hx, rfl⟩ := List.mem_map.mp hi
            have hne : rs ≠ [] := fun e => by rw [e] at hx; cases hx
            have h1 := hb x hx
            refine Nat.le_trans ?_ (Nat.le_trans h1 (Nat.pow_le_pow_right (by decide) hb10))
            have : (x / (gg : Int)).natAbs ≤ x.natAbs := Int.natAbs_ediv_le_natAbs _ _
            exact this
end
end K66

set_option Elab.async false
set_option linter.all false
set_option maxRecDepth 100000
set_option maxHeartbeats 2000000
set_option exponentiation.threshold 100000
namespace K66
open PySem PySem.Spec PyProof.Rows L2
open Evl (Ex)
def gr (b : Nat) : Nat → Nat
  | 0 => b
  | 1 => b + 4
  | k + 2 => gr b k + 2 * (gr b (k + 1) + 1)
theorem gr_up (b : Nat) : ∀ k, gr b k ≤ gr b (k + 1)
  | 0 => by show b ≤ b + 4; omega
  | 1 => by show b + 4 ≤ b + 2 * (b + 4 + 1); omega
  | k + 2 => by
    have h1 := gr_up b k
    have h2 := gr_up b (k + 1)
    show gr b (k + 2) ≤ gr b (k + 1) + 2 * (gr b (k + 2) + 1)
    omega
theorem gr_le (b : Nat) {i j : Nat} (h : i ≤ j) : gr b i ≤ gr b j := by
  induction j with
  | zero => rw [show i = 0 by omega]; exact Nat.le_refl _
  | succ j ih =>
    rcases Nat.lt_or_ge i (j + 1) with q | q
    · exact Nat.le_trans (ih (by omega)) (gr_up b j)
    · rw [show i = j + 1 by omega]; exact Nat.le_refl _
theorem gr_sum (b i : Nat) : ∀ m, gr b i + (m + 2) * (gr b (i + 1) + 1) ≤ gr b (i + 1 + m + 1)
  | 0 => by
    show gr b i + 2 * (gr b (i + 1) + 1) ≤ gr b (i + 2)
    exact Nat.le_refl _
  | m + 1 => by
    have ih := gr_sum b i m
    have h1 : gr b (i + 1) ≤ gr b (i + 1 + m) := gr_le b (by omega)
    have e : gr b (i + 1 + (m + 1) + 1) = gr b (i + 1 + m) + 2 * (gr b (i + 1 + m + 1) + 1) := rfl
    rw [e]
    have e2 : (m + 1 + 2) * (gr b (i + 1) + 1) = (m + 2) * (gr b (i + 1) + 1) + (gr b (i + 1) + 1) := by rw [← Nat.succ_mul]
    rw [e2]
    omega
theorem lsI_ne {H : Hp} {D : Addr} {vs : List V} {rows : List (List Int)} (hD : H D = some (.lst vs)) (hp : Paired (LsI H) vs rows) (hne : vs ≠ []) {v : V} {r : List Int} (h : LsI H v r) : v ≠ .ref D := by
  obtain ⟨a, rfl, ha⟩ := h
  intro e
  injection e with e
  subst e
  rw [hD] at ha
  cases hp with
  | nil => exact absurd rfl hne
  | cons r1 _ =>
    obtain ⟨b, rfl, _⟩ := r1
    injection ha with ha
    injection ha with ha
    cases r with
    | nil => cases ha
    | cons x l => cases ha
theorem lsL_put {H : Hp} {D : Addr} {vs : List V} {rows : List (List Int)} {o : HO} (hD : H D = some (.lst vs)) (hp : Paired (LsI H) vs rows) (hne : vs ≠ []) {us : List V} {rs : List (List Int)} (h : Paired (LsI H) us rs) : Paired (LsI (upd H D o)) us rs :=
  p2_mono (fun v b r => rep_L.off (lsI_ne hD hp hne r) (fun a o' ne h => by rw [upd_ne ne]; exact h) r) h
theorem chg_len : ∀ (bs : List Bool), ((((List.range (bs.length - 1)).filter fun i => bs.getD (1 + i) false != bs.getD i false).length : Nat) : Int) = chg bs
  | [] => rfl
  | [_] => rfl
  | a :: b :: l => by
    have ih := chg_len (b :: l)
    have e1 : (a :: b :: l).length - 1 = (b :: l).length - 1 + 1 := by simp
    rw [e1, List.range_succ_eq_map, List.filter_cons]
    have e2 : ((List.range ((b :: l).length - 1)).map Nat.succ).filter (fun i => (a :: b :: l).getD (1 + i) false != (a :: b :: l).getD i false) = ((List.range ((b :: l).length - 1)).filter fun i => (b :: l).getD (1 + i) false != (b :: l).getD i false).map Nat.succ := by
      rw [List.filter_map]
      congr 1
    rw [e2]
    show _ = (if a = b then (0 : Int) else 1) + chg (b :: l)
    rw [← ih]
    by_cases h : a = b
    · subst h
      rw [if_neg (by simp), if_pos rfl, List.length_map, Int.zero_add]
    · rw [if_pos (by
        show (b != a) = true
        cases a <;> cases b <;> simp_all), if_neg h, List.length_cons, List.length_map]; omega
theorem Ch.last {a b : List Int} : ∀ {l : List (List Int)}, Ch (l ++ [a, b]) → NE a ∧ Nrm b ∧ b.length < a.length
  | [], h => h
  | [u], h => by
    obtain ⟨h1, h2, h3, h4, h5, h6⟩ := h
    exact Ch.last (l := []) h6
  | [u, w], h => by
    obtain ⟨h1, h2, h3, h4, h5, h6⟩ := h
    exact Ch.last (l := [w]) h6
  | u :: w :: z :: l, h => by
    obtain ⟨h1, h2, h3, h4, h5, h6⟩ := h
    exact Ch.last (l := w :: z :: l) h6
theorem Ch.all {a b : List Int} : ∀ {l : List (List Int)}, Ch (l ++ [a, b]) → ∀ r ∈ l ++ [a], NE r
  | [], h => fun r hr => by
    have : r = a := by simpa using hr
    rw [this]; exact h.1
  | [u], h => fun r hr => by
    obtain ⟨h1, h2, h3, h4, h5, h6⟩ := h
    rcases List.mem_cons.mp hr with e | hr
    · rw [e]; exact h1
    · exact Ch.all (l := []) h6 r hr
  | [u, w], h => fun r hr => by
    obtain ⟨h1, h2, h3, h4, h5, h6⟩ := h
    rcases List.mem_cons.mp hr with e | hr
    · rw [e]; exact h1
    · exact Ch.all (l := [w]) h6 r hr
  | u :: w :: z :: l, h => fun r hr => by
    obtain ⟨h1, h2, h3, h4, h5, h6⟩ := h
    rcases List.mem_cons.mp hr with e | hr
    · rw [e]; exact h1
    · exact Ch.all (l := w :: z :: l) h6 r hr
theorem Ch.len9 {a b u : List Int} : ∀ {l : List (List Int)}, Ch (l ++ [a, b]) → (l ++ [a, b]).head? = some u → u.length ≤ 9 → ∀ r ∈ l ++ [a], r.length ≤ 9
  | [], h, hu, hl, r, hr => by
    have e1 : r = a := by simpa using hr
    have e2 : a = u := by simpa using hu
    rw [e1, e2]; exact hl
  | [x], h, hu, hl, r, hr => by
    obtain ⟨h1, h2, h3, h4, h5, h6⟩ := h
    have e2 : x = u := by simpa using hu
    rcases List.mem_cons.mp hr with e | hr
    · rw [e, e2]; exact hl
    · exact Ch.len9 (l := []) (u := a) h6 rfl (by rw [e2] at h3; omega) r hr
  | [x, y], h, hu, hl, r, hr => by
    obtain ⟨h1, h2, h3, h4, h5, h6⟩ := h
    have e2 : x = u := by simpa using hu
    rcases List.mem_cons.mp hr with e | hr
    · rw [e, e2]; exact hl
    · exact Ch.len9 (l := [y]) (u := y) h6 rfl (by rw [e2] at h3; omega) r hr
  | x :: y :: z :: l, h, hu, hl, r, hr => by
    obtain ⟨h1, h2, h3, h4, h5, h6⟩ := h
    have e2 : x = u := by simpa using hu
    rcases List.mem_cons.mp hr with e | hr
    · rw [e, e2]; exact hl
    · exact Ch.len9 (l := y :: z :: l) (u := y) h6 rfl (by rw [e2] at h3; omega) r hr
theorem atI_m2 {α : Type} (xs : List α) (x y : α) : atI (xs ++ [x, y]) (-2) = some x := by
  have e : ixN (xs ++ [x, y]).length (-2) = some xs.length := by
    unfold ixN
    rw [if_neg (by decide), List.length_append, if_pos (by simp; omega)]
    congr 1
    simp; omega
  unfold atI
  rw [e]
  show (xs ++ [x, y])[xs.length]? = some x
  rw [List.getElem?_append_right (Nat.le_refl _), Nat.sub_self]; rfl
theorem atI_m1 {α : Type} (xs : List α) (x y : α) : atI (xs ++ [x, y]) (-1) = some y := by
  have := atI_last (xs ++ [x]) y
  rw [List.append_assoc] at this
  exact this
/-- the second row -/
def dl (u : List Int) : List Int := (List.range (u.length - 1)).map fun i => ((1 + i : Nat) : Int) * cf u (1 + i)
theorem dl_len (u : List Int) : (dl u).length = u.length - 1 := by unfold dl; rw [List.length_map, List.length_range]
theorem cf_dl (u : List Int) (k : Nat) : cf (dl u) k = ((1 + k : Nat) : Int) * cf u (1 + k) := by
  unfold cf
  rw [List.getD_eq_getElem?_getD]
  unfold dl
  by_cases h : k < u.length - 1
  · rw [List.getElem?_map, List.getElem?_range h]; rfl
  · rw [List.getElem?_eq_none (by simp; omega)]
    have : u.getD (1 + k) 0 = 0 := cf_big (by omega)
    rw [this, Int.mul_zero]; rfl
theorem eI_dl (u : List Int) : eI (dl u) = der (eI u) := funext fun k => by
  show ((cf (dl u) k : Int) : Rat) = ((k + 1 : Nat) : Rat) * ((cf u (k + 1) : Int) : Rat)
  rw [cf_dl, Rat.intCast_mul, show 1 + k = k + 1 by omega]; rfl
theorem dl_nrm {u : List Int} (h : NE u) : Nrm (dl u) := by
  rcases Nat.lt_or_ge 1 u.length with q | q
  · refine .inr ?_
    rw [top_cf, cf_dl, dl_len, show 1 + (u.length - 1 - 1) = u.length - 1 by omega]
    intro e
    rcases Int.mul_eq_zero.mp e with e | e
    · omega
    · exact h.2 e
  · exact .inl (List.eq_nil_of_length_eq_zero (by rw [dl_len]; omega))
theorem dl_le {u : List Int} {b : Nat} (h : ∀ i ∈ u, i.natAbs ≤ 2 ^ b) (hl : u.length ≤ 9) : ∀ i ∈ dl u, i.natAbs ≤ 2 ^ (b + 4) := fun i hi => by
  unfold dl at hi
  obtain ⟨j, hj, rfl⟩ := List.mem_map.mp hi
  have hj := List.mem_range.mp hj
  rw [Int.natAbs_mul, Int.natAbs_natCast, Nat.pow_add, Nat.mul_comm]
  exact Nat.mul_le_mul (cf_le h _) (by omega)
theorem wh_cf {l : List Rat} {L : Nat} (hden : ∀ k, k < l.length → (en l k).den ∣ L) (k : Nat) : ((cf (l.map fun q => wh q L) k : Int) : Rat) = (L : Rat) * en l k := by
  unfold cf
  rw [List.getD_eq_getElem?_getD, List.getElem?_map]
  rcases Nat.lt_or_ge k l.length with h | h
  · rw [get_en h]
    show ((wh (en l k) L : Int) : Rat) = _
    rw [wh_cast (hden k h)]; grind -verbose
  · rw [List.getElem?_eq_none h, en_big h]
    show (0 : Rat) = _
    grind -verbose
theorem wh_NE {l : List Rat} {L : Nat} (hden : ∀ k, k < l.length → (en l k).den ∣ L) (hL : 0 < L) (hne : l ≠ []) (ht : Tr l) : NE (l.map fun q => wh q L) := by
  refine ⟨fun e => hne (List.map_eq_nil_iff.mp e), fun e => ?_⟩
  have h1 := wh_cf hden (l.length - 1)
  rw [top_cf, List.length_map] at e
  rw [e] at h1
  have h2 : (L : Rat) * en l (l.length - 1) = 0 := h1.symm
  rcases Rat.mul_eq_zero.mp h2 with q | q
  · have : L = 0 := by exact_mod_cast q
    omega
  · exact ht hne q
theorem wh_rr {l : List Rat} {L : Nat} (hden : ∀ k, k < l.length → (en l k).den ∣ L) (hL : 0 < L) (hl : l.length ≤ 9) : RRn (l.length - 1) (eI (l.map fun q => wh q L)) ↔ RR (en l) := by
  have e : eI (l.map fun q => wh q L) = fun k => (L : Rat) * en l k := funext fun k => wh_cf hden k
  rw [e, rr_scale (fun z => by
    have : L = 0 := by exact_mod_cast z
    omega)]
  exact rr_any tr_up (by omega)
/-- the count, at the end -/
theorem count_end {u a : List Int} {pre rest : List (List Int)} (hc : Ch (pre ++ [a, []])) (hh : pre ++ [a, []] = u :: dl u :: rest) :
    chg ((pre ++ [a]).map near) - chg ((pre ++ [a]).map far) = u.length - a.length ↔ RRn (u.length - 1) (eI u) := by
  obtain ⟨rows, hr⟩ : ∃ rows, pre ++ [a] = u :: rows := by
    cases pre with
    | nil => injection hh with h1 h2; exact ⟨[], by rw [h1]; rfl⟩
    | cons x p => injection hh with h1 h2; exact ⟨p ++ [a], by rw [h1]; rfl⟩
  have e1 : pre ++ [a, []] = u :: rows ++ [[]] := by
    rw [← hr, List.append_assoc]; rfl
  rw [e1] at hc hh
  have h2 : rows ++ [[]] = dl u :: rest := by
    injection hh
  have hd := hc.dec
  have hcnt := (cnt (Dec.init (rows := u :: rows) hd)).2
  have hlast : ((u :: rows).getLastD []) = a := by
    rw [← hr, List.getLastD_eq_getLast?, List.getLast?_append]; rfl
  rw [hlast] at hcnt
  rw [hr, hcnt, ← hc.psd, h2]
  show PSD (u.length - 1) (eI u) (eI (dl u)) ↔ _
  rw [eI_dl]; rfl
def LsB : Hp → V → List Bool → Prop := fun H v bs => ∃ a, v = .ref a ∧ H a = some (.lst (bs.map V.bl))
section
variable {P : Program} {w : World} {K : PySem.W.Frag} {mg : Str → Option Value} {base : Heap}
def spChg : Sp := fun vs H Q _ => ∃ v, vs = [v] ∧ ∃ bs, LsB H v bs ∧ bs.length ≤ 1000 ∧ ∀ H', Ex H H' → Q (.int (chg bs)) H'
theorem sc__law_changes : FnScope ["_law_signs", "_law_k"] ["_law_signs"] (defScope (tp 75)) := ⟨rfl, rfl, rfl, by decide +kernel, rfl, by decide +kernel, by decide +kernel⟩
theorem ok__law_changes (T : Tx K mg) : Ok P w K mg base 1 "_law_changes" ["_law_signs"] (spChg) := by
  refine T.d__law_changes.ok sc__law_changes (fun vs H Q E h => ?_) (fun _ _ _ _ _ _ us hl => match us, hl with | [_], _ => rfl) (fun cdv A outer s H vs Q E hr h => ?_)
  · obtain ⟨_, rfl, _⟩ := h
    rfl
  · refine ⟨_, (pss_one (ps_ret (pe_callB (call_lenK (K := K) rfl) (by rfl) T.n_len (by decide +kernel) (pa_cons (pe_lc (own := [("_law_k", 1)]) rfl sc__law_changes.nd (pi_range2 (by rfl) T.n_range (pa_cons pe_int (pa_cons (pe_callB (call_lenK (K := K) rfl) (by rfl) T.n_len (by decide +kernel) (pa_cons (pv 0) pa_nil)) pa_nil))) (blkOk_by (own := [("_law_k", 1)]) (N := ["_law_signs", "_law_k"]) (sc := defScope (tp 75)) (by decide +kernel)) (fun _ _ _ _ _ => (pg_name (i := 1) sc__law_changes.nd rfl (.inl rfl))) (fun _ _ _ _ _ => pts_one (pt_cmpR op_ne (pe_ix (ix_listK (K := K) rfl) (pv 0) (pv 1) (fun _ _ => rfl)) (pe_ix (ix_listK (K := K) rfl) (pv 0) (pe_op op_sub (pv 1) pe_int) (fun _ _ => rfl)) (nomark _))) (fun _ _ _ _ _ => (pv 1))) pa_nil)))), ?_⟩
    obtain ⟨v, rfl, bs, ⟨p, rfl, hp⟩, hl, k⟩ := h
    have gb : ∀ i, i < bs.length → (bs.map V.bl)[i]? = some (V.bl (bs.getD i false)) := fun i hi => by
      rw [List.getElem?_map, List.getD_eq_getElem?_getD, List.getElem?_eq_getElem hi]; rfl
    dsimp only [tSeq, tRet, tCB, tCall, tCons, tNext, gName, tAsg, tNil, tIfS, tOp, tC]
    refine LcFR 1 (bs.length : Int) (bs.length - 1) (fun i => bs.getD (1 + i) false != bs.getD i false) (fun F f => ⟨_, rfl, p, _, rfl, .inl (.of hp), by dsimp only; rw [List.length_map]; exact f⟩) (by omega) (by omega) (by omega) (by decide) (by omega) ?_ ?_ ?_ ?_
    · exact fun _ => rfl
    · intro i H' hi e F f
      refine ⟨_, rfl, _, rfl, p, _, _, _, rfl, rfl, .of (e _ _ hp), atI_nat (gb (1 + i) (by omega)), ?_⟩
      refine ⟨_, rfl, _, rfl, _, _, rfl, rfl, p, _, _, V.bl (bs.getD i false), rfl, rfl, .of (e _ _ hp), by rw [show ((1 + i : Nat) : Int) - 1 = (i : Int) by omega]; exact atI_nat (gb i (by omega)), rfl, _, rfl, ?_⟩
      have : (!decide (V.bl (bs.getD (1 + i) false) = V.bl (bs.getD i false))) = (bs.getD (1 + i) false != bs.getD i false) := by
        cases bs.getD (1 + i) false <;> cases bs.getD i false <;> rfl
      rw [this]
      exact f
    · intro i H' hi e F f
      exact ⟨_, rfl, f⟩
    · intro D H' zs hD e hz hzl
      refine ⟨D, zs, rfl, .inl (.of hz), ?_⟩
      rw [hzl, chg_len]
      exact k _ e
/-- what the law's own count takes -/
def LFine (l : List Rat) : Prop := l.length ≤ 9 ∧ ∃ A d b, InL A d l ∧ 0 < d ∧ d < 2 ^ 3000 ∧ A ≤ 2 ^ b ∧ b ≤ 2000 ∧ gr b l.length ≤ 19000 ∧ gr b (l.length - 1) < 9000
def spFencedT : Sp := fun vs H Q _ => ∃ v, vs = [v] ∧ ∃ l, LsT H v l ∧ l ≠ [] ∧ Tr l ∧ LFine l ∧ ∀ H' b, Ex H H' → (b = true ↔ RR (en l)) → Q (.bl b) H'
theorem sc__law_is_fenced : FnScope ["_law_curve_here", "_law_numbers", "_law_rows", "_law_far", "_law_near", "_law_row", "_law_is_up", "_law_k", "_law_number"] ["_law_curve_here"] (defScope (tp 76)) := ⟨rfl, rfl, rfl, by decide +kernel, rfl, by decide +kernel, by decide +kernel⟩
theorem ok__law_is_fenced (T : Tx K mg) : Ok P w K mg base 3 "_law_is_fenced" ["_law_curve_here"] (spFencedT) := by
  have O__law_whole := ok__law_whole (P := P) (w := w) (base := base) T
  have O__law_changes := ok__law_changes (P := P) (w := w) (base := base) T
  have O__law_rest := ok__law_rest (P := P) (w := w) (base := base) T
  refine T.d__law_is_fenced.ok sc__law_is_fenced (fun vs H Q E h => ?_) (fun _ _ _ _ _ _ us hl => match us, hl with | [_], _ => rfl) (fun cdv A outer s H vs Q E hr h => ?_)
  · obtain ⟨_, rfl, _⟩ := h
    rfl
  · refine ⟨_, (pss_cons (ps_set (i := 1) sc__law_is_fenced.nd rfl (.inr rfl) (pe_c O__law_whole (hr.mono (by decide)) (by rfl) (pa_cons (pv 0) pa_nil)))
      (pss_cons (ps_set (i := 2) sc__law_is_fenced.nd rfl (.inl rfl) (pe_lst (pa_cons (pv 1) (pa_cons (pe_lc (own := [("_law_k", 7)]) rfl sc__law_is_fenced.nd (pi_range2 (by rfl) T.n_range (pa_cons pe_int (pa_cons (pe_callB (call_lenK (K := K) rfl) (by rfl) T.n_len (by decide +kernel) (pa_cons (pv 1) pa_nil)) pa_nil))) (blkOk_by (own := [("_law_k", 7)]) (N := ["_law_curve_here", "_law_numbers", "_law_rows", "_law_far", "_law_near", "_law_row", "_law_is_up", "_law_k", "_law_number"]) (sc := defScope (tp 76)) (by decide +kernel)) (fun _ _ _ _ _ => (pg_name (i := 7) sc__law_is_fenced.nd rfl (.inl rfl))) (fun _ _ _ _ _ => pts_nil) (fun _ _ _ _ _ => (pe_op op_mulW (pv 7) (pe_ix (ix_listK (K := K) rfl) (pv 1) (pv 7) (fun _ _ => rfl))))) pa_nil))))
      (pss_cons (ps_while PassesOwn.never (pt_cmpR (op_neNil (Nat.lt_of_le_of_lt (Nat.le_trans (Nat.le_add_right _ _) (Nat.le_add_right _ _)) hr.un)) (pe_ix (ix_listK (K := K) rfl) (pv 2) (pe_un un_neg pe_int) (fun _ _ => rfl)) (pe_lst pa_nil) (nomark _)) (pss_one (ps_expr (pe_bm PySem.F.plainAttrs_list PySem.F.slot_list_append PySem.F.type_list_append mt_append (pv 2) (pa_cons (pe_lc (own := [("_law_number", 8)]) rfl sc__law_is_fenced.nd (pi_list (pe_c O__law_rest (hr.mono (by decide)) (by rfl) (pa_cons (pe_ix (ix_listK (K := K) rfl) (pv 2) (pe_un un_neg pe_int) (fun _ _ => rfl)) (pa_cons (pe_ix (ix_listK (K := K) rfl) (pv 2) (pe_un un_neg pe_int) (fun _ _ => rfl)) pa_nil)))) (blkOk_by (own := [("_law_number", 8)]) (N := ["_law_curve_here", "_law_numbers", "_law_rows", "_law_far", "_law_near", "_law_row", "_law_is_up", "_law_k", "_law_number"]) (sc := defScope (tp 76)) (by decide +kernel)) (fun _ _ _ _ _ => (pg_name (i := 8) sc__law_is_fenced.nd rfl (.inl rfl))) (fun _ _ _ _ _ => pts_nil) (fun _ _ _ _ _ => (pe_op op_sub pe_int (pv 8)))) pa_nil)))))
      (pss_cons (ps_expr (pe_bm0 PySem.F.plainAttrs_list PySem.F.slot_list_pop PySem.F.type_list_pop mt_pop (pv 2)))
      (pss_cons (ps_setLc (i := 3) (own := [("_law_row", 5)]) rfl sc__law_is_fenced.nd rfl rfl (sw_true rfl rfl rfl (by decide +kernel)) (pi_list (pv 2)) (blkOk_by (own := [("_law_row", 5)]) (N := ["_law_curve_here", "_law_numbers", "_law_rows", "_law_far", "_law_near", "_law_row", "_law_is_up", "_law_k", "_law_number"]) (sc := defScope (tp 76)) (by decide +kernel)) (fun _ _ _ _ _ => (pg_name (i := 5) sc__law_is_fenced.nd rfl (.inl rfl))) (fun _ _ _ _ _ => pts_nil) (fun _ _ _ _ _ => (pe_cmpR op_gt (pe_ix (ix_listK (K := K) rfl) (pv 5) (pe_un un_neg pe_int) (fun _ _ => rfl)) pe_int (nomark _))))
      (pss_cons (ps_setLc (i := 4) (own := [("_law_is_up", 6), ("_law_row", 5)]) rfl sc__law_is_fenced.nd rfl rfl (sw_true rfl rfl rfl (by decide +kernel)) (pi_zip (by rfl) T.n_zip (pa_cons (pv 3) (pa_cons (pv 2) pa_nil))) (blkOk_by (own := [("_law_is_up", 6), ("_law_row", 5)]) (N := ["_law_curve_here", "_law_numbers", "_law_rows", "_law_far", "_law_near", "_law_row", "_law_is_up", "_law_k", "_law_number"]) (sc := defScope (tp 76)) (by decide +kernel)) (fun _ _ _ _ _ => (pg_tupK (K := K) (n := 2) rfl rfl (pgs_cons (pg_name (i := 6) sc__law_is_fenced.nd rfl (.inl rfl)) (pgs_cons (pg_name (i := 5) sc__law_is_fenced.nd rfl (.inl rfl)) pgs_nil)))) (fun _ _ _ _ _ => pts_nil) (fun _ _ _ _ _ => (pe_cmpR op_eq (pv 6) (pe_cmpR op_ne (pe_op op_mulW (pe_op op_fdivW (pe_callB (call_lenK (K := K) rfl) (by rfl) T.n_len (by decide +kernel) (pa_cons (pv 5) pa_nil)) pe_int) pe_int) (pe_callB (call_lenK (K := K) rfl) (by rfl) T.n_len (by decide +kernel) (pa_cons (pv 5) pa_nil)) (nomark _)) (nomark _))))
      (pss_one (ps_ret (pe_cmpR op_eq (pe_op op_sub (pe_c O__law_changes (hr.mono (by decide)) (by rfl) (pa_cons (pv 4) pa_nil)) (pe_c O__law_changes (hr.mono (by decide)) (by rfl) (pa_cons (pv 3) pa_nil))) (pe_op op_sub (pe_callB (call_lenK (K := K) rfl) (by rfl) T.n_len (by decide +kernel) (pa_cons (pv 1) pa_nil)) (pe_callB (call_lenK (K := K) rfl) (by rfl) T.n_len (by decide +kernel) (pa_cons (pe_ix (ix_listK (K := K) rfl) (pv 2) (pe_un un_neg pe_int) (fun _ _ => rfl)) pa_nil))) (nomark _)))))))))), ?_⟩
    obtain ⟨v, rfl, l, hv, hne, ht, ⟨hl9, A, d, b, hA, hd, bd, hAb, hb2, hg1, hg2⟩, k⟩ := h
    refine ⟨_, rfl, _, rfl, l, A, d, hv, by omega, hA, hd, bd, Nat.lt_of_le_of_lt hAb (Nat.pow_lt_pow_right (by decide) (by omega)), fun z H1 L e1 hLp hL hden hz => ?_⟩
    obtain ⟨p, rfl, hp⟩ := hz
    have hul : (l.map fun q => wh q L).length = l.length := List.length_map ..
    have uNE := wh_NE hden hLp hne ht
    have ub : ∀ i ∈ l.map fun q => wh q L, i.natAbs ≤ 2 ^ b := fun i hi => by
      obtain ⟨q, hq, rfl⟩ := List.mem_map.mp hi
      obtain ⟨j, hj, e⟩ := List.getElem_of_mem hq
      have e' : en l j = q := en_get (by rw [List.getElem?_eq_getElem hj, e])
      exact Nat.le_trans (wh_le (hA q hq) hL hd (by rw [← e']; exact hden j hj)) hAb
    rw [← wh_rr hden hLp hl9] at k
    rw [← hul] at k hl9 hg1 hg2
    have up := uNE.pos
    generalize (l.map fun q => wh q L) = u at *
    have b19 : ∀ x : Nat, x ≤ 19000 → ∀ z : Int, z.natAbs ≤ 2 ^ x → Sm z := fun x hx z hz => Nat.lt_of_le_of_lt hz (Nat.lt_of_le_of_lt (Nat.pow_le_pow_right (by decide) hx) (Nat.pow_lt_pow_right (by decide) (by decide)))
    refine ⟨_, rfl, ?_⟩
    dsimp only [tSeq, tRet, tCB, tCall, tCons, tNext, gName, tAsg, tNil, tIfS, tOp, tC]
    refine LcR2 1 (u.length : Int) (u.length - 1) (dl u) rep_I (fun F f => ⟨_, rfl, p, _, rfl, .inl (.of hp), by dsimp only; rw [List.length_map]; exact f⟩) (by omega) (by omega) (by omega) (by decide) (dl_len u).symm (by omega) ?_ ?_ ?_
    · exact fun _ => rfl
    · intro i c H2 D zs hi hc e hD Q' q'
      unfold dl at hc
      rw [List.getElem?_map, List.getElem?_range hi] at hc
      cases hc
      refine ⟨_, rfl, _, rfl, _, rfl, p, _, _, _, rfl, rfl, .of (e _ _ hp), atI_int rfl (by omega), _, _, rfl, rfl, Sm.mul (Sm.of (by rw [Int.natAbs_natCast]; exact Nat.lt_of_lt_of_le (by omega : 1 + i < 100) (by decide +kernel))) (b19 b (by omega) _ (cf_le ub _)), ?_⟩
      exact q' _ _ (Evl.Ex.refl _) rfl (by intro e; cases e)
    intro E H2 zs hE e2 hz2 hp2
    rw [ints_eq hp2] at hz2
    refine ⟨(by show 2 ≤ sizeLine; decide), fun D hD => ?_⟩
    have e3 := Evl.Ex.new (o := .lst [.ref p, .ref E]) hD
    have ex3 := (e1.trans e2).trans e3
    have hD0 : H D = none := none_of (e1.trans e2) hD
    have hp3 := e3 _ _ (e2 _ _ hp)
    have hE3 := e3 _ _ hz2
    have hu0 : gr b (u.length - u.length) = b := by rw [Nat.sub_self]; rfl
    refine ⟨fun m σ H' => ∃ us x y pre a c rest, σ = [some v, some (.ref p), some (.ref D), none, none, none, none, none, none] ∧ Ex H H' ∧ H' p = some (.lst (u.map V.int)) ∧ H' D = some (.lst (us ++ [x, y])) ∧ Paired (LsI H') us pre ∧ LsI H' x a ∧ LsI H' y c ∧ Ch (pre ++ [a, c]) ∧ pre ++ [a, c] = u :: dl u :: rest ∧ pre.length + a.length ≤ u.length ∧ (∀ i ∈ a, i.natAbs ≤ 2 ^ gr b (u.length - a.length)) ∧ (∀ i ∈ c, i.natAbs ≤ 2 ^ gr b (u.length - a.length + 1)) ∧ m = c.length,
      ⟨_, [], .ref p, .ref E, [], u, dl u, [], rfl, ex3, hp3, upd_same, .nil, ⟨p, rfl, hp3⟩, ⟨E, rfl, hE3⟩, ⟨uNE, dl_nrm uNE, by rw [dl_len]; omega⟩, rfl, by simp, by rw [hu0]; exact ub, by rw [Nat.sub_self]; exact dl_le ub hl9, rfl⟩, ?_⟩
    rintro m σ H' ⟨us, x, y, pre, a, c, rest, rfl, ex, hp4, hD4, hus, hx, hy, hch, hhd, hal, ba, bc, rfl⟩
    obtain ⟨aNE, cN, cl⟩ := hch.last
    have all : Paired (LsI H') (us ++ [x, y]) (pre ++ [a, c]) := p2_app hus (.cons hx (.cons hy .nil))
    have vne : us ++ [x, y] ≠ [] := by simp
    obtain ⟨px, rfl, hpx⟩ := id hx
    obtain ⟨py, rfl, hpy⟩ := id hy
    refine ⟨_, rfl, _, rfl, D, _, _, _, rfl, rfl, .of hD4, atI_m1 _ _ _, (by show 0 ≤ sizeLine; decide), fun n hn => ?_⟩
    have e5 := Evl.Ex.new (o := .lst []) hn
    have ex5 := ex.trans e5
    have hD5 := e5 _ _ hD4
    have all5 : Paired (LsI (upd H' n (.lst []))) (us ++ [.ref px, .ref py]) (pre ++ [a, c]) := p2_mono (fun _ _ r => r.mono e5) all
    have hus5 : Paired (LsI (upd H' n (.lst []))) us pre := p2_mono (fun _ _ r => r.mono e5) hus
    have hx5 := hx.mono e5
    have hy5 := hy.mono e5
    have hp5 := e5 _ _ hp4
    refine ⟨py, n, _, rfl, rfl, .of (e5 _ _ hpy), .of upd_same, _, rfl, ?_⟩
    generalize upd H' n (.lst []) = H5 at *
    cases c with
    | cons c0 cs =>
      refine iteT ⟨_, fun _ _ z => z, ?_⟩
      have cNE : NE (c0 :: cs) := ⟨by simp, cN.resolve_left (by simp)⟩
      have cp := cNE.pos
      generalize hc0 : (c0 :: cs) = c at *
      obtain ⟨mm, hmm⟩ : ∃ mm, a.length = c.length + 1 + mm := ⟨a.length - c.length - 1, by omega⟩
      have sum := gr_sum b (u.length - a.length) mm
      rw [show u.length - a.length + 1 + mm + 1 = u.length - c.length + 1 by omega, ← show a.length + 1 - c.length = mm + 2 by omega] at sum
      refine ⟨_, rfl, .inl ⟨rfl, _, .of hD5⟩, ?_⟩
      refine tLc_list ?_
      refine ⟨_, rfl, _, rfl, D, _, _, _, rfl, rfl, .of hD5, atI_m2 _ _ _, _, rfl, _, rfl, D, _, _, _, rfl, rfl, .of hD5, atI_m1 _ _ _, ?_⟩
      refine ⟨_, _, rfl, a, c, _, _, hx5, hy5, .inr aNE.2, cNE, by omega, by omega, ba, bc, Nat.le_trans sum (Nat.le_trans (gr_le b (by omega)) hg1), fun h2 => Nat.lt_of_le_of_lt (Nat.le_trans sum (gr_le b (by omega))) hg2, fun z H6 rs e6 hz6 hrs nrs lrs brs => ?_⟩
      obtain ⟨q, rfl, hq⟩ := hz6
      refine ⟨q, rfl, ⟨_, .of hq⟩, ?_⟩
      refine LcBL (rs.map fun x => 0 - x) rep_I (.of hq) (by simp) (by rw [List.length_map]; omega) ?_ ?_ ?_
      · exact fun _ => rfl
      · intro i x d H7 F zs hx hd e7 hF Q' q'
        rw [List.getElem?_map] at hx hd
        cases e : rs[i]? with
        | none => rw [e] at hx; cases hx
        | some r =>
          rw [e] at hx hd
          cases hx; cases hd
          exact ⟨_, rfl, _, _, rfl, rfl, q' _ _ (Evl.Ex.refl _) rfl (by intro e; cases e)⟩
      · intro F H7 zs hF e7 hz7 hp7
        rw [ints_eq hp7] at hz7
        have e67 := e6.trans e7
        have hD7 := e67 _ _ hD5
        have all7 : Paired (LsI H7) (us ++ [.ref px, .ref py]) (pre ++ [a, c]) := p2_mono (fun _ _ r => r.mono e67) all5
        have lF : LsI H7 (.ref F) (rs.map fun x => 0 - x) := ⟨F, rfl, hz7⟩
        have hlen : (us ++ [V.ref px, V.ref py]).length < sizeLine := by
          have h1 := hus.length
          rw [List.length_append]
          exact Nat.lt_of_lt_of_le (show us.length + 2 < 100 by omega) (by decide)
        have nz : ∀ i, cf (rs.map fun x => 0 - x) i = 0 - cf rs i := fun i => by
          unfold cf
          rw [List.getD_eq_getElem?_getD, List.getD_eq_getElem?_getD, List.getElem?_map]
          cases rs[i]? <;> simp
        obtain ⟨r, cc, hr, hcc, hri⟩ := hrs
        have rel : Rel a c (rs.map fun x => 0 - x) := hr.rel cc hcc fun i => by
          show cf r i = - (cc * cf (rs.map fun x => 0 - x) i)
          rw [nz, hri, Int.zero_sub, Int.mul_neg, Int.neg_neg]
        have nrm : Nrm (rs.map fun x => 0 - x) := by
          rcases nrs with e | e
          · exact .inl (by rw [e]; rfl)
          · refine .inr ?_
            rw [top_cf, List.length_map, nz]
            intro z
            have : cf rs (rs.length - 1) = 0 := by omega
            exact e this
        have ll : (rs.map fun x => 0 - x).length < c.length := by rw [List.length_map]; exact lrs
        have ch2 := Ch.snoc cNE nrm ll rel hch
        refine ⟨D, _, _, rfl, rfl, hD7, hlen, ?_⟩
        have put : ∀ {vv rr}, LsI H7 vv rr → LsI (upd H7 D (.lst (us ++ [V.ref px, V.ref py] ++ [V.ref F]))) vv rr := fun h => rep_L.off (lsI_ne hD7 all7 vne h) (fun a o' ne h => by rw [upd_ne ne]; exact h) h
        refine ⟨_, ll, us ++ [.ref px], .ref py, .ref F, pre ++ [a], c, rs.map fun x => 0 - x, rest ++ [rs.map fun x => 0 - x], rfl, Evl.Ex.mut (ex5.trans e67) hD0, ?_, ?_, ?_, put (hy5.mono e67), put lF, ?_, ?_, by rw [List.length_append]; show pre.length + 1 + c.length ≤ _; omega, fun i hi => Nat.le_trans (bc i hi) (Nat.pow_le_pow_right (by decide) (gr_le b (by omega))), fun i hi => ?_, rfl⟩
        · have hlp : LsI H7 (.ref p) u := ⟨p, rfl, e67 _ _ hp5⟩
          obtain ⟨p', ep, hp'⟩ := put hlp
          injection ep with ep
          rw [← ep] at hp'
          exact hp'
        · rw [upd_same]; simp
        · exact p2_app (p2_mono (fun _ _ r => put (r.mono e67)) hus5) (.cons (put (hx5.mono e67)) .nil)
        · rw [List.append_assoc]; exact ch2
        · rw [List.append_assoc]
          show pre ++ ([a, c] ++ [rs.map fun x => 0 - x]) = _
          rw [← List.append_assoc, hhd]; rfl
        · obtain ⟨x, hx, rfl⟩ := List.mem_map.mp hi
          have := brs x hx
          rw [show (0 - x).natAbs = x.natAbs by omega]
          exact Nat.le_trans this (Nat.pow_le_pow_right (by decide) sum)
    | nil =>
      refine iteF ?_
      have vlen := hus.length
      refine ⟨_, rfl, .inl ⟨rfl, _, .of hD5⟩, D, _, V.ref py, rfl, rfl, hD5, ?_, ?_⟩
      · rw [List.length_append]
        show (us ++ [V.ref px, V.ref py])[us.length + 2 - 1]? = _
        rw [List.getElem?_append_right (by omega), show us.length + 2 - 1 - us.length = 1 by omega]; rfl
      have edl : (us ++ [V.ref px, V.ref py]).dropLast = us ++ [.ref px] := by
        rw [show us ++ [V.ref px, V.ref py] = (us ++ [.ref px]) ++ [.ref py] by simp, List.dropLast_concat]
      rw [edl]
      have put : ∀ {vv rr}, LsI H5 vv rr → LsI (upd H5 D (.lst (us ++ [V.ref px]))) vv rr := fun h => rep_L.off (lsI_ne hD5 all5 vne h) (fun a o' ne h => by rw [upd_ne ne]; exact h) h
      have all6 : Paired (LsI (upd H5 D (.lst (us ++ [V.ref px])))) (us ++ [.ref px]) (pre ++ [a]) := p2_app (p2_mono (fun _ _ r => put r) hus5) (.cons (put hx5) .nil)
      have hp6 : LsI (upd H5 D (.lst (us ++ [V.ref px]))) (.ref p) u := put ⟨p, rfl, hp5⟩
      have hx6 := put hx5
      have hD6 : (upd H5 D (.lst (us ++ [V.ref px]))) D = some (.lst (us ++ [V.ref px])) := upd_same
      have ex6 : Ex H (upd H5 D (.lst (us ++ [V.ref px]))) := Evl.Ex.mut ex5 hD0
      generalize upd H5 D (.lst (us ++ [V.ref px])) = H6 at *
      have allNE := hch.all
      have rlen := all6.length
      have rl : (pre ++ [a]).length ≤ 10 := by rw [List.length_append]; show pre.length + 1 ≤ 10; omega
      dsimp only [tSeq, tRet, tCB, tCall, tCons, tNext, gName, tAsg, tNil, tIfS, tOp, tC]
      refine LcL ((pre ++ [a]).map far) (R := IsB) rep_B (fun F f => ⟨_, rfl, f⟩) (.of hD6) (by rw [List.length_map]; exact rlen) (by omega) ?_ ?_ ?_
      · exact fun _ => rfl
      · intro i x d H7 F zs hx hd e7 hF Q' q'
        obtain ⟨r, hr, ⟨q, rfl, hq⟩⟩ := p2_left all6 hx
        rw [List.getElem?_map, hr] at hd
        cases hd
        have rne := allNE r (List.mem_of_getElem? hr)
        exact ⟨_, rfl, _, rfl, q, _, _, _, rfl, rfl, .of (e7 _ _ hq), atI_top rne.pos, _, _, rfl, rfl, q' _ _ (Evl.Ex.refl _) rfl (by intro e; cases e)⟩
      intro F H7 zs hF e7 hz7 hp7
      rw [bools_eq hp7] at hz7
      have all7 : Paired (LsI H7) (us ++ [.ref px]) (pre ++ [a]) := p2_mono (fun _ _ r => r.mono e7) all6
      have hD7 := e7 _ _ hD6
      refine LcZ (a := F) (b := D) (pre ++ [a]).length (fun i => V.bl (near ((pre ++ [a]).getD i []))) (fun G f => ⟨_, rfl, _, rfl, f⟩) (.of hz7) (.of hD7) (by rw [List.length_map, List.length_map]) rlen (by omega) ?_ ?_ ?_
      · exact fun _ _ => rfl
      · intro i x y H8 hx hy e8 G f
        obtain ⟨r, hr, ⟨q, rfl, hq⟩⟩ := p2_left all7 hy
        rw [List.getElem?_map, List.getElem?_map, hr] at hx
        cases hx
        have er : (pre ++ [a]).getD i [] = r := by rw [List.getD_eq_getElem?_getD, hr]; rfl
        rw [er] at f
        refine ⟨_, rfl, _, rfl, q, _, rfl, .inl (.of (e8 _ _ hq)), _, _, rfl, rfl, ⟨by decide, by decide⟩, _, _, rfl, rfl, ?_, _, rfl, q, _, rfl, .inl (.of (e8 _ _ hq)), rfl, rfl, ?_⟩
        · rw [List.length_map]
          have hrl : r.length ≤ 9 := Ch.len9 hch (by rw [hhd]; rfl) hl9 r (List.mem_of_getElem? hr)
          exact Sm.mul (Sm.of (Nat.lt_of_lt_of_le (by omega : ((r.length : Int) / 2).natAbs < 100) (by decide +kernel))) (Sm.of (by decide))
        · have : decide (V.bl (far r) = V.bl (!decide (V.int (((r.map V.int).length : Int) / 2 * 2) = V.int ((r.map V.int).length : Int)))) = near r := by
            rw [List.length_map]
            unfold near odd
            have e9 : decide (V.int ((r.length : Int) / 2 * 2) = V.int (r.length : Int)) = decide ((r.length : Int) / 2 * 2 = (r.length : Int)) := by
              by_cases q : (r.length : Int) / 2 * 2 = (r.length : Int)
              · rw [q]; simp
              · rw [decide_eq_false q, decide_eq_false]
                intro z; injection z with z; exact q z
            rw [e9]
            cases far r <;> cases decide ((r.length : Int) / 2 * 2 = (r.length : Int)) <;> rfl
          show G (V.bl (decide (V.bl (far r) = V.bl (!decide (V.int (((r.map V.int).length : Int) / 2 * 2) = V.int ((r.map V.int).length : Int)))))) H8
          rw [this]
          exact f
      intro G H8 hG e8 hz8
      have hnear : (List.range (pre ++ [a]).length).map (fun i => V.bl (near ((pre ++ [a]).getD i []))) = ((pre ++ [a]).map near).map V.bl := by
        refine List.ext_getElem? fun k => ?_
        rw [List.getElem?_map, List.getElem?_map, List.getElem?_map]
        rcases Nat.lt_or_ge k (pre ++ [a]).length with q | q
        · rw [List.getElem?_range q, List.getElem?_eq_getElem q]
          show some (V.bl (near ((pre ++ [a]).getD k []))) = some (V.bl (near (pre ++ [a])[k]))
          rw [List.getD_eq_getElem?_getD, List.getElem?_eq_getElem q]; rfl
        · rw [List.getElem?_eq_none (by simpa using q), List.getElem?_eq_none q]; rfl
      rw [hnear] at hz8
      have e68 := e7.trans e8
      refine ⟨_, rfl, _, rfl, (pre ++ [a]).map near, ⟨G, rfl, hz8⟩, by rw [List.length_map]; omega, fun H9 e9 => ?_⟩
      refine ⟨_, rfl, _, rfl, (pre ++ [a]).map far, ⟨F, rfl, e9 _ _ (e8 _ _ hz7)⟩, by rw [List.length_map]; omega, fun H10 e10 => ?_⟩
      have e610 := (e68.trans e9).trans e10
      refine ⟨_, _, rfl, rfl, ?_⟩
      obtain ⟨p', ep, hp'⟩ := hp6.mono e610
      injection ep with ep
      subst ep
      obtain ⟨px', epx, hpx'⟩ := hx6.mono e610
      injection epx with epx
      subst epx
      refine ⟨_, rfl, p, _, rfl, .inl (.of hp'), _, rfl, _, rfl, D, _, _, _, rfl, rfl, .of (e610 _ _ hD6), atI_last _ _, px, _, rfl, .inl (.of hpx'), _, _, rfl, rfl, rfl, ?_⟩
      refine k _ _ (ex6.trans e610) ?_
      rw [← count_end hch hhd, List.length_map, List.length_map]
      constructor
      · intro z
        have := of_decide_eq_true z
        injection this
      · intro z
        exact decide_eq_true (congrArg V.int z)
def spKeptT : Sp := fun vs H Q _ => ∃ v, vs = [v] ∧ ∃ l, LsT H v l ∧ Tr l ∧ LFine l ∧ ∀ H' b, Ex H H' → (b = true ↔ RR (en l)) → Q (.bl b) H'
theorem sc__law_is_kept : FnScope ["_law_curve_here"] ["_law_curve_here"] (defScope (tp 82)) := ⟨rfl, rfl, rfl, by decide +kernel, rfl, by decide +kernel, by decide +kernel⟩
theorem ok__law_is_kept (T : Tx K mg) : Ok P w K mg base 4 "_law_is_kept" ["_law_curve_here"] (spKeptT) := by
  have O__law_is_fenced := ok__law_is_fenced (P := P) (w := w) (base := base) T
  refine T.d__law_is_kept.ok sc__law_is_kept (fun vs H Q E h => ?_) (fun _ _ _ _ _ _ us hl => match us, hl with | [_], _ => rfl) (fun cdv A outer s H vs Q E hr h => ?_)
  · obtain ⟨_, rfl, _⟩ := h
    rfl
  · refine ⟨_, (pss_one (ps_ret (pe_or (pe_cmpR (op_eqNil (Nat.lt_of_le_of_lt (Nat.le_trans (Nat.le_add_right _ _) (Nat.le_add_right _ _)) hr.un)) (pv 0) (pe_lst pa_nil) (nomark _)) (pe_one (pe_c O__law_is_fenced (hr.mono (by decide)) (by rfl) (pa_cons (pv 0) pa_nil)))))), ?_⟩
    obtain ⟨v, rfl, a, hv, ta, hf, k⟩ := h
    obtain ⟨p, xs, rfl, h1, h2⟩ := id hv
    have hl := h2.length
    refine ⟨_, rfl, (by show 0 ≤ sizeLine; decide), fun q hq => ?_⟩
    have e1 := Evl.Ex.new (o := .lst []) hq
    refine ⟨p, q, xs, rfl, rfl, .of (e1 _ _ h1), .of upd_same, ?_⟩
    cases a with
    | nil =>
      have : xs = [] := List.eq_nil_of_length_eq_zero hl
      subst this
      refine ⟨_, rfl, iteT (k _ _ e1 ?_)⟩
      exact ⟨fun _ => rr_nil rfl, fun _ => rfl⟩
    | cons x l =>
      cases xs with
      | nil => cases hl
      | cons y ys =>
        exact ⟨_, rfl, iteF ⟨_, rfl, _, rfl, _, hv.mono e1, by simp, ta, hf, fun H' b e2 hb => k _ _ (e1.trans e2) hb⟩⟩
end
end K66

set_option Elab.async false
set_option linter.all false
set_option maxRecDepth 100000
set_option exponentiation.threshold 100000
namespace K66
theorem In.conv {a b d e : Nat} {q : Rat} (h : In a d q) (f : Nat) (he : e = d * f) (hb : a * f ≤ b) : In b e q := by
  rw [he]; exact (h.scale f).mono hb
theorem InL.conv {a b d e : Nat} {l : List Rat} (h : InL a d l) (f : Nat) (he : e = d * f) (hb : a * f ≤ b) : InL b e l := fun q hq => (h q hq).conv f he hb
/-- a number of the law: z over 1, 2 or 3 -/
theorem in6 {z : Int} {e a : Nat} (he : e < 3) (hz : z.natAbs ≤ a) : In (6 * a) 6 (Rat.divInt z (1 + (e : Int))) := by
  rw [Rat.divInt_eq_div]
  have h3 : ∀ (c f : Nat), c * f = 6 → In (6 * a) 6 ((z : Rat) / ((c : Nat) : Rat)) := fun c f hc => by
    refine ⟨z * f, ?_, ?_⟩
    · have e1 : ((6 : Nat) : Rat) = (c : Rat) * (f : Rat) := by rw [← hc, Rat.natCast_mul]
      have e2 : (((f : Nat) : Int) : Rat) = (f : Rat) := rfl
      have hc0 : (c : Rat) ≠ 0 := fun y => by
        have : c = 0 := by exact_mod_cast y
        rw [this] at hc; omega
      rw [e1, Rat.intCast_mul, e2]; grind -verbose
    · rw [Int.natAbs_mul, Int.natAbs_natCast]
      have : f ≤ 6 := by
        rcases Nat.eq_zero_or_pos c with y | y
        · rw [y] at hc; omega
        · rw [← hc]; exact Nat.le_mul_of_pos_left f y
      rw [Nat.mul_comm]
      exact Nat.mul_le_mul this hz
  have hcast : ((1 + (e : Int) : Int) : Rat) = ((1 + e : Nat) : Rat) := by
    have : (1 + (e : Int) : Int) = ((1 + e : Nat) : Int) := by omega
    rw [this]; rfl
  rw [hcast]
  rcases (by omega : e = 0 ∨ e = 1 ∨ e = 2) with h | h | h
  · subst h; exact h3 1 6 rfl
  · subst h; exact h3 2 3 rfl
  · subst h; exact h3 3 2 rfl
/-- products of m lines -/
def LinC (m : Nat) (l : List Rat) : Prop := Lin m (en l) ∧ l.length = m + 1 ∧ Tr l ∧ InL (4 * 512 ^ m) (2 * 6 ^ m) l
def CuC (n : Nat) (l : List Rat) : Prop := Tr l ∧ l.length ≤ n + 1 ∧ InL (2 ^ 38) 2592 l
def RuC (q : List Rat) : Prop := Tr q ∧ q.length ≤ 5 ∧ InL (2 ^ 54) 104509440 q
theorem LinC.ne {m : Nat} {l : List Rat} (h : LinC m l) : l ≠ [] := fun e => by
  have := h.2.1
  rw [e] at this; simp at this
theorem LinC.cu {m : Nat} {l : List Rat} (h : LinC m l) (hm : m ≤ 4) : CuC m l := by
  obtain ⟨_, h2, h3, h4⟩ := h
  refine ⟨h3, by omega, ?_⟩
  rcases (by omega : m = 0 ∨ m = 1 ∨ m = 2 ∨ m = 3 ∨ m = 4) with e | e | e | e | e
  · subst e; exact h4.conv 1296 (by decide) (by decide)
  · subst e; exact h4.conv 216 (by decide) (by decide)
  · subst e; exact h4.conv 36 (by decide) (by decide)
  · subst e; exact h4.conv 6 (by decide) (by decide)
  · subst e; exact h4.conv 1 (by decide) (by decide)
theorem CuC.ru {n : Nat} {l : List Rat} (h : CuC n l) (hn : n ≤ 4) : RuC l := ⟨h.1, by have := h.2.1; omega, h.2.2.conv 40320 (by decide) (by decide)⟩
theorem CuC.rt {n : Nat} {l : List Rat} (h : CuC n l) (hn : n ≤ 4) : RuC (trim (rtL l n)) := by
  have h1 := trim_len (rtL l n)
  have h2 := rtL_len l n
  exact ⟨tr_trim _, by omega, ((inl_rtL h.2.2 (by omega)).trim).conv 1 (by decide) (by decide)⟩
theorem LinC.base {c : Rat} (hc : c ≠ 0) (hi : In 4 2 c) : LinC 0 [c] := by
  have e : en [c] = cst c := funext fun k => by
    unfold en cst
    cases k with
    | zero => rfl
    | succ k => rfl
  refine ⟨by rw [e]; exact .base c hc, rfl, fun _ => hc, fun q hq => ?_⟩
  have : q = c := by simpa using hq
  rw [this]; exact hi
theorem en_line (r : Rat) : en [-r, 1] = ml r (cst 1) := funext fun k => by
  unfold ml cst
  match k with
  | 0 => show -r = 0 - r * 1; grind -verbose
  | 1 => show (1 : Rat) = 1 - r * 0; grind -verbose
  | k + 2 => show (0 : Rat) = 0 - r * 0; grind -verbose
theorem line_in {r : Rat} (h : In 48 6 r) : InL 48 6 [-r, 1] := fun q hq => by
  rcases List.mem_cons.mp hq with e | hq
  · rw [e]
    obtain ⟨n, h1, h2⟩ := h
    refine ⟨-n, ?_, by omega⟩
    rw [Rat.intCast_neg, ← h1]; grind -verbose
  · have : q = 1 := by simpa using hq
    rw [this]
    exact ⟨6, by
      show (1 : Rat) * 6 = 6
      grind -verbose, by decide⟩
theorem mulL_len {a b : List Rat} (ha : a ≠ []) (hb : b ≠ []) : (mulL a b).length = a.length + b.length - 1 := by
  unfold mulL
  have h1 : a.length ≠ 0 := fun e => ha (List.eq_nil_of_length_eq_zero e)
  have h2 : b.length ≠ 0 := fun e => hb (List.eq_nil_of_length_eq_zero e)
  rw [if_neg (by omega), List.length_map, List.length_range]
theorem mulL_en (a b : List Rat) : en (mulL a b) = pm (en a) (en b) := funext fun k => en_mulL a b k
theorem LinC.mul {m n : Nat} {a b : List Rat} (ha : Lin m (en a)) (hb : Lin n (en b)) (la : a.length = m + 1) (lb : b.length = n + 1) : Lin (m + n) (en (mulL a b)) ∧ (mulL a b).length = m + n + 1 ∧ Tr (mulL a b) := by
  have h1 : Lin (m + n) (en (mulL a b)) := by rw [mulL_en]; exact lin_mul ha hb
  have h2 : (mulL a b).length = m + n + 1 := by
    rw [mulL_len (fun e => by rw [e] at la; simp at la) (fun e => by rw [e] at lb; simp at lb)]; omega
  refine ⟨h1, h2, fun _ => ?_⟩
  rw [h2]
  exact h1.top
theorem LinC.step {m : Nat} {l : List Rat} {r : Rat} (h : LinC m l) (hr : In 48 6 r) (hm : m ≤ 3) : LinC (m + 1) (trim (mulL l [-r, 1])) := by
  obtain ⟨h1, h2, h3, h4⟩ := h
  have hl : Lin 1 (en [-r, 1]) := by rw [en_line]; exact .step r (.base 1 (by decide))
  obtain ⟨g1, g2, g3⟩ := LinC.mul h1 hl h2 rfl
  have g4 := h4.mul (line_in hr)
  rw [trim_of_tr g3]
  refine ⟨g1, g2, g3, g4.conv 1 (by rw [Nat.pow_succ]; omega) ?_⟩
  rw [h2]
  show (m + 1 + 2) * (4 * 512 ^ m * 48) * 1 ≤ _
  rw [Nat.pow_succ, Nat.mul_one]
  have : (m + 1 + 2) * (4 * 512 ^ m * 48) ≤ 6 * (4 * 512 ^ m * 48) := Nat.mul_le_mul_right _ (by omega)
  refine Nat.le_trans this ?_
  generalize 512 ^ m = x
  omega
def fall (n : Nat) : Nat → Nat
  | 0 => 1
  | j + 1 => fall n j * (n - j)
theorem der_mono (n : Nat) (c : Rat) : der (fun k => c * mono (n + 1) k) = fun k => (c * ((n + 1 : Nat) : Rat)) * mono n k := funext fun k => by
  show ((k + 1 : Nat) : Rat) * (c * (if k + 1 = n + 1 then 1 else 0)) = (c * ((n + 1 : Nat) : Rat)) * (if k = n then 1 else 0)
  by_cases h : k = n
  · rw [if_pos (by omega), if_pos h, h]; grind -verbose
  · rw [if_neg (by omega), if_neg h]; grind -verbose
theorem der_mono0 (c : Rat) : der (fun k => c * mono 0 k) = fun k => 0 := funext fun k => by
  show ((k + 1 : Nat) : Rat) * (c * (if k + 1 = 0 then 1 else 0)) = 0
  rw [if_neg (by omega)]; grind -verbose
theorem img_mono : ∀ (q : List Rat) (n : Nat) (c : Rat) (k : Nat), k ≤ n → img q (fun k => c * mono n k) k = c * en q (n - k) * (fall n (n - k) : Rat)
  | [], n, c, k, _ => by
    show (0 : Rat) = c * en [] (n - k) * _
    have : en ([] : List Rat) (n - k) = 0 := rfl
    rw [this]; grind -verbose
  | a :: q, 0, c, k, hk => by
    obtain rfl : k = 0 := by omega
    show a * (c * mono 0 0) + img q (der fun k => c * mono 0 k) 0 = c * en (a :: q) 0 * ((1 : Nat) : Rat)
    rw [der_mono0, img_nought q (fun _ => rfl)]
    have e1 : mono 0 0 = 1 := rfl
    have e2 : en (a :: q) 0 = a := rfl
    have e3 : ((1 : Nat) : Rat) = 1 := rfl
    rw [e1, e2, e3]; grind -verbose
  | a :: q, n + 1, c, k, hk => by
    show a * (c * mono (n + 1) k) + img q (der fun k => c * mono (n + 1) k) k = _
    rw [der_mono]
    by_cases h : k = n + 1
    · subst h
      have z : img q (fun k => (c * ((n + 1 : Nat) : Rat)) * mono n k) (n + 1) = 0 := img_up q (n := n) (fun k hk => by
        show (c * _) * mono n k = 0
        rw [mono_up (Nat.le_refl n) k hk]; grind -verbose) (n + 1) (by omega)
      rw [z, Nat.sub_self]
      have e1 : mono (n + 1) (n + 1) = 1 := if_pos rfl
      have e2 : en (a :: q) 0 = a := rfl
      have e3 : ((fall (n + 1) 0 : Nat) : Rat) = 1 := rfl
      rw [e1, e2, e3]; grind -verbose
    · rw [img_mono q n _ k (by omega)]
      have e0 : mono (n + 1) k = 0 := if_neg h
      have e1 : n + 1 - k = (n - k) + 1 := by omega
      have e2 : en (a :: q) (n - k + 1) = en q (n - k) := rfl
      have e3 : fall (n + 1) (n - k + 1) = (n + 1) * fall n (n - k) := fall_succ n (n - k)
      rw [e0, e1, e2, e3, Rat.natCast_mul]; grind -verbose
where
  fall_succ (n : Nat) : ∀ j, fall (n + 1) (j + 1) = (n + 1) * fall n j
    | 0 => by show 1 * (n + 1 - 0) = (n + 1) * 1; omega
    | j + 1 => by
      show fall (n + 1) (j + 1) * (n + 1 - (j + 1)) = (n + 1) * (fall n j * (n - j))
      rw [fall_succ n j, Nat.mul_assoc, show n + 1 - (j + 1) = n - j by omega]
/-- what the law's own image holds -/
def imT (q : List Rat) (n : Nat) : List Rat := trim ((List.range (n + 1)).map fun k => en q (n - k) * (fall n (n - k) : Rat))
theorem en_imT (q : List Rat) (n : Nat) : en (imT q n) = img q (mono n) := funext fun k => by
  unfold imT
  rw [en_trim, en_rmap]
  have e : (fun k => 1 * mono n k) = mono n := funext fun k => by grind -verbose
  by_cases h : k < n + 1
  · have := img_mono q n 1 k (by omega)
    rw [e] at this
    rw [if_pos h, this]; grind -verbose
  · rw [if_neg h]
    exact (img_up q (mono_up (Nat.le_refl n)) k (by omega)).symm
theorem imT_len (q : List Rat) (n : Nat) : (imT q n).length ≤ n + 1 := by
  unfold imT
  refine Nat.le_trans (trim_len _) ?_
  rw [List.length_map, List.length_range]; exact Nat.le_refl _
theorem imT_in {q : List Rat} {n B e F : Nat} (h : InL B e q) (hF : ∀ j, j < q.length → fall n j ≤ F) : InL (B * F) e (imT q n) := by
  unfold imT
  refine InL.trim (fun x hx => ?_)
  obtain ⟨k, hk, rfl⟩ := List.mem_map.mp hx
  rcases Nat.lt_or_ge (n - k) q.length with c | c
  · have := (h.en (n - k)).mul (In.int (a := F) ((fall n (n - k) : Nat) : Int) (by rw [Int.natAbs_natCast]; exact hF _ c))
    rw [Nat.mul_one] at this
    exact this
  · rw [en_big c]
    have : (0 : Rat) * (fall n (n - k) : Rat) = 0 := by grind -verbose
    rw [this]; exact In.zero _ _
/-- the rule that leads to a leads to a -/
theorem pf_fall (n : Nat) : ∀ j, j ≤ n → pf n j * (fall n j : Rat) = 1
  | 0, _ => by show (1 : Rat) * 1 = 1; grind -verbose
  | j + 1, h => by
    have ih := pf_fall n j (by omega)
    show pf n j / ((n - j : Nat) : Rat) * ((fall n j * (n - j) : Nat) : Rat) = 1
    have hne : ((n - j : Nat) : Rat) ≠ 0 := fun e => by
      have : n - j = 0 := by exact_mod_cast e
      omega
    rw [Rat.natCast_mul]; grind -verbose
theorem img_rtL {a : List Rat} {n : Nat} (hl : a.length ≤ n + 1) : img (rtL a n) (mono n) = en a := funext fun k => by
  have e : (fun k => 1 * mono n k) = mono n := funext fun k => by grind -verbose
  by_cases h : k ≤ n
  · have := img_mono (rtL a n) n 1 k h
    rw [e] at this
    rw [this, en_rtL, if_pos (by omega), show n - (n - k) = k by omega]
    have p := pf_fall n (n - k) (by omega)
    grind -verbose
  · rw [img_up _ (mono_up (Nat.le_refl n)) k (by omega), en_big (by omega)]
end K66

set_option Elab.async false
set_option linter.all false
set_option maxRecDepth 100000
set_option exponentiation.threshold 100000
namespace K66
theorem fit4 : Fit 4 (2 ^ 54 * 10 ^ 9) := by unfold Fit; decide +kernel
theorem fit5 : Fit 5 (2 ^ 38 * 10 ^ 9) := by unfold Fit; decide +kernel
theorem fit8 : Fit 8 (3 * 10 ^ 9) := by unfold Fit; decide +kernel
theorem fitB : Fit 4 (2 ^ 96 * 10 ^ 9) := by unfold Fit; decide +kernel
theorem fine54 {q : List Rat} {n : Nat} (hl : q.length ≤ 9) (h : InL (2 ^ 54) 104509440 q) (hn : n ≤ 4) : RuleFine n q :=
  ⟨hl, 2 ^ 54, 104509440, h, by decide, by decide +kernel, by decide +kernel, by decide +kernel, fit4.le hn (by decide +kernel)⟩
theorem RuC.fine {q : List Rat} (h : RuC q) {n : Nat} (hn : n ≤ 4) : RuleFine n q := fine54 (by have := h.2.1; omega) h.2.2 hn
theorem LinC.fine {m : Nat} {o : List Rat} (h : LinC m o) (hm : m ≤ 3) : RuleFine 5 o :=
  ⟨by have := h.2.1; omega, 2 ^ 38, 2592, (h.cu (by omega)).2.2, by decide, by decide +kernel, by decide +kernel, by decide +kernel, fit5⟩
theorem lfine_of {l : List Rat} {A d b : Nat} (hl : l.length ≤ 5) (h : InL A d l) (hd : 0 < d) (hd2 : d < 2 ^ 3000) (hA : A ≤ 2 ^ b) (hb : b ≤ 2000) (h1 : gr b 5 ≤ 19000) (h2 : gr b 4 < 9000) : LFine l :=
  ⟨by omega, A, d, b, h, hd, hd2, hA, hb, Nat.le_trans (gr_le b hl) h1, Nat.lt_of_le_of_lt (gr_le b (by omega)) h2⟩
theorem fall4 : ∀ n, n < 5 → ∀ j, j < 5 → fall n j ≤ 24 := by decide
theorem RuC.im {q : List Rat} (h : RuC q) {n : Nat} (hn : n ≤ 4) : LFine (imT q n) := by
  have hl := imT_len q n
  have hi : InL (2 ^ 54 * 24) 104509440 (imT q n) := imT_in h.2.2 fun j hj => fall4 n (by omega) j (by have := h.2.1; omega)
  exact lfine_of (b := 59) (by omega) hi (by decide) (by decide +kernel) (by decide +kernel) (by decide) (by decide +kernel) (by decide +kernel)
theorem CuC.lfine {n : Nat} {l : List Rat} (h : CuC n l) (hn : n ≤ 4) : LFine l :=
  lfine_of (b := 38) (by have := h.2.1; omega) h.2.2 (by decide) (by decide +kernel) (Nat.le_refl _) (by decide) (by decide +kernel) (by decide +kernel)
/-- the curves that the rule is tried on -/
def TrC (n : Nat) (l : List Rat) : Prop := (∃ m, m ≤ n ∧ Lin m (en l) ∧ l.length = m + 1) ∧ Tr l ∧ InL (2 ^ 79) 6718464 l
theorem LinC.trc {m n : Nat} {l : List Rat} (h : LinC m l) (hm : m ≤ n) (hn : n ≤ 4) : TrC n l := ⟨⟨m, hm, h.1, h.2.1⟩, h.2.2.1, (h.cu (by omega)).2.2.conv 2592 (by decide) (by decide +kernel)⟩
theorem LinC.sq {m n : Nat} {l : List Rat} (h : LinC m l) (hm : 2 * (m + 1) - 2 ≤ n) (hn : n ≤ 4) : TrC n (trim (mulL l l)) := by
  obtain ⟨g1, g2, g3⟩ := LinC.mul h.1 h.1 h.2.1 h.2.1
  rw [trim_of_tr g3]
  have c := h.cu (by omega)
  have := c.2.2.mul c.2.2
  refine ⟨⟨m + m, by omega, g1, g2⟩, g3, this.conv 1 (by decide) ?_⟩
  rw [h.2.1, Nat.mul_one]
  have : (m + 1 + (m + 1)) * (2 ^ 38 * 2 ^ 38) ≤ 6 * (2 ^ 38 * 2 ^ 38) := Nat.mul_le_mul_right _ (by omega)
  exact Nat.le_trans this (by decide +kernel)
theorem TrC.rr {n : Nat} {l : List Rat} (h : TrC n l) (hn : n ≤ 4) : RRn n (en l) ∧ Up n (en l) ∧ l.length ≤ n + 1 := by
  obtain ⟨⟨m, hm, hl, hlen⟩, _, _⟩ := h
  have up : Up n (en l) := fun k hk => hl.up k (by omega)
  exact ⟨(rr_le hl.up hm).mpr (hl.rr (by omega)), up, by omega⟩
theorem TrC.img {n : Nat} {l q : List Rat} (h : TrC n l) (hq : RuC q) (hn : n ≤ 4) : ImgOk l q ∧ LFine (trim (imgL [] (trim l) (trim q))) ∧ (imgL [] (trim l) (trim q)).length ≤ 10000 := by
  obtain ⟨_, up, hlen⟩ := h.rr hn
  have hq5 := hq.2.1
  have t1 := trim_len l
  have t2 := trim_len q
  have hi : InL (2 ^ 79 * 2 ^ 54 * 10 ^ 9) (6718464 * 104509440) (imgL [] (trim l) (trim q)) := inl_imgL (A := 2 ^ 79) (d := 6718464) (trim q) 0 [] (trim l) (InL.nil _ _) (by rw [Nat.pow_zero, Nat.mul_one]; exact h.2.2.trim) hq.2.2.trim (Nat.zero_le _) (by omega) (by omega)
  have hlen2 : (imgL [] (trim l) (trim q)).length ≤ n + 1 := tr_len (tr_imgL _ _ _ tr_nil) (by
    rw [en_img, en_trim']
    exact img_up _ up)
  have t3 := trim_len (imgL [] (trim l) (trim q))
  refine ⟨⟨by omega, by omega, 2 ^ 79, 6718464, 2 ^ 54, 104509440, h.2.2, hq.2.2, by decide, by decide, by decide +kernel, by decide +kernel, by decide +kernel, by decide +kernel⟩, ?_, by omega⟩
  exact lfine_of (b := 163) (by omega) hi.trim (by decide) (by decide +kernel) (by decide +kernel) (by decide) (by decide +kernel) (by decide +kernel)
theorem img_trims (l q : List Rat) {n : Nat} (hu : Up n (en l)) : en (trim (imgL [] (trim l) (trim q))) = img q (en l) := by
  rw [en_trim', en_img, en_trim']
  exact funext fun i => img_same _ _ (en_trim' q) hu i
theorem walsh' {q : List Rat} {n : Nat} (hn : n ≤ 4) {f : Nat → Rat} (hf : Up n f) (hg : RR (img q (mono n))) (hr : RRn n f) : RR (img q f) := by
  rw [← rr_any (img_up q hf) (by omega)]
  rw [← rr_any (img_up q (mono_up (Nat.le_refl n))) (by omega)] at hg
  exact walsh q hn hf hg hr
theorem less' {q : List Rat} {n m : Nat} (hn : n ≤ 4) (hm : m ≤ n) (h : RR (img q (mono n))) : RR (img q (mono m)) := by
  rw [← rr_any (img_up q (mono_up (Nat.le_refl m))) (by omega)]
  rw [← rr_any (img_up q (mono_up (Nat.le_refl n))) (by omega)] at h
  exact keep_less q hn hm h
theorem five' {m : Nat} {o : List Rat} (h : LinC m o) (hm : m ≤ 3) : RR (img o (mono 5)) := by
  rw [← rr_any (img_up o (mono_up (Nat.le_refl 5))) (by omega)]
  have e : img o (mono 5) = im 6 (en o) (mono 5) := funext fun i => by
    have := img_im 6 5 o 0 (mono 5) (mono_up (Nat.le_refl 5)) (by omega) i
    rw [List.drop_zero] at this
    exact this
  rw [e]
  exact lin5 h.1 hm
theorem both' {m n : Nat} {q o : List Rat} (h : LinC m o) (hn : n ≤ 4) (hq : RR (img q (mono n))) : RR (img (mulL q o) (mono n)) := by
  have up := mono_up (Nat.le_refl n)
  rw [← rr_any (img_up _ up) (by omega)]
  rw [← rr_any (img_up q up) (by omega)] at hq
  have e : ∀ r : List Rat, img r (mono n) = im (n + 1) (en r) (mono n) := fun r => funext fun i => by
    have := img_im (n + 1) n r 0 (mono n) up (by omega) i
    rw [List.drop_zero] at this
    exact this
  rw [e] at hq ⊢
  rw [mulL_en]
  exact lin_keep h.1 (en q) (mono n) hn (by omega) up hq
theorem img_tr (q : List Rat) (n : Nat) : img (trim q) (mono n) = img q (mono n) := funext fun i => img_same _ _ (en_trim' q) (mono_up (Nat.le_refl n)) i
/-- does the rule q keep at n: as a bool -/
noncomputable def kb (q : List Rat) (n : Nat) : Bool := @decide (RR (img q (mono n))) (Classical.propDecidable _)
theorem kb_iff (q : List Rat) (n : Nat) : kb q n = true ↔ RR (img q (mono n)) := by unfold kb; exact @decide_eq_true_iff _ (Classical.propDecidable _)
theorem kb_of {q : List Rat} {n : Nat} {b : Bool} (h : b = true ↔ RR (img q (mono n))) : b = kb q n := by
  have := kb_iff q n
  cases b <;> cases e : kb q n
  · rfl
  · exact absurd (h.mpr (this.mp e)) (by simp)
  · rw [e] at this
    exact absurd (this.mpr (h.mp rfl)) (by simp)
  · rfl
end K66

set_option Elab.async false
set_option linter.all false
set_option maxRecDepth 100000
set_option maxHeartbeats 2000000
set_option exponentiation.threshold 100000
namespace K66
open PySem PySem.Spec PyProof.Rows L2
open Evl (Ex)
theorem Kp.trans {F : List Addr} {H H' H'' : Hp} (h : Kp F H H') (h' : Kp F H' H'') : Kp F H H'' := fun x o hx e => h' x o hx (h x o hx e)
theorem kp_ex {F : List Addr} {H H' : Hp} (h : Ex H H') : Kp F H H' := fun x o _ e => h x o e
theorem Pot.ex {H H' : Hp} {p : Addr} (h : Pot H p) (e : Ex H H') : Pot H' p := by
  obtain ⟨x, y, h1, h2⟩ := h
  exact ⟨x, y, e _ _ h1, h2⟩
theorem isT_kp {H H' : Hp} {p : Addr} {v : V} {q : Rat} (hp : Pot H p) (hk : Kp [p] H H') (h : IsT H v q) : IsT H' v q := by
  obtain ⟨a, rfl, ha⟩ := h
  obtain ⟨x, y, h1, _⟩ := hp
  exact ⟨a, rfl, hk a _ (fun hm => by
    have : a = p := by simpa using hm
    rw [this, h1] at ha; cases ha) ha⟩
theorem p2T_kp {H H' : Hp} {p : Addr} {vs : List V} {qs : List Rat} (hp : Pot H p) (hk : Kp [p] H H') (h : Paired (IsT H) vs qs) : Paired (IsT H') vs qs := p2_mono (fun _ _ r => isT_kp hp hk r) h
theorem lst_np {H : Hp} {p a : Addr} {vs : List V} {qs : List Rat} (hp : Pot H p) (ha : H a = some (.lst vs)) (h : Paired (IsT H) vs qs) : a ≠ p := fun e => by
  obtain ⟨x, y, h1, _⟩ := hp
  rw [e, h1] at ha
  cases ha
  cases h with
  | cons r _ =>
    obtain ⟨b, e, _⟩ := r
    cases e
theorem lsT_kp {H H' : Hp} {p : Addr} {v : V} {qs : List Rat} (hp : Pot H p) (hk : Kp [p] H H') (h : LsT H v qs) : LsT H' v qs := by
  obtain ⟨a, vs, rfl, ha, h2⟩ := h
  exact ⟨a, vs, rfl, hk a _ (fun hm => lst_np hp ha h2 (by simpa using hm)) ha, p2T_kp hp hk h2⟩
theorem pot_ne {H : Hp} {p D : Addr} (hp : Pot H p) (hD : H D = none) : D ≠ p := fun e => by
  obtain ⟨x, y, h1, _⟩ := hp
  rw [e, h1] at hD
  cases hD
theorem rng_set2 {α : Type} {N t : Nat} {f g : Nat → α} {x : α} (ht : t < N) (h1 : x = g t) (h2 : ∀ m, m < N → m ≠ t → g m = f m) : ((List.range N).map f).set t x = (List.range N).map g := by
  rw [rng_set (g := fun m => if m < N then g m else f m) ht (by rw [if_pos ht]; exact h1) (fun m hm => by
    by_cases c : m < N
    · rw [if_pos c]; exact h2 m c hm
    · rw [if_neg c])]
  exact List.map_congr_left fun m hm => if_pos (List.mem_range.mp hm)
theorem isT_new {H : Hp} {t : Addr} {a b : Int} {q : Rat} (h1 : q.num = a) (h2 : (q.den : Int) = b) : IsT (upd H t (.tup [.int a, .int b])) (.ref t) q := ⟨t, rfl, by rw [upd_same, h1, h2]⟩
section
variable {P : Program} {w : World} {K : PySem.W.Frag} {mg : Str → Option Value} {base : Heap}
/-- a draw of a curve of class C -/
def Dw (C : List Rat → Prop) (p : Addr) (H : Hp) (Q : VK) : Prop := ∀ z H' l, Kp [p] H H' → Pot H' p → LsT H' z l → C l → Q z H'
def spLined : Sp := fun vs H Q _ => ∃ p, ∃ m : Nat, vs = [.ref p, .int (m : Int), .int 8] ∧ Pot H p ∧ m ≤ 4 ∧ Dw (LinC m) p H Q
theorem sc__law_lined : FnScope ["_law_pot_here", "_law_many", "_law_above", "_law_found", "_law_turn", "_law_root"] ["_law_pot_here", "_law_many", "_law_above"] (defScope (tp 77)) := ⟨rfl, rfl, rfl, by decide +kernel, rfl, by decide +kernel, by decide +kernel⟩
theorem ok__law_lined (T : Tx K mg) : Ok P w K mg base 5 "_law_lined" ["_law_pot_here", "_law_many", "_law_above"] (spLined) := by
  have O__law_pick := ok__law_pick (P := P) (w := w) (base := base) T
  have O__law_low := ok__law_low (P := P) (w := w) (base := base) T
  have O__law_product := ok__law_product (P := P) (w := w) (base := base) T
  have O__law_draw := ok__law_draw (P := P) (w := w) (base := base) T
  refine T.d__law_lined.ok sc__law_lined (fun vs H Q E h => ?_) (fun _ _ _ _ _ _ us hl => match us, hl with | [_, _, _], _ => rfl) (fun cdv A outer s H vs Q E hr h => ?_)
  · obtain ⟨_, _, rfl, _⟩ := h
    rfl
  · refine ⟨_, (pss_cons (ps_set (i := 3) sc__law_lined.nd rfl (.inl rfl) (pe_lst (pa_cons (pe_c O__law_pick (hr.mono (by decide)) (by rfl) (pa_cons (pv 0) (pa_cons (pe_lst (pa_cons (pe_tup (pa_cons pe_int (pa_cons pe_int pa_nil))) (pa_cons (pe_tup (pa_cons pe_int (pa_cons pe_int pa_nil))) (pa_cons (pe_tup (pa_cons (pe_un un_neg pe_int) (pa_cons pe_int pa_nil))) (pa_cons (pe_tup (pa_cons pe_int (pa_cons pe_int pa_nil))) pa_nil))))) pa_nil))) pa_nil)))
      (pss_cons (ps_for PassesOwn.never rfl (pi_range1 (by rfl) T.n_range (pa_cons (pv 1) pa_nil)) (pg_name (i := 4) sc__law_lined.nd rfl (.inl rfl)) (pss_cons (ps_set (i := 5) sc__law_lined.nd rfl (.inl rfl) (pe_c O__law_low (hr.mono (by decide)) (by rfl) (pa_cons (pe_op op_sub (pe_c O__law_draw (hr.mono (by decide)) (by rfl) (pa_cons (pv 0) (pa_cons (pe_op op_add pe_int (pv 2)) pa_nil))) pe_int) (pa_cons (pe_op op_add pe_int (pe_c O__law_draw (hr.mono (by decide)) (by rfl) (pa_cons (pv 0) (pa_cons pe_int pa_nil)))) pa_nil))))
      (pss_one (ps_set (i := 3) sc__law_lined.nd rfl (.inl rfl) (pe_c O__law_product (hr.mono (by decide)) (by rfl) (pa_cons (pv 3) (pa_cons (pe_lst (pa_cons (pe_tup (pa_cons (pe_op op_sub pe_int (pe_ix (ix_tupK (K := K) rfl) (pv 5) pe_int (fun _ _ => rfl))) (pa_cons (pe_ix (ix_tupK (K := K) rfl) (pv 5) pe_int (fun _ _ => rfl)) pa_nil))) (pa_cons (pe_tup (pa_cons pe_int (pa_cons pe_int pa_nil))) pa_nil))) pa_nil)))))))
      (pss_one (ps_ret (pv 3))))), ?_⟩
    obtain ⟨p, m, rfl, hp, hm, k⟩ := h
    have s2 : ∀ {n : Nat}, n = 2 → n ≤ sizeLine := fun h => by rw [h]; decide
    refine ⟨_, rfl, (by show 2 ≤ sizeLine; decide), fun t1 h1 => ?_⟩
    refine ⟨(by show 2 ≤ sizeLine; decide), fun t2 h2 => ?_⟩
    refine ⟨_, rfl, (by show 2 ≤ sizeLine; decide), fun t3 h3 => ?_⟩
    refine ⟨(by show 2 ≤ sizeLine; decide), fun t4 h4 => ?_⟩
    have i1 := isT_new (H := H) (t := t1) (q := 1) (a := 1) (b := 1) rfl rfl
    have i2 := isT_new (H := upd H t1 (.tup [.int 1, .int 1])) (t := t2) (q := 2) (a := 2) (b := 1) rfl rfl
    have i3 := isT_new (H := upd (upd H t1 (.tup [.int 1, .int 1])) t2 (.tup [.int 2, .int 1])) (t := t3) (q := -1) (a := -1) (b := 1) rfl rfl
    have i4 := isT_new (H := upd (upd (upd H t1 (.tup [.int 1, .int 1])) t2 (.tup [.int 2, .int 1])) t3 (.tup [.int (-1), .int 1])) (t := t4) (q := 1 / 2) (a := 1) (b := 2) (by decide +kernel) (by decide +kernel)
    have e1 := Evl.Ex.new (o := .tup [.int 1, .int 1]) h1
    have e2 := Evl.Ex.new (o := .tup [.int 2, .int 1]) h2
    have e3 := Evl.Ex.new (o := .tup [.int (-1), .int 1]) h3
    have e4 := Evl.Ex.new (o := .tup [.int 1, .int 2]) h4
    have all : Paired (IsT (upd (upd (upd (upd H t1 (.tup [.int 1, .int 1])) t2 (.tup [.int 2, .int 1])) t3 (.tup [.int (-1), .int 1])) t4 (.tup [.int 1, .int 2]))) [.ref t1, .ref t2, .ref t3, .ref t4] [1, 2, -1, 1 / 2] :=
      .cons (((i1.mono e2).mono e3).mono e4) (.cons ((i2.mono e3).mono e4) (.cons (i3.mono e4) (.cons i4 .nil)))
    refine ⟨(by show 4 ≤ sizeLine; decide), fun s hs => ?_⟩
    have es := Evl.Ex.new (o := .lst [.ref t1, .ref t2, .ref t3, .ref t4]) hs
    have ex := (((e1.trans e2).trans e3).trans e4).trans es
    have hps := hp.ex ex
    have all2 := p2_mono (fun _ _ r => r.mono es) all
    refine ⟨p, s, rfl, [.ref t1, .ref t2, .ref t3, .ref t4], hps, upd_same, lst_np hps upd_same all2, (by show 1 ≤ 4; decide), (by show 4 ≤ 1000; decide), fun i x H1 hk1 hp1 hx => ?_⟩
    obtain ⟨c, hc, rc⟩ := p2_left all2 hx
    have rc1 := isT_kp hps hk1 rc
    have hcm := List.mem_of_getElem? hc
    have hcP : c ≠ 0 ∧ In 4 2 c := by
      simp only [List.mem_cons, List.not_mem_nil, or_false] at hcm
      rcases hcm with e | e | e | e
      · rw [e]; exact ⟨by decide, 2, by decide +kernel, by decide⟩
      · rw [e]; exact ⟨by decide, 4, by decide +kernel, by decide⟩
      · rw [e]; exact ⟨by decide, -2, by decide +kernel, by decide⟩
      · rw [e]; exact ⟨by decide +kernel, 1, by decide +kernel, by decide⟩
    refine ⟨(by show 1 ≤ sizeLine; decide), fun F hF => ?_⟩
    have eF := Evl.Ex.new (o := .lst [x]) hF
    have hk0 : Kp [p] H (upd H1 F (.lst [x])) := ((kp_ex ex).trans hk1).trans (kp_ex eF)
    have hl0 : LsT (upd H1 F (.lst [x])) (.ref F) [c] := ⟨F, [x], rfl, upd_same, .cons (rc1.mono eF) .nil⟩
    have hp0 := hp1.ex eF
    dsimp only [tSeq, tRet, tCB, tCall, tCons, tNext, gName, tAsg, tNil, tIfS, tOp, tC]
    refine ForR1 m (fun i σ H' => ∃ z l w4 w5, σ = [some (.ref p), some (.int (m : Int)), some (.int 8), some z, w4, w5] ∧ Kp [p] H H' ∧ Pot H' p ∧ LsT H' z l ∧ LinC i l) (fun F f => ⟨_, rfl, f⟩) (by omega) ⟨_, _, _, _, rfl, hk0, hp0, hl0, LinC.base hcP.1 hcP.2⟩ ?_ ?_
    · rintro i σ H2 hi ⟨z, l, w4, w5, rfl, hk2, hp2, hl2, hc2⟩
      refine ⟨_, rfl, _, rfl, _, _, rfl, rfl, p, 17, rfl, hp2, by decide, by decide, fun d H3 hk3 hp3 hd => ?_⟩
      refine ⟨_, _, rfl, rfl, _, rfl, p, 3, rfl, hp3, by decide, by decide, fun e H4 hk4 hp4 he => ?_⟩
      refine ⟨_, _, rfl, rfl, _, _, rfl, by omega, Nat.lt_of_lt_of_le (by omega : (1 + (e : Int)).natAbs < 100) (by decide +kernel), fun y H5 e5 hy => ?_⟩
      have hr : In 48 6 (Rat.divInt ((d : Int) - 8) (1 + (e : Int))) := in6 (a := 8) he (by omega)
      generalize Rat.divInt ((d : Int) - 8) (1 + (e : Int)) = r at *
      have hl5 : LsT H5 z l := (lsT_kp hp3 hk4 (lsT_kp hp2 hk3 hl2)).mono e5
      obtain ⟨b, rfl, hb⟩ := id hy
      refine ⟨_, rfl, ?_⟩
      refine ⟨_, rfl, b, _, _, _, rfl, rfl, .of hb, rfl, _, _, rfl, rfl, _, rfl, b, _, _, _, rfl, rfl, .of hb, rfl, (by show 2 ≤ sizeLine; decide), fun t5 h5 => ?_⟩
      refine ⟨(by show 2 ≤ sizeLine; decide), fun t6 h6 => ?_⟩
      refine ⟨(by show 2 ≤ sizeLine; decide), fun u h7 => ?_⟩
      have j1 := isT_new (H := H5) (t := t5) (q := -r) (a := 0 - r.num) (b := (r.den : Int)) (by show -r.num = 0 - r.num; omega) rfl
      have f1 := Evl.Ex.new (o := .tup [.int (0 - r.num), .int (r.den : Int)]) h5
      have j2 := isT_new (H := upd H5 t5 (.tup [.int (0 - r.num), .int (r.den : Int)])) (t := t6) (q := 1) (a := 1) (b := 1) rfl rfl
      have f2 := Evl.Ex.new (o := .tup [.int 1, .int 1]) h6
      have f3 := Evl.Ex.new (o := .lst [.ref t5, .ref t6]) h7
      have fx := (f1.trans f2).trans f3
      refine ⟨_, _, rfl, l, [-r, 1], hl5.mono fx, ⟨u, _, rfl, upd_same, .cons ((j1.mono f2).mono f3) (.cons (j2.mono f3) .nil)⟩, by have := hc2.2.1; omega, (by show 2 ≤ 41; decide), hc2.ne, by simp, ⟨_, _, 48, 6, hc2.2.2.2, line_in hr, Nat.mul_pos (by decide) (Nat.pow_pos (by decide)), by decide, ?_, ?_, ?_, ?_⟩, fun z9 H9 e9 hz9 => ?_⟩
      · have : 4 * 512 ^ i ≤ 4 * 512 ^ 3 := Nat.mul_le_mul_left _ (Nat.pow_le_pow_right (by decide) (by omega))
        exact Nat.lt_of_le_of_lt this (by decide +kernel)
      · decide +kernel
      · have : 4 * 512 ^ i ≤ 4 * 512 ^ 3 := Nat.mul_le_mul_left _ (Nat.pow_le_pow_right (by decide) (by omega))
        exact Nat.lt_of_le_of_lt (Nat.mul_le_mul_left 82 (Nat.mul_le_mul_right 48 this)) (by decide +kernel)
      · have : 2 * 6 ^ i ≤ 2 * 6 ^ 3 := Nat.mul_le_mul_left _ (Nat.pow_le_pow_right (by decide) (by omega))
        exact Nat.lt_of_le_of_lt (Nat.mul_le_mul_right 6 this) (by decide +kernel)
      exact ⟨_, _, _, _, rfl, (((hk2.trans hk3).trans hk4).trans (kp_ex e5)).trans (kp_ex (fx.trans e9)), (hp4.ex e5).ex (fx.trans e9), hz9, hc2.step hr (by omega)⟩
    · rintro σ H2 ⟨z, l, w4, w5, rfl, hk2, hp2, hl2, hc2⟩
      exact ⟨_, rfl, k z H2 l hk2 hp2 hl2 hc2⟩
def spDrawn : Sp := fun vs H Q _ => ∃ p, ∃ m : Nat, vs = [.ref p, .int (m : Int)] ∧ Pot H p ∧ m ≤ 4 ∧ Dw (CuC m) p H Q
theorem sc__law_drawn : FnScope ["_law_pot_here", "_law_many", "_law_k"] ["_law_pot_here", "_law_many"] (defScope (tp 79)) := ⟨rfl, rfl, rfl, by decide +kernel, rfl, by decide +kernel, by decide +kernel⟩
theorem ok__law_drawn (T : Tx K mg) : Ok P w K mg base 3 "_law_drawn" ["_law_pot_here", "_law_many"] (spDrawn) := by
  have O__law_cut := ok__law_cut (P := P) (w := w) (base := base) T
  have O__law_low := ok__law_low (P := P) (w := w) (base := base) T
  have O__law_draw := ok__law_draw (P := P) (w := w) (base := base) T
  refine T.d__law_drawn.ok sc__law_drawn (fun vs H Q E h => ?_) (fun _ _ _ _ _ _ us hl => match us, hl with | [_, _], _ => rfl) (fun cdv A outer s H vs Q E hr h => ?_)
  · obtain ⟨_, _, rfl, _⟩ := h
    rfl
  · refine ⟨_, (pss_one (ps_ret (pe_c O__law_cut (hr.mono (by decide)) (by rfl) (pa_cons (pe_lc (own := [("_law_k", 2)]) rfl sc__law_drawn.nd (pi_range1 (by rfl) T.n_range (pa_cons (pe_op op_add (pv 1) pe_int) pa_nil)) (blkOk_by (own := [("_law_k", 2)]) (N := ["_law_pot_here", "_law_many", "_law_k"]) (sc := defScope (tp 79)) (by decide +kernel)) (fun _ _ _ _ _ => (pg_name (i := 2) sc__law_drawn.nd rfl (.inl rfl))) (fun _ _ _ _ _ => pts_nil) (fun _ _ _ _ _ => (pe_c O__law_low (hr.mono (by decide)) (by rfl) (pa_cons (pe_op op_sub (pe_c O__law_draw (hr.mono (by decide)) (by rfl) (pa_cons (pv 0) (pa_cons pe_int pa_nil))) pe_int) (pa_cons (pe_op op_add pe_int (pe_c O__law_draw (hr.mono (by decide)) (by rfl) (pa_cons (pv 0) (pa_cons pe_int pa_nil)))) pa_nil))))) pa_nil)))), ?_⟩
    obtain ⟨p, m, rfl, hp, hm, k⟩ := h
    dsimp only [tSeq, tRet, tCB, tCall, tCons, tNext, gName, tAsg, tNil, tIfS, tOp, tC]
    refine LcR1I (m + 1) (fun D i H' => Kp [p] H H' ∧ Pot H' p ∧ (D ≠ p ∧ H D = none) ∧ ∃ zs ls, H' D = some (.lst zs) ∧ Paired (IsT H') zs ls ∧ ls.length = i ∧ ∀ q ∈ ls, In 36 6 q) (fun F f => ⟨_, rfl, _, _, rfl, rfl, f⟩) (by omega) ?_ ?_ ?_ ?_
    · exact fun _ => rfl
    · intro D hD
      have e := Evl.Ex.new (o := .lst []) hD
      exact ⟨kp_ex e, hp.ex e, ⟨pot_ne hp hD, hD⟩, [], [], upd_same, .nil, rfl, by simp⟩
    · rintro D i H2 hi ⟨hk2, hp2, ⟨hDp, hD0⟩, zs, ls, hz, hls, hln, hin⟩
      refine ⟨_, rfl, p, 13, rfl, hp2, by decide, by decide, fun d H3 hk3 hp3 hd => ?_⟩
      refine ⟨_, _, rfl, rfl, _, rfl, p, 3, rfl, hp3, by decide, by decide, fun e H4 hk4 hp4 he => ?_⟩
      refine ⟨_, _, rfl, rfl, _, _, rfl, by omega, Nat.lt_of_lt_of_le (by omega : (1 + (e : Int)).natAbs < 100) (by decide +kernel), fun y H5 e5 hy => ?_⟩
      have hr : In 36 6 (Rat.divInt ((d : Int) - 6) (1 + (e : Int))) := in6 (a := 6) he (by omega)
      generalize Rat.divInt ((d : Int) - 6) (1 + (e : Int)) = r at *
      have hz5 := e5 _ _ (hk4 D _ (by simpa using hDp) (hk3 D _ (by simpa using hDp) hz))
      have hls5 : Paired (IsT H5) zs ls := p2_mono (fun _ _ r => r.mono e5) (p2T_kp hp3 hk4 (p2T_kp hp2 hk3 hls))
      have hp5 := hp4.ex e5
      have hlz := hls.length
      refine ⟨zs, hz5, Nat.lt_of_lt_of_le (by omega : zs.length < 100) (by decide), ?_⟩
      refine ⟨fun z o hz9 ho => ?_, ?_, ⟨hDp, hD0⟩, zs ++ [y], ls ++ [r], upd_same, ?_, by rw [List.length_append, hln]; rfl, fun q hq => ?_⟩
      · have hzD : z ≠ D := fun e => by rw [e, hD0] at ho; cases ho
        rw [upd_ne hzD]
        exact e5 _ _ (hk4 z o hz9 (hk3 z o hz9 (hk2 z o hz9 ho)))
      · obtain ⟨x, y2, h1, h2⟩ := hp5
        exact ⟨x, y2, by rw [upd_ne (fun e => hDp e.symm)]; exact h1, h2⟩
      · exact p2_app (lsT_put hz5 hls5) (.cons (isT_put hz5 hy) .nil)
      · rcases List.mem_append.mp hq with h | h
        · exact hin q h
        · have : q = r := by simpa using h
          rw [this]; exact hr
    · rintro D H2 ⟨hk2, hp2, hDp, zs, ls, hz, hls, hln, hin⟩
      have hi : InL 36 6 ls := hin
      have t1 := trim_len ls
      refine ⟨_, rfl, ls, ⟨D, zs, rfl, hz, hls⟩, by omega, fun z H3 e3 hz3 => ?_⟩
      exact k z H3 _ (hk2.trans (kp_ex e3)) (hp2.ex e3) hz3 ⟨tr_trim ls, by omega, hi.trim.conv 432 (by decide) (by decide)⟩
def spRule : Sp := fun vs H Q _ => ∃ p, ∃ n : Nat, vs = [.ref p, .int (n : Int)] ∧ Pot H p ∧ 1 ≤ n ∧ n ≤ 4 ∧ Dw RuC p H Q
theorem sc__law_rule : FnScope ["_law_pot_here", "_law_many", "_law_way", "_law_made"] ["_law_pot_here", "_law_many"] (defScope (tp 80)) := ⟨rfl, rfl, rfl, by decide +kernel, rfl, by decide +kernel, by decide +kernel⟩
theorem ok__law_rule (T : Tx K mg) : Ok P w K mg base 8 "_law_rule" ["_law_pot_here", "_law_many"] (spRule) := by
  have O__law_draw := ok__law_draw (P := P) (w := w) (base := base) T
  have O__law_curve := ok__law_curve (P := P) (w := w) (base := base) T
  have O__law_drawn := ok__law_drawn (P := P) (w := w) (base := base) T
  have O__law_lined := ok__law_lined (P := P) (w := w) (base := base) T
  have O_rule_to := ok_rule_to (P := P) (w := w) (base := base) T
  have O__law_as_told := ok__law_as_told (P := P) (w := w) (base := base) T
  refine T.d__law_rule.ok sc__law_rule (fun vs H Q E h => ?_) (fun _ _ _ _ _ _ us hl => match us, hl with | [_, _], _ => rfl) (fun cdv A outer s H vs Q E hr h => ?_)
  · obtain ⟨_, _, rfl, _⟩ := h
    rfl
  · refine ⟨_, (pss_cons (ps_set (i := 2) sc__law_rule.nd rfl (.inl rfl) (pe_c O__law_draw (hr.mono (by decide)) (by rfl) (pa_cons (pv 0) (pa_cons pe_int pa_nil))))
      (pss_cons (ps_if (pt_cmpR op_eq (pv 2) pe_int (nomark _)) (pss_one (ps_ret (pe_c O__law_drawn (hr.mono (by decide)) (by rfl) (pa_cons (pv 0) (pa_cons (pe_op op_add pe_int (pe_c O__law_draw (hr.mono (by decide)) (by rfl) (pa_cons (pv 0) (pa_cons pe_int pa_nil)))) pa_nil))))) pss_nil)
      (pss_cons (ps_if (pt_cmpR op_eq (pv 2) pe_int (nomark _)) (pss_one (ps_ret (pe_c O__law_lined (hr.mono (by decide)) (by rfl) (pa_cons (pv 0) (pa_cons (pe_op op_add pe_int (pe_c O__law_draw (hr.mono (by decide)) (by rfl) (pa_cons (pv 0) (pa_cons pe_int pa_nil)))) (pa_cons pe_int pa_nil)))))) pss_nil)
      (pss_cons (ps_set (i := 3) sc__law_rule.nd rfl (.inl rfl) (pe_ifExp (pt_cmpR op_eq (pv 2) pe_int (nomark _)) (pe_c O__law_lined (hr.mono (by decide)) (by rfl) (pa_cons (pv 0) (pa_cons (pv 1) (pa_cons pe_int pa_nil)))) (pe_c O__law_drawn (hr.mono (by decide)) (by rfl) (pa_cons (pv 0) (pa_cons (pv 1) pa_nil)))))
      (pss_one (ps_ret (pe_c O__law_curve (hr.mono (by decide)) (by rfl) (pa_cons (pe_c O_rule_to (hr.mono (by decide)) (by rfl) (pa_cons (pe_c O__law_as_told (hr.mono (by decide)) (by rfl) (pa_cons (pv 3) pa_nil)) (pa_cons (pv 1) pa_nil))) pa_nil)))))))), ?_⟩
    obtain ⟨p, n, rfl, hp, hn1, hn, k⟩ := h
    refine ⟨_, rfl, p, 4, rfl, hp, by decide, by decide, fun d H1 hk1 hp1 hd => ?_⟩
    refine ⟨_, rfl, rfl, _, rfl, ?_⟩
    refine ite2 (fun h => ?_) (fun h => ?_)
    · refine ⟨_, rfl, _, rfl, p, 3, rfl, hp1, by decide, by decide, fun e H2 hk2 hp2 he => ?_⟩
      refine ⟨_, _, rfl, rfl, p, 1 + e, by dsimp only [List.cons_append, List.nil_append]; rw [show (1 : Int) + (e : Int) = ((1 + e : Nat) : Int) by omega], hp2, by omega, fun z H3 l hk3 hp3 hz hc => ?_⟩
      exact k z H3 l ((hk1.trans hk2).trans hk3) hp3 hz (hc.ru (by omega))
    refine ⟨_, rfl, rfl, _, rfl, ?_⟩
    refine ite2 (fun h => ?_) (fun h => ?_)
    · refine ⟨_, rfl, _, rfl, p, 3, rfl, hp1, by decide, by decide, fun e H2 hk2 hp2 he => ?_⟩
      refine ⟨_, _, rfl, rfl, p, 1 + e, by dsimp only [List.cons_append, List.nil_append]; rw [show (1 : Int) + (e : Int) = ((1 + e : Nat) : Int) by omega], hp2, by omega, fun z H3 l hk3 hp3 hz hc => ?_⟩
      exact k z H3 l ((hk1.trans hk2).trans hk3) hp3 hz ((hc.cu (by omega)).ru (n := 1 + e) (by omega))
    refine ⟨_, rfl, rfl, _, rfl, ?_⟩
    refine ite2 (fun h => ⟨_, rfl, _, rfl, p, n, rfl, hp1, hn, fun z H3 l hk3 hp3 hz hc => ?_⟩) (fun h => ⟨_, rfl, _, rfl, p, n, rfl, hp1, hn, fun z H3 l hk3 hp3 hz hc => ?_⟩)
    · have hc := hc.cu hn
      have hcl := hc.2.1
      refine ⟨_, rfl, _, rfl, l, hz, by omega, hc.2.2.sz (by decide) (by decide +kernel) (by decide +kernel), fun a zs H4 e4 ha0 ha hzs => ?_⟩
      refine ⟨_, rfl, _, n, rfl, l, ⟨a, zs, rfl, .inl ha, hzs⟩, by omega, by omega, by have := trim_len l; omega, ⟨2 ^ 38, 2592, hc.2.2, by decide, by decide +kernel, by decide +kernel⟩, fun y H5 e5 hy => ?_⟩
      refine ⟨_, rfl, _, hy, by have := rtL_len l n; omega, fun x H6 e6 hx => ?_⟩
      exact k x H6 _ ((hk1.trans hk3).trans (kp_ex ((e4.trans e5).trans e6))) (hp3.ex ((e4.trans e5).trans e6)) hx (hc.rt hn)
    · have hcl := hc.2.1
      refine ⟨_, rfl, _, rfl, l, hz, by omega, hc.2.2.sz (by decide) (by decide +kernel) (by decide +kernel), fun a zs H4 e4 ha0 ha hzs => ?_⟩
      refine ⟨_, rfl, _, n, rfl, l, ⟨a, zs, rfl, .inl ha, hzs⟩, by omega, by omega, by have := trim_len l; omega, ⟨2 ^ 38, 2592, hc.2.2, by decide, by decide +kernel, by decide +kernel⟩, fun y H5 e5 hy => ?_⟩
      refine ⟨_, rfl, _, hy, by have := rtL_len l n; omega, fun x H6 e6 hx => ?_⟩
      exact k x H6 _ ((hk1.trans hk3).trans (kp_ex ((e4.trans e5).trans e6))) (hp3.ex ((e4.trans e5).trans e6)) hx (hc.rt hn)
def spImT : Sp := fun vs H Q _ => ∃ v, ∃ n : Nat, vs = [v, .int (n : Int)] ∧ ∃ q, LsT H v q ∧ n ≤ 8 ∧ q.length ≤ 8 ∧ (∃ B e, InL B e q ∧ 0 < e ∧ B < 2 ^ 1000 ∧ e < 2 ^ 1000) ∧ ∀ z H', Ex H H' → LsT H' z (imT q n) → Q z H'
theorem fall_le (n : Nat) (hn : n ≤ 8) : ∀ j, fall n j ≤ 8 ^ j
  | 0 => Nat.le_refl 1
  | j + 1 => by
    show fall n j * (n - j) ≤ 8 ^ (j + 1)
    rw [Nat.pow_succ]
    exact Nat.mul_le_mul (fall_le n hn j) (by omega)
theorem sc__law_image : FnScope ["_law_rule_here", "_law_many", "_law_found", "_law_size", "_law_j"] ["_law_rule_here", "_law_many"] (defScope (tp 81)) := ⟨rfl, rfl, rfl, by decide +kernel, rfl, by decide +kernel, by decide +kernel⟩
theorem ok__law_image (T : Tx K mg) : Ok P w K mg base 4 "_law_image" ["_law_rule_here", "_law_many"] (spImT) := by
  have O__law_cut := ok__law_cut (P := P) (w := w) (base := base) T
  have O__law_times := ok__law_times (P := P) (w := w) (base := base) T
  refine T.d__law_image.ok sc__law_image (fun vs H Q E h => ?_) (fun _ _ _ _ _ _ us hl => match us, hl with | [_, _], _ => rfl) (fun cdv A outer s H vs Q E hr h => ?_)
  · obtain ⟨_, _, rfl, _⟩ := h
    rfl
  · refine ⟨_, (pss_cons (ps_par (i := 2) (j := 3) rfl sc__law_image.nd rfl rfl (by decide) rfl rfl (pa_cons (pe_op op_rep (pe_lst (pa_cons (pe_tup (pa_cons pe_int (pa_cons pe_int pa_nil))) pa_nil)) (pe_op op_add (pv 1) pe_int)) (pa_cons pe_int pa_nil)) (by rfl))
      (pss_cons (ps_for PassesOwn.never rfl (pi_range1 (by rfl) T.n_range (pa_cons (pe_callB (call_min2 rfl) (by rfl) T.n_min (by decide +kernel) (pa_cons (pe_callB (call_lenK (K := K) rfl) (by rfl) T.n_len (by decide +kernel) (pa_cons (pv 0) pa_nil)) (pa_cons (pe_op op_add (pv 1) pe_int) pa_nil))) pa_nil)) (pg_name (i := 4) sc__law_image.nd rfl (.inl rfl)) (pss_cons (ps_asg (pe_c O__law_times (hr.mono (by decide)) (by rfl) (pa_cons (pe_ix (ix_listK (K := K) rfl) (pv 0) (pv 4) (fun _ _ => rfl)) (pa_cons (pe_tup (pa_cons (pv 3) (pa_cons pe_int pa_nil))) pa_nil))) (pg_sub (pv 2) (pe_op op_sub (pv 1) (pv 4)) set_list))
      (pss_one (ps_set (i := 3) sc__law_image.nd rfl (.inl rfl) (pe_op op_mulW (pv 3) (pe_op op_sub (pv 1) (pv 4)))))))
      (pss_one (ps_ret (pe_c O__law_cut (hr.mono (by decide)) (by rfl) (pa_cons (pv 2) pa_nil)))))), ?_⟩
    obtain ⟨v, n, rfl, q, hv, hn, hq, ⟨B, e, hB, he, bB, be⟩, k⟩ := h
    obtain ⟨p, xs, rfl, h1, h2⟩ := id hv
    have hl := h2.length
    refine ⟨(by show 2 ≤ sizeLine; decide), fun t ht => ?_⟩
    have e1 := Evl.Ex.new (o := .tup [.int 0, .int 1]) ht
    have i1 := isT_new (H := H) (t := t) (q := 0) (a := 0) (b := 1) rfl rfl
    refine ⟨(by show 1 ≤ sizeLine; decide), fun u hu => ?_⟩
    have e2 := Evl.Ex.new (o := .lst [.ref t]) hu
    refine ⟨_, rfl, _, _, rfl, rfl, u, _, _, rfl, rfl, upd_same, by omega, by omega, ?_, fun D hD => ?_⟩
    · rw [show ((n : Int) + 1).toNat = n + 1 by omega]
      show 1 * (n + 1) ≤ sizeLine
      exact Nat.le_trans (by omega : 1 * (n + 1) ≤ 100) (by decide)
    have efl : (List.replicate ((n : Int) + 1).toNat [V.ref t]).flatten = List.replicate (n + 1) (V.ref t) := by
      rw [show ((n : Int) + 1).toNat = n + 1 by omega]; simp
    rw [efl]
    have e3 := Evl.Ex.new (o := .lst (List.replicate (n + 1) (V.ref t))) hD
    have ex := (e1.trans e2).trans e3
    have hD0 := none_of (e1.trans e2) hD
    refine ⟨_, _, rfl, ?_⟩
    have hmin : ∀ z : Int, z = (n : Int) + 1 → (if z < ((xs.length : Nat) : Int) then z else ((xs.length : Nat) : Int)) = ((min q.length (n + 1) : Nat) : Int) := fun z hz => by
      subst hz
      rw [hl]; split <;> omega
    have rep : Paired (IsT (upd (upd (upd H t (.tup [.int 0, .int 1])) u (.lst [.ref t])) D (.lst (List.replicate (n + 1) (V.ref t))))) (List.replicate (n + 1) (V.ref t)) ((List.range (n + 1)).map fun k => if n - k < 0 then en q (n - k) * (fall n (n - k) : Rat) else 0) := by
      have it := (i1.mono e2).mono e3
      generalize upd (upd (upd H t (.tup [.int 0, .int 1])) u (.lst [.ref t])) D (.lst (List.replicate (n + 1) (V.ref t))) = G at *
      have key : ∀ m, Paired (IsT G) (List.replicate m (V.ref t)) ((List.range m).map fun k => if n - k < 0 then en q (n - k) * (fall n (n - k) : Rat) else 0) := by
        intro m
        induction m with
        | zero => exact .nil
        | succ m ih =>
          rw [List.replicate_succ', ← rng_snoc]
          refine p2_app ih (.cons ?_ .nil)
          rw [if_neg (by omega)]; exact it
      exact key (n + 1)
    dsimp only [tSeq, tRet, tCB, tCall, tCons, tNext, gName, tAsg, tNil, tIfS, tOp, tC]
    refine ForR1 (min q.length (n + 1)) (fun i σ H' => (∃ w4, σ = [some (.ref p), some (.int (n : Int)), some (.ref D), some (.int ((fall n i : Nat) : Int)), w4]) ∧ Ex H H' ∧ ∃ zs, H' D = some (.lst zs) ∧ Paired (IsT H') zs ((List.range (n + 1)).map fun k => if n - k < i then en q (n - k) * (fall n (n - k) : Rat) else 0)) (fun F f => ⟨_, rfl, p, _, rfl, .inl (.of (ex _ _ h1)), _, rfl, _, _, rfl, rfl, _, _, rfl, by
      dsimp only
      rw [hmin _ rfl]
      exact f⟩) (by omega) ⟨⟨_, rfl⟩, ex, _, upd_same, rep⟩ ?_ ?_
    · rintro i σ H1 hi ⟨⟨w4, rfl⟩, ex1, zs, hz, hp1⟩
      have hin : i ≤ n := by omega
      have hi8 : i ≤ 8 := by omega
      obtain ⟨x, hx, rx⟩ := p2_right h2 (get_en (l := q) (k := i) (by omega))
      have hf : fall n i < 2 ^ 64 := Nat.lt_of_le_of_lt (Nat.le_trans (fall_le n hn i) (Nat.pow_le_pow_right (by decide) hi8)) (by decide)
      have hzl := hp1.length
      refine ⟨_, rfl, _, rfl, p, _, _, x, rfl, rfl, .of (ex1 _ _ h1), atI_nat hx, _, rfl, (by show 2 ≤ sizeLine; decide), fun s hs => ?_⟩
      have is := isT_new (H := H1) (t := s) (q := (((fall n i : Nat) : Int) : Rat)) (a := ((fall n i : Nat) : Int)) (b := 1) (by rw [Rat.num_intCast]) (by rw [Rat.den_intCast]; rfl)
      have es := Evl.Ex.new (o := .tup [.int ((fall n i : Nat) : Int), .int 1]) hs
      refine ⟨_, _, rfl, en q i, _, (rx.mono ex1).mono es, is, (hB.en i).sz he (Nat.lt_of_lt_of_le bB (Nat.pow_le_pow_right (by decide) (by decide))) (Nat.lt_of_lt_of_le be (Nat.pow_le_pow_right (by decide) (by decide))), sz_small (by rw [Int.natAbs_natCast]; exact hf), fun y H3 e3 hy => ?_⟩
      have hz3 := e3 _ _ (es _ _ hz)
      refine ⟨_, rfl, _, rfl, _, rfl, _, _, rfl, rfl, D, zs, _, n - i, rfl, rfl, hz3, ?_, ?_⟩
      · rw [show (n : Int) - (i : Int) = ((n - i : Nat) : Int) by omega]
        exact ixN_nat (by rw [hzl, List.length_map, List.length_range]; omega)
      have hs3 := p2_set (isT_put (o := .lst (zs.set (n - i) y)) hz3 hy) (n - i) (lsT_put (o := .lst (zs.set (n - i) y)) hz3 (p2_mono (fun _ _ r => (r.mono es).mono e3) hp1))
      rw [rng_set2 (g := fun k => if n - k < i + 1 then en q (n - k) * (fall n (n - k) : Rat) else 0) (by omega)] at hs3
      · refine ⟨_, rfl, _, rfl, _, rfl, _, _, rfl, rfl, _, _, rfl, rfl, Sm.mul (Sm.of (by rw [Int.natAbs_natCast]; exact Nat.lt_of_lt_of_le hf (Nat.pow_le_pow_right (by decide) (by decide)))) (Sm.of (Nat.lt_of_lt_of_le (by omega : ((n : Int) - (i : Int)).natAbs < 100) (by decide +kernel))), ⟨some (V.int (i : Int)), ?_⟩, Evl.Ex.mut ((ex1.trans es).trans e3) hD0, _, upd_same, hs3⟩
        show [some (V.ref p), some (V.int (n : Int)), some (V.ref D), some (V.int (((fall n i : Nat) : Int) * ((n : Int) - (i : Int)))), some (V.int (i : Int))] = _
        rw [show (n : Int) - (i : Int) = ((n - i : Nat) : Int) by omega, ← Int.natCast_mul]; rfl
      · rw [show n - (n - i) = i by omega, if_pos (by omega)]; rfl
      · intro m hmN hm
        by_cases h : n - m < i
        · rw [if_pos h, if_pos (by omega)]
        · rw [if_neg h, if_neg (by omega)]
    · rintro σ H1 ⟨⟨w4, rfl⟩, ex1, zs, hz, hp1⟩
      have e9 : ((List.range (n + 1)).map fun k => if n - k < min q.length (n + 1) then en q (n - k) * (fall n (n - k) : Rat) else 0) = (List.range (n + 1)).map fun k => en q (n - k) * (fall n (n - k) : Rat) := List.map_congr_left fun k _ => by
        by_cases h : n - k < min q.length (n + 1)
        · rw [if_pos h]
        · rw [if_neg h, en_big (by omega)]; grind -verbose
      rw [e9] at hp1
      exact ⟨_, rfl, _, rfl, _, ⟨D, zs, rfl, hz, hp1⟩, by simp; omega, fun z H4 e4 r => k z H4 (ex1.trans e4) r⟩
end
end K66

set_option Elab.async false
set_option linter.all false
set_option maxRecDepth 100000
set_option maxHeartbeats 2000000
set_option exponentiation.threshold 100000
namespace K66
open PySem PySem.Spec PyProof.Rows L2
open Evl (Ex)
/-- the two keywords' values in the parameters' order -/
def sw : List Value → List Value → List Value
  | [], [m, r] => [r, m]
  | _, _ => []
def swV : List V → List V → List V
  | [], [m, r] => [r, m]
  | _, _ => []
def OkK (P : Program) (w : World) (K : PySem.W.Frag) (mg : Str → Option Value) (base : Heap) (k : Nat) (x : Str) (sp : Sp) : Prop :=
  mg x = some (.ref (He.ga K x)) ∧ PySem.W.keepIn K (.ref (He.ga K x)) = true ∧ ∃ fd, FnOk P w K mg base CX0 k (He.ga K x) fd ["rule", "many"] sp ∧ KBinds K fd ["rule", "many"] ["many", "rule"] sw swV
section
variable {X : Cx} {k : Nat} {x : Str} {sp : Sp} {p pos : Pos} {kws : List Keyword} {t : TA}
def tCallKW (sp : Sp) (t : TA) : TE := fun σ H Q => t σ H fun zs H2 => sp (swV [] zs) H2 Q E0
theorem pe_cK (O : OkK X.prog X.w X.K X.mg X.base k x sp) (hr : Room k X.A) (hg : Gl X x) (hkw : PK X kws t) (hall : (backToKw pos (keywordEach kws X.env)).all (·.1.isSome) = true := by rfl)
    (hks : (backToKw pos (keywordEach kws X.env)).filterMap (·.1) = (["many", "rule"] : List Str) := by rfl) (hdb : (x == ("__debug__" : Str)) = false := by decide)
    (hpl : ((backTo pos (starEach [] X.env)).any (·.1) || (backToKw pos (keywordEach kws X.env)).any (·.1.isNone)) = false := by rfl) : PE X (.Call (.Name x p) [] kws pos) (tCallKW sp t) := by
  obtain ⟨hm, hk, fd, F, hb⟩ := O
  refine ⟨fun pins s σ H Q I h => ?_⟩
  refine wpAny_Call_Name_kw (ld_glob I hg hm ?_ hdb)
  refine PySem.W.callWith_KW0 (h₀ := X.base) I.ok.mod.kin hk hall (thn (hkw.run pos pins s σ H _ I h) fun ws s2 ⟨zs, H2, I2, rz, q2⟩ => ⟨I2.kIn, ?_⟩) hpl
  rw [hks]
  exact run_fnk (us := []) (vs := []) F hr hb pass0 I2 .nil rz q2
def rSameB (K : PySem.W.Frag) : L2.R2 := fun x y H Q => ∃ (a b : Addr) (bs : List Bool), x = .ref a ∧ y = .ref b ∧ SqL K H a (bs.map V.bl) ∧ SqL K H b (bs.map V.bl) ∧ Q (.bl false) H
theorem op_neLB (hu : X.A.units < cLine) : OpR X (compareOp .NotEq) (rSameB X.K) := by
  intro pins s σ H x y v u Q I rx ry h
  obtain ⟨a, b, bs, rfl, rfl, ha, hb, q⟩ := h
  cases (show v = Value.ref a from rx)
  cases (show u = Value.ref b from ry)
  obtain ⟨its, rv, pl, hz⟩ := I.list ha
  obtain ⟨its2, rv2, pl2, hz2⟩ := I.list hb
  have h1 := rv.bls
  have h2 := rv2.bls
  subst h1
  subst h2
  show wpAny (model X.prog X.w) X.A (richCompare .NotEq (.ref a) (.ref b)) (EP X pins σ Q) X.xe s
  refine SeqAt.RcNeAt.lists (e := fun _ => true) pl.isList pl2.isList rfl hu (fun j h1 h2 => ?_) X.prog X.w X.xe _ ⟨.bl false, H, I, ?_, q⟩
  · have e : ((bs.map Value.bool).toArray)[j] = .bool (bs[j]'(by simpa using h1)) := by simp
    rw [e]
    have := SeqAt.EqAt.bool_bool (A := X.A.in1) (s := s) (bs[j]'(by simpa using h1)) (bs[j]'(by simpa using h1))
    rw [beq_self_eq_true] at this
    exact this
  · show Value.bool _ = Value.bool false
    congr 1
    simp
end
section
variable {P : Program} {w : World} {K : PySem.W.Frag} {mg : Str → Option Value} {base : Heap}
theorem Df.okK {x : Str} {i k : Nat} {N : List Str} {sp : Sp} (D : Df K mg x i []) (S : FnScope N ["rule", "many"] (defScope (tp i))) (len : ∀ vs H Q E, sp vs H Q E → vs.length = (["rule", "many"] : List Str).length)
    (hb : ∀ (kV doc pm : Value) (an : Option Addr) (cdv ct : Value) (m r : Value), bindArgs (PySem.W.fnOf x x (defArgs (tp i)) (defBody (tp i)) (defScope (tp i)) .none kV doc pm an cdv ct) ⟨[], [("many", m), ("rule", r)]⟩ = pure [(("rule" : Str), r), (("many" : Str), m)])
    (hbody : ∀ (cdv : Value) (A : Around) (outer : List Env) (s : Shared) (H : Hp) (vs : List V) (Q : VK) (E : XK), Room k (A.deeper (envOfC x (defScope (tp i)) s.heap.objs.size (He.ga K x) cdv)) → sp vs H Q E →
      ∃ t, PSs (cxOf CX0 P w K mg base N x (defScope (tp i)) (He.ga K x) cdv A outer s H E).nox (defBody (tp i)) t ∧ t { nx := fun _ H' => Q .non H', rt := Q } (start N vs) H) :
    OkK P w K mg base (k + 1) x sp := by
  obtain ⟨fd, F⟩ := D.fn
  refine ⟨D.mgx, F.kp, fd, F.ok S len fun cdv A outer s H vs Q E hr h => ?_, ⟨fun s us ws X hl => ?_, fun {vs us zs ws} r1 r2 => ?_⟩⟩
  · obtain ⟨t, h1, h2⟩ := hbody cdv A outer s H vs Q E hr h
    exact ⟨t, h1.nox, h2⟩
  · obtain ⟨oc, od, dV, kV, doc, pm, an, cdv, ct, osl, rfl, lk, hcd, hD, hK⟩ := F.ex
    rcases hD with ⟨_, rfl⟩ | ⟨e, _⟩
    · match us, ws, hl with
      | [], [m, r], _ => exact .of_eq (hb kV doc pm an cdv ct m r)
      | [], [], hl => cases hl
      | [], [_], hl => cases hl
      | [], _ :: _ :: _ :: _, hl => cases hl
      | _ :: _, _, hl => cases hl
    · exact absurd rfl e
  · cases r1 with
    | nil =>
      cases r2 with
      | nil => exact .nil
      | cons a1 a2 =>
        cases a2 with
        | nil => exact .nil
        | cons b1 b2 =>
          cases b2 with
          | nil => exact .cons b1 (.cons a1 .nil)
          | cons _ _ => exact .nil
    | cons _ _ => exact .nil
theorem okK_power_image (T : Tx K mg) : OkK P w K mg base 8 "power_image" (spPowIm K) := by
  have O_want_curve := ok_want_curve (P := P) (w := w) (base := base) T
  have O_want_many := ok_want_many (P := P) (w := w) (base := base) T
  have O_image_by := ok_image_by (P := P) (w := w) (base := base) T
  have O_power_of := ok_power_of (P := P) (w := w) (base := base) T
  refine T.d_power_image.okK sc_power_image (fun vs H Q E h => ?_) (fun _ _ _ _ _ _ _ _ => rfl) (fun cdv A outer s H vs Q E hr h => ?_)
  · obtain ⟨_, _, rfl, _⟩ := h
    rfl
  · refine ⟨_, (pss_cons (ps_set (i := 2) sc_power_image.nd rfl (.inl rfl) (pe_c O_want_curve (hr.mono (by decide)) (by rfl) (pa_cons (pv 0) pa_nil)))
      (pss_cons (ps_expr (pe_c O_want_many (hr.mono (by decide)) (by rfl) (pa_cons (pv 1) (pa_cons (pe_glob (v := .int 8) (by rfl) T.k_MOST_COINS.choose_spec ⟨_, rfl⟩) pa_nil))))
      (pss_one (ps_ret (pe_c O_image_by (hr.mono (by decide)) (by rfl) (pa_cons (pe_c O_power_of (hr.mono (by decide)) (by rfl) (pa_cons (pv 1) pa_nil)) (pa_cons (pv 2) pa_nil))))))), ?_⟩
    obtain ⟨v, n, rfl, qs, hv, hn, hq, k⟩ := h
    refine ⟨_, rfl, _, rfl, qs, hv, by have := hq.1; omega, fun x H1 e1 hx => ?_⟩
    refine ⟨_, rfl, _, _, rfl, by omega, by omega, ?_⟩
    refine ⟨_, rfl, n, rfl, hn, fun y H2 e2 hy => ?_⟩
    obtain ⟨g1, g2, g3⟩ := hq.img hn
    exact ⟨_, rfl, _, _, rfl, powL n, trim qs, hy, hx.mono e2, g1, g2, g3, fun z H3 e3 r => k z H3 ((e1.trans e2).trans e3) r⟩
theorem okK_keeps_fenced (T : Tx K mg) : OkK P w K mg base 9 "keeps_fenced" (spKeeps K) := by
  have O_is_kept := ok_is_kept (P := P) (w := w) (base := base) T
  have O_power_image := ok_power_image (P := P) (w := w) (base := base) T
  refine T.d_keeps_fenced.okK sc_keeps_fenced (fun vs H Q E h => ?_) (fun _ _ _ _ _ _ _ _ => rfl) (fun cdv A outer s H vs Q E hr h => ?_)
  · obtain ⟨_, _, rfl, _⟩ := h
    rfl
  · refine ⟨_, (pss_one (ps_ret (pe_c O_is_kept (hr.mono (by decide)) (by rfl) (pa_cons (pe_c O_power_image (hr.mono (by decide)) (by rfl) (pa_cons (pv 0) (pa_cons (pv 1) pa_nil))) pa_nil)))), ?_⟩
    obtain ⟨v, n, rfl, qs, hv, hn, hq, k⟩ := h
    refine ⟨_, rfl, _, rfl, v, n, rfl, qs, hv, hn, hq.ok, fun z H1 e1 hz => ?_⟩
    refine ⟨_, rfl, _, hz, tr_pim n qs, hq.fine hn, fun H2 b e2 hb => k _ _ (e1.trans e2) ?_⟩
    rw [hb, en_pim]
end
end K66

set_option Elab.async false
set_option linter.all false
set_option maxRecDepth 100000
set_option maxHeartbeats 4000000
set_option exponentiation.threshold 100000
namespace K66
open PySem PySem.Spec PyProof.Rows L2
open Evl (Ex)
theorem bls_at {bs : List Bool} {i : Nat} {b : Bool} (h : bs[i]? = some b) : atI (bs.map V.bl) (i : Int) = some (V.bl b) := by
  refine atI_nat ?_
  rw [List.getElem?_map, h]; rfl
theorem ls_kp {K : PySem.W.Frag} {H H' : Hp} {p a : Addr} {zs : List V} {qs : List Rat} (hp : Pot H p) (hk : Kp [p] H H') (hap : a ≠ p) (ha : H a = some (.lst zs)) (hz : Paired (IsN K H) zs qs) : H' a = some (.lst zs) ∧ Paired (IsN K H') zs qs := by
  refine ⟨hk a _ (by simpa using hap) ha, p2_mono (fun v q r => r.elim .inl fun r => .inr ?_) hz⟩
  obtain ⟨b, dx, rfl, hb⟩ := r
  refine ⟨b, dx, rfl, hk b _ (fun hm => ?_) hb⟩
  have : b = p := by simpa using hm
  obtain ⟨x, y, h1, _⟩ := hp
  rw [this, h1] at hb
  cases hb
theorem dr_tail {K : PySem.W.Frag} {D : Ends} {σ : L2.St} {H : Hp} {y : V} {a : Addr} {zs : List V} {l q : List Rat} {n : Nat} (h7 : σ[7]? = some (some y)) (h3 : σ[3]? = some (some (V.ref a))) (h8 : ∀ x, (σ.set 8 (some x))[8]? = some (some x))
    (hl : LsT H y l) (ht : TrC n l) (ha : H a = some (.lst zs)) (hz : Paired (IsN K H) zs q) (hq : RuC q) (hn : n ≤ 4) (hg : RR (img q (mono n))) (fin : ∀ H' x, Ex H H' → D.nx (σ.set 8 (some x)) H') :
    tSeq (tAsg (tCall (spCurve K) [] E0 (tCons (tCall (spShifted K) [] E0 (tCons (tCall (spAsTold K) [] E0 (tCons (tVar 7) tNil)) (tCons (tVar 3) tNil))) tNil)) (gName 8)) (tIfS (tNot (tB (tCall spKeptT [] E0 (tCons (tVar 8) tNil)))) (tRet (tC (V.bl false))) tNext) D σ H := by
  obtain ⟨rr, up, hlen⟩ := ht.rr hn
  obtain ⟨i1, i2, i3⟩ := ht.img hq hn
  refine ⟨_, h7, _, rfl, l, hl, by omega, ht.2.2.sz (by decide) (by decide +kernel) (by decide +kernel), fun b ys H1 e1 hb0 hb hys => ?_⟩
  refine ⟨_, h3, _, _, rfl, l, q, ⟨b, ys, rfl, .inl hb, hys⟩, ⟨a, zs, rfl, .inl (e1 _ _ ha), p2_mono (fun _ _ r => r.mono e1) hz⟩, i1, fun z H2 e2 hz2 => ?_⟩
  refine ⟨_, rfl, _, hz2, i3, fun x H3 e3 hx => ?_⟩
  refine ⟨_, h8 x, _, rfl, _, hx, tr_trim _, i2, fun H4 c e4 hc => ?_⟩
  have : c = true := by
    rw [hc, img_trims l q up]
    exact walsh' hn up hg rr
  rw [this]
  exact ⟨_, rfl, iteF (fin H4 x (((e1.trans e2).trans e3).trans e4))⟩
section
variable {P : Program} {w : World} {K : PySem.W.Frag} {mg : Str → Option Value} {base : Heap}
def spDR : Sp := fun vs H Q _ => ∃ p v, ∃ n : Nat, vs = [.ref p, v, .int (n : Int)] ∧ ∃ q, Pot H p ∧ LsT H v q ∧ RuC q ∧ n ≤ 4 ∧ ∀ H', Kp [p] H H' → Pot H' p → Q (.bl true) H'
theorem sc__law_degrees_right : FnScope ["_law_pot_here", "_law_rule_here", "_law_many", "_law_told_here", "_law_keep", "_law_image_here", "_law_turn", "_law_curve_here", "_law_found", "_law_size"] ["_law_pot_here", "_law_rule_here", "_law_many"] (defScope (tp 83)) := ⟨rfl, rfl, rfl, by decide +kernel, rfl, by decide +kernel, by decide +kernel⟩
theorem ok__law_degrees_right (T : Tx K mg) : Ok P w K mg base 10 "_law_degrees_right" ["_law_pot_here", "_law_rule_here", "_law_many"] (spDR) := by
  have O__law_as_told := ok__law_as_told (P := P) (w := w) (base := base) T
  have O__law_is_kept := ok__law_is_kept (P := P) (w := w) (base := base) T
  have OK_power_image := okK_power_image (P := P) (w := w) (base := base) T
  have O_power_image := ok_power_image (P := P) (w := w) (base := base) T
  have O__law_lined := ok__law_lined (P := P) (w := w) (base := base) T
  have O__law_curve := ok__law_curve (P := P) (w := w) (base := base) T
  have O__law_image := ok__law_image (P := P) (w := w) (base := base) T
  have OK_keeps_fenced := okK_keeps_fenced (P := P) (w := w) (base := base) T
  have O_keeps_fenced := ok_keeps_fenced (P := P) (w := w) (base := base) T
  have O__law_draw := ok__law_draw (P := P) (w := w) (base := base) T
  have O_shifted := ok_shifted (P := P) (w := w) (base := base) T
  have O_is_fenced := ok_is_fenced (P := P) (w := w) (base := base) T
  have O__law_product := ok__law_product (P := P) (w := w) (base := base) T
  refine T.d__law_degrees_right.ok sc__law_degrees_right (fun vs H Q E h => ?_) (fun _ _ _ _ _ _ us hl => match us, hl with | [_, _, _], _ => rfl) (fun cdv A outer s H vs Q E hr h => ?_)
  · obtain ⟨_, _, _, rfl, _⟩ := h
    rfl
  · refine ⟨_, (pss_cons (ps_set (i := 3) sc__law_degrees_right.nd rfl (.inr rfl) (pe_c O__law_as_told (hr.mono (by decide)) (by rfl) (pa_cons (pv 1) pa_nil)))
      (pss_cons (ps_setLc (i := 4) (own := [("_law_size", 9)]) rfl sc__law_degrees_right.nd rfl rfl (sw_true rfl rfl rfl (by decide +kernel)) (pi_range1 (by rfl) T.n_range (pa_cons (pe_op op_add (pv 2) pe_int) pa_nil)) (blkOk_by (own := [("_law_size", 9)]) (N := ["_law_pot_here", "_law_rule_here", "_law_many", "_law_told_here", "_law_keep", "_law_image_here", "_law_turn", "_law_curve_here", "_law_found", "_law_size"]) (sc := defScope (tp 83)) (by decide +kernel)) (fun _ _ _ _ _ => (pg_name (i := 9) sc__law_degrees_right.nd rfl (.inl rfl))) (fun _ _ _ _ _ => pts_nil) (fun _ _ _ _ _ => (pe_c O__law_is_kept (hr.mono (by decide)) (by rfl) (pa_cons (pe_c O__law_image (hr.mono (by decide)) (by rfl) (pa_cons (pv 1) (pa_cons (pv 9) pa_nil))) pa_nil))))
      (pss_cons (ps_if (pt_cmpR (op_neLB (Nat.lt_of_le_of_lt (Nat.le_trans (Nat.le_add_right _ _) (Nat.le_add_right _ _)) hr.un)) (pe_lc (own := [("_law_size", 9)]) rfl sc__law_degrees_right.nd (pi_range1 (by rfl) T.n_range (pa_cons (pe_op op_add (pv 2) pe_int) pa_nil)) (blkOk_by (own := [("_law_size", 9)]) (N := ["_law_pot_here", "_law_rule_here", "_law_many", "_law_told_here", "_law_keep", "_law_image_here", "_law_turn", "_law_curve_here", "_law_found", "_law_size"]) (sc := defScope (tp 83)) (by decide +kernel)) (fun _ _ _ _ _ => (pg_name (i := 9) sc__law_degrees_right.nd rfl (.inl rfl))) (fun _ _ _ _ _ => pts_nil) (fun _ _ _ _ _ => (pe_c O_keeps_fenced (hr.mono (by decide)) (by rfl) (pa_cons (pv 3) (pa_cons (pv 9) pa_nil))))) (pv 4) (nomark _)) (pss_one (ps_ret pe_bl)) pss_nil)
      (pss_cons (ps_if (PW.pt (pw_and (pt_val (pe_ix (ix_listK (K := K) rfl) (pv 4) (pv 2) (fun _ _ => rfl))) (pw_and1 (pt_not (pt_val (pe_callB (cr_all (by rfl)) (by rfl) T.n_all (by decide +kernel) (pa_cons (pv 4) pa_nil))))))) (pss_one (ps_ret pe_bl)) pss_nil)
      (pss_cons (ps_if (pt_not (pt_val (pe_ix (ix_listK (K := K) rfl) (pv 4) (pv 2) (fun _ _ => rfl)))) (pss_cons (ps_set (i := 5) sc__law_degrees_right.nd rfl (.inl rfl) (pe_cK OK_power_image (hr.mono (by decide)) (by rfl) (pk_cons (pv 2) (pk_cons (pv 3) pk_nil))))
      (pss_one (ps_ret (pe_and (pe_cmpR (op_neNil (Nat.lt_of_le_of_lt (Nat.le_trans (Nat.le_add_right _ _) (Nat.le_add_right _ _)) hr.un)) (pv 5) (pe_lst pa_nil) (nomark _)) (pe_and (pe_not (pe_c O_is_fenced (hr.mono (by decide)) (by rfl) (pa_cons (pv 5) pa_nil))) (pe_one (pe_not (pe_cK OK_keeps_fenced (hr.mono (by decide)) (by rfl) (pk_cons (pv 2) (pk_cons (pe_callTy call_tuple_of (by rfl) T.n_tuple (by decide +kernel) (pa_cons (pv 3) pa_nil)) pk_nil)))))))))) pss_nil)
      (pss_cons (ps_for PassesOwn.never rfl (pi_range1 (by rfl) T.n_range (pa_cons pe_int pa_nil)) (pg_name (i := 6) sc__law_degrees_right.nd rfl (.inl rfl)) (pss_cons (ps_set (i := 7) sc__law_degrees_right.nd rfl (.inl rfl) (pe_c O__law_lined (hr.mono (by decide)) (by rfl) (pa_cons (pv 0) (pa_cons (pe_c O__law_draw (hr.mono (by decide)) (by rfl) (pa_cons (pv 0) (pa_cons (pe_op op_add (pv 2) pe_int) pa_nil))) (pa_cons pe_int pa_nil)))))
      (pss_cons (ps_if (PW.pt (pw_and (pt_cmpR op_eq (pe_c O__law_draw (hr.mono (by decide)) (by rfl) (pa_cons (pv 0) (pa_cons pe_int pa_nil))) pe_int (nomark _)) (pw_and1 (pt_cmpR op_le (pe_callB (call_lenK (K := K) rfl) (by rfl) T.n_len (by decide +kernel) (pa_cons (pv 7) pa_nil)) (pv 2) (nomark _))))) (pss_one (ps_set (i := 7) sc__law_degrees_right.nd rfl (.inl rfl) (pe_ifExp (pt_cmpR op_le (pe_op op_sub (pe_op op_mulW pe_int (pe_callB (call_lenK (K := K) rfl) (by rfl) T.n_len (by decide +kernel) (pa_cons (pv 7) pa_nil))) pe_int) (pv 2) (nomark _)) (pe_c O__law_product (hr.mono (by decide)) (by rfl) (pa_cons (pv 7) (pa_cons (pv 7) pa_nil))) (pv 7)))) pss_nil)
      (pss_cons (ps_set (i := 8) sc__law_degrees_right.nd rfl (.inl rfl) (pe_c O__law_curve (hr.mono (by decide)) (by rfl) (pa_cons (pe_c O_shifted (hr.mono (by decide)) (by rfl) (pa_cons (pe_c O__law_as_told (hr.mono (by decide)) (by rfl) (pa_cons (pv 7) pa_nil)) (pa_cons (pv 3) pa_nil))) pa_nil)))
      (pss_one (ps_if (pt_not (pt_val (pe_c O__law_is_kept (hr.mono (by decide)) (by rfl) (pa_cons (pv 8) pa_nil)))) (pss_one (ps_ret pe_bl)) pss_nil))))))
      (pss_one (ps_ret pe_bl)))))))), ?_⟩
    obtain ⟨p, v, n, rfl, q, hp, hv, hq, hn, k⟩ := h
    have q5 := hq.2.1
    have qsz : LSz q := hq.2.2.sz (by decide) (by decide +kernel) (by decide +kernel)
    refine ⟨_, rfl, _, rfl, q, hv, by omega, qsz, fun a zs H1 e1 ha0 ha hzs => ?_⟩
    have hap : a ≠ p := pot_ne hp ha0
    have hp1 := hp.ex e1
    have sq1 : SqN K H1 (.ref a) q := ⟨a, zs, rfl, .inl ha, hzs⟩
    dsimp only [tSeq, tRet, tCB, tCall, tCons, tNext, gName, tAsg, tNil, tIfS, tOp, tC]
    refine LcR1 (n + 1) ((List.range (n + 1)).map (kb q)) (R := IsB) rep_B (fun F f => ⟨_, rfl, _, _, rfl, rfl, f⟩) (by simp) (by omega) ?_ ?_ ?_
    · exact fun _ => rfl
    · intro i c H2 D ys hi hc e2 hD Q' q'
      rw [List.getElem?_map, List.getElem?_range hi] at hc
      cases hc
      refine ⟨_, rfl, _, rfl, v, i, rfl, q, (hv.mono e1).mono e2, by omega, by omega, ⟨2 ^ 54, 104509440, hq.2.2, by decide, by decide +kernel, by decide +kernel⟩, fun z H3 e3 hz => ?_⟩
      refine ⟨_, rfl, imT q i, hz, tr_trim _, hq.im (by omega), fun H4 b e4 hb => ?_⟩
      rw [en_imT] at hb
      rw [kb_of hb]
      exact q' _ _ (e3.trans e4) rfl (by intro e; cases e)
    intro D H2 ys hD0 e2 hyD hyp
    rw [bools_eq hyp] at hyD
    have e12 := e1.trans e2
    have sq2 := sq1.mono e2
    dsimp only [tTest, tOp]
    refine LcR1 (n + 1) ((List.range (n + 1)).map (kb q)) (R := IsB) rep_B (fun F f => ⟨_, rfl, _, _, rfl, rfl, f⟩) (by simp) (by omega) ?_ ?_ ?_
    · exact fun _ => rfl
    · intro i c H3 D' ys hi hc e3 hD Q' q'
      rw [List.getElem?_map, List.getElem?_range hi] at hc
      cases hc
      refine ⟨_, rfl, _, rfl, _, i, rfl, q, sq2.mono e3, by omega, hq.fine (by omega), fun H4 b e4 hb => ?_⟩
      rw [kb_of hb]
      exact q' _ _ e4 rfl (by intro e; cases e)
    intro D' H3 ys' hD0' e3 hyD' hyp'
    rw [bools_eq hyp'] at hyD'
    have hyD3 := e3 _ _ hyD
    have e13 := e12.trans e3
    have sq3 := sq2.mono e3
    refine ⟨_, rfl, D', D, _, rfl, rfl, .of hyD', .of hyD3, _, rfl, iteF ?_⟩
    have hkn : ((List.range (n + 1)).map (kb q))[n]? = some (kb q n) := by rw [List.getElem?_map, List.getElem?_range (by omega)]; rfl
    have hall : kb q n = true → ((List.range (n + 1)).map (kb q)).all id = true := fun h => by
      rw [List.all_map, List.all_eq_true]
      intro m hm
      have hm := List.mem_range.mp hm
      exact (kb_iff q m).mpr (less' hn (by omega) ((kb_iff q n).mp h))
    refine ⟨_, rfl, _, rfl, D, _, _, _, rfl, rfl, .of hyD3, bls_at hkn, _, rfl, ?_⟩
    cases hk : kb q n with
    | false =>
      refine iteF (iteF ?_)
      refine ⟨_, rfl, _, rfl, D, _, _, _, rfl, rfl, .of hyD3, bls_at hkn, _, rfl, ?_⟩
      rw [hk]
      refine iteT ?_
      have hno : ¬ RR (img q (mono n)) := fun h => by rw [(kb_iff q n).mpr h] at hk; cases hk
      refine ⟨_, rfl, _, rfl, _, n, rfl, q, sq3, by omega, (hq.fine hn).ok, fun z H4 e4 hz => ?_⟩
      obtain ⟨pz, xz, rfl, hz1, hz2⟩ := id hz
      have pne : pim n q ≠ [] := fun e => hno (by rw [← en_pim]; exact rr_nil e)
      refine ⟨_, rfl, (by show 0 ≤ sizeLine; decide), fun u hu => ?_⟩
      have e5 := Evl.Ex.new (o := .lst []) hu
      refine ⟨pz, u, xz, rfl, rfl, .of (e5 _ _ hz1), .of upd_same, ?_⟩
      have xne : xz.isEmpty = false := by
        have := hz2.length
        cases xz with
        | nil => exact absurd (List.eq_nil_of_length_eq_zero this.symm) pne
        | cons => rfl
      rw [xne]
      refine ⟨_, rfl, iteT ?_⟩
      refine ⟨_, rfl, _, rfl, pim n q, (hz.mono e5).sqN, (hq.fine hn).fine (by omega), fun H6 b e6 hb => ?_⟩
      have hb0 : b = false := by
        cases b with
        | false => rfl
        | true =>
          have := (hb.mp rfl).2
          rw [en_pim] at this
          exact absurd this hno
      rw [hb0]
      refine ⟨_, rfl, _, rfl, iteT ?_⟩
      have sq6 := ((sq3.mono e4).mono e5).mono e6
      have ha6 := e6 _ _ (e5 _ _ (e4 _ _ (e3 _ _ (e2 _ _ ha))))
      have e16 := ((e13.trans e4).trans e5).trans e6
      refine ⟨_, rfl, _, rfl, a, zs, rfl, .inl ⟨.of ha6, fun t ht => ?_⟩⟩
      have e7 := Evl.Ex.new (o := .tup zs) ht
      have hz7 : Paired (IsN K (upd H6 t (.tup zs))) zs q := p2_mono (fun _ _ r => (((((r.mono e2).mono e3).mono e4).mono e5).mono e6).mono e7) hzs
      refine ⟨_, n, rfl, q, ⟨t, zs, rfl, .inr upd_same, hz7⟩, by omega, hq.fine hn, fun H8 b' e8 hb' => ?_⟩
      have hb1 : b' = false := by
        cases b' with
        | false => rfl
        | true => exact absurd (hb'.mp rfl) hno
      rw [hb1]
      exact ⟨_, rfl, k _ (kp_ex ((e16.trans e7).trans e8)) (hp.ex ((e16.trans e7).trans e8))⟩
    | true =>
      have hg := (kb_iff q n).mp hk
      refine iteT ?_
      refine ⟨_, rfl, D, _, rfl, .of hyD3, ?_⟩
      rw [hall hk]
      refine ⟨_, rfl, iteF ?_⟩
      refine ⟨_, rfl, _, rfl, D, _, _, _, rfl, rfl, .of hyD3, bls_at hkn, _, rfl, ?_⟩
      rw [hk]
      refine iteF ?_
      refine ForR1 3 (fun i σ H' => (∃ w6 w7 w8, σ = [some (.ref p), some v, some (.int (n : Int)), some (.ref a), some (.ref D), none, w6, w7, w8, none]) ∧ Kp [p] H H' ∧ Pot H' p ∧ H' a = some (.lst zs) ∧ Paired (IsN K H') zs q) (fun F f => f) (by decide) ⟨⟨_, _, _, rfl⟩, kp_ex e13, hp.ex e13, e3 _ _ (e2 _ _ ha), p2_mono (fun _ _ r => (r.mono e2).mono e3) hzs⟩ ?_ ?_
      · rintro i σ H4 hi ⟨⟨w6, w7, w8, rfl⟩, kp4, hp4, ha4, hz4⟩
        refine ⟨_, rfl, _, rfl, _, rfl, _, _, rfl, rfl, p, n + 1, rfl, hp4, by omega, by omega, fun d H5 k5 hp5 hd => ?_⟩
        refine ⟨p, d, rfl, hp5, by omega, fun y H6 l k6 hp6 hl hc => ?_⟩
        have hc1 := hc.2.1
        obtain ⟨ly, lys, rfl, ly1, ly2⟩ := id hl
        have lyl := ly2.length
        obtain ⟨ha5, hz5⟩ := ls_kp hp4 k5 hap ha4 hz4
        obtain ⟨ha6, hz6⟩ := ls_kp hp5 k6 hap ha5 hz5
        have kp6 := (kp4.trans k5).trans k6
        refine ⟨_, rfl, p, 3, rfl, hp6, by decide, by decide, fun d2 H7 k7 hp7 hd2 => ?_⟩
        obtain ⟨ha7, hz7⟩ := ls_kp hp6 k7 hap ha6 hz6
        have hl7 := lsT_kp hp6 k7 hl
        have ly7 : H7 ly = some (.lst lys) := k7 ly _ (fun hm => lst_np hp6 ly1 ly2 (by simpa using hm)) ly1
        have kp7 := kp6.trans k7
        have ends : ∀ (H8 H9 : Hp), Ex H7 H8 → Ex H8 H9 → Kp [p] H H9 ∧ Pot H9 p ∧ H9 a = some (.lst zs) ∧ Paired (IsN K H9) zs q := fun H8 H9 e8 e9 =>
          ⟨kp7.trans (kp_ex (e8.trans e9)), hp7.ex (e8.trans e9), e9 _ _ (e8 _ _ ha7), p2_mono (fun _ _ r => (r.mono e8).mono e9) hz7⟩
        refine ⟨rfl, _, rfl, ?_⟩
        refine ite2 (fun h => ?_) (fun h => iteF ?_)
        · refine ⟨_, rfl, ly, lys, rfl, .inl (.of ly7), _, rfl, _, _, rfl, rfl, _, rfl, ?_⟩
          refine ite2 (fun h2 => ?_) (fun h2 => ?_)
          · refine ⟨_, rfl, ly, lys, rfl, .inl (.of ly7), _, _, rfl, rfl, Sm.mul (Sm.of (by decide)) (Sm.of (by rw [Int.natAbs_natCast]; exact Nat.lt_of_lt_of_le (by omega : lys.length < 100) (by decide +kernel))), _, _, rfl, rfl, _, rfl, _, _, rfl, rfl, _, rfl, ?_⟩
            refine ite2 (fun h3 => ?_) (fun h3 => ?_)
            · have h3 : 2 * (lys.length : Int) - 2 ≤ (n : Int) := of_decide_eq_true h3
              have cu := hc.cu (by omega)
              refine ⟨_, rfl, _, rfl, _, _, rfl, l, l, hl7, hl7, by omega, by omega, hc.ne, hc.ne, ⟨_, _, _, _, cu.2.2, cu.2.2, by decide, by decide, by decide +kernel, by decide +kernel, by decide +kernel, by decide +kernel⟩, fun y2 H8 e8 hy2 => ?_⟩
              obtain ⟨_, _, ha8, hz8⟩ := ends H8 H8 e8 (Evl.Ex.refl _)
              exact dr_tail rfl rfl (fun _ => rfl) hy2 (hc.sq (by omega) hn) ha8 hz8 hq hn hg fun H9 x e9 => ⟨⟨_, _, _, rfl⟩, ends H8 H9 e8 e9⟩
            · exact ⟨_, rfl, dr_tail rfl rfl (fun _ => rfl) hl7 (hc.trc (by omega) hn) ha7 hz7 hq hn hg fun H9 x e9 => ⟨⟨_, _, _, rfl⟩, ends H7 H9 (Evl.Ex.refl _) e9⟩⟩
          · exact dr_tail rfl rfl (fun _ => rfl) hl7 (hc.trc (by omega) hn) ha7 hz7 hq hn hg fun H9 x e9 => ⟨⟨_, _, _, rfl⟩, ends H7 H9 (Evl.Ex.refl _) e9⟩
        · exact dr_tail rfl rfl (fun _ => rfl) hl7 (hc.trc (by omega) hn) ha7 hz7 hq hn hg fun H9 x e9 => ⟨⟨_, _, _, rfl⟩, ends H7 H9 (Evl.Ex.refl _) e9⟩
      · rintro σ H4 ⟨⟨w6, w7, w8, rfl⟩, kp4, hp4, ha4, hz4⟩
        exact k _ kp4 hp4
end
end K66

set_option Elab.async false
set_option linter.all false
set_option maxRecDepth 100000
set_option maxHeartbeats 4000000
set_option exponentiation.threshold 100000
namespace K66
open PySem PySem.Spec PyProof.Rows L2
open Evl (Ex)
theorem tLc_rng {ta : TA} {g : TG} {tt : TT} {te : TE} {vs : List Nat} {σ : L2.St} {H : Hp} {Q : VK} (h : ta σ H fun us H1 => ∃ j : Int, us = [.int j] ∧ -(2 ^ 62) ≤ j ∧ j < 2 ^ 62 ∧ LcB (Itr 0 j.toNat) g tt te vs σ Q H1) : tLc (iRng1 ta) g tt te vs σ H Q := h
theorem LcBR1I {j : Nat} {te : TE} {vs : List Nat} {σ : L2.St} {H1 : Hp} {Q : VK} (n : Nat) (Pv : Addr → Nat → Hp → Prop) (hw : ∀ x, wipe ((wipe σ vs).set j (some x)) vs = wipe σ vs)
    (h0 : ∀ D, H1 D = none → Pv D 0 (upd H1 D (.lst [])))
    (step : ∀ D (i : Nat) H, i < n → Pv D i H → te ((wipe σ vs).set j (some (.int (i : Int)))) H fun y H4 => ∃ acc, H4 D = some (.lst acc) ∧ acc.length < sizeLine ∧ Pv D (i + 1) (upd H4 D (.lst (acc ++ [y]))))
    (done : ∀ D H', Pv D n H' → Q (.ref D) H') : LcB (Itr 0 n) (gName j) tYes te vs σ Q H1 := by
  intro D hD
  refine lc_range (Pv D) (h0 D hD) (fun i H hi p => ⟨hw _, yes_go ?_⟩) (fun H p => done D H p)
  rw [Int.zero_add]
  exact step D i H hi p
theorem fall8 : ∀ n, n < 9 → ∀ j, j < 3 → fall n j ≤ 56 := by decide
section
variable {P : Program} {w : World} {K : PySem.W.Frag} {mg : Str → Option Value} {base : Heap}
def spLed : Sp := fun vs H Q _ => ∃ p, ∃ n : Nat, vs = [.ref p, .int (n : Int)] ∧ Pot H p ∧ n ≤ 4 ∧ ∀ H', Kp [p] H H' → Pot H' p → Q (.bl true) H'
theorem sc__law_led_right : FnScope ["_law_pot_here", "_law_many", "_law_curve_here"] ["_law_pot_here", "_law_many"] (defScope (tp 84)) := ⟨rfl, rfl, rfl, by decide +kernel, rfl, by decide +kernel, by decide +kernel⟩
theorem ok__law_led_right (T : Tx K mg) : Ok P w K mg base 10 "_law_led_right" ["_law_pot_here", "_law_many"] (spLed) := by
  have O__law_pick := ok__law_pick (P := P) (w := w) (base := base) T
  have O_keeps_fenced := ok_keeps_fenced (P := P) (w := w) (base := base) T
  have O__law_is_kept := ok__law_is_kept (P := P) (w := w) (base := base) T
  have O__law_drawn := ok__law_drawn (P := P) (w := w) (base := base) T
  have O__law_lined := ok__law_lined (P := P) (w := w) (base := base) T
  have O_rule_to := ok_rule_to (P := P) (w := w) (base := base) T
  have O__law_draw := ok__law_draw (P := P) (w := w) (base := base) T
  have O__law_as_told := ok__law_as_told (P := P) (w := w) (base := base) T
  refine T.d__law_led_right.ok sc__law_led_right (fun vs H Q E h => ?_) (fun _ _ _ _ _ _ us hl => match us, hl with | [_, _], _ => rfl) (fun cdv A outer s H vs Q E hr h => ?_)
  · obtain ⟨_, _, rfl, _⟩ := h
    rfl
  · refine ⟨_, (pss_cons (ps_set (i := 2) sc__law_led_right.nd rfl (.inl rfl) (pe_c O__law_pick (hr.mono (by decide)) (by rfl) (pa_cons (pv 0) (pa_cons (pe_lst (pa_cons (pe_c O__law_drawn (hr.mono (by decide)) (by rfl) (pa_cons (pv 0) (pa_cons (pv 1) pa_nil))) (pa_cons (pe_c O__law_lined (hr.mono (by decide)) (by rfl) (pa_cons (pv 0) (pa_cons (pe_c O__law_draw (hr.mono (by decide)) (by rfl) (pa_cons (pv 0) (pa_cons (pe_op op_add (pv 1) pe_int) pa_nil))) (pa_cons pe_int pa_nil)))) pa_nil))) pa_nil))))
      (pss_one (ps_ret (pe_cmpR op_eq (pe_c O_keeps_fenced (hr.mono (by decide)) (by rfl) (pa_cons (pe_c O_rule_to (hr.mono (by decide)) (by rfl) (pa_cons (pe_c O__law_as_told (hr.mono (by decide)) (by rfl) (pa_cons (pv 2) pa_nil)) (pa_cons (pv 1) pa_nil))) (pa_cons (pv 1) pa_nil))) (pe_c O__law_is_kept (hr.mono (by decide)) (by rfl) (pa_cons (pv 2) pa_nil)) (nomark _))))), ?_⟩
    obtain ⟨p, n, rfl, hp, hn, k⟩ := h
    refine ⟨_, rfl, _, rfl, _, rfl, p, n, rfl, hp, hn, fun z1 H1 l1 k1 hp1 hl1 c1 => ?_⟩
    refine ⟨_, rfl, _, rfl, _, rfl, _, _, rfl, rfl, p, n + 1, rfl, hp1, by omega, by omega, fun d H2 k2 hp2 hd => ?_⟩
    refine ⟨p, d, rfl, hp2, by omega, fun z2 H3 l2 k3 hp3 hl2 c2 => ?_⟩
    refine ⟨(by show 2 ≤ sizeLine; decide), fun s hs => ?_⟩
    have es := Evl.Ex.new (o := .lst [z1, z2]) hs
    have hps := hp3.ex es
    have hl1' := (lsT_kp hp2 k3 (lsT_kp hp1 k2 hl1)).mono es
    have hl2' := hl2.mono es
    refine ⟨p, s, rfl, [z1, z2], hps, upd_same, pot_ne hp3 hs, (by show 1 ≤ 2; decide), (by show 2 ≤ 1000; decide), fun i x H4 k4 hp4 hx => ?_⟩
    have hx' : ∃ l, LsT H4 x l ∧ CuC n l := by
      match i, hx with
      | 0, hx => cases hx; exact ⟨l1, lsT_kp hps k4 hl1', c1⟩
      | 1, hx => cases hx; exact ⟨l2, lsT_kp hps k4 hl2', by have := c2.cu (by omega); exact ⟨this.1, by have := this.2.1; omega, this.2.2⟩⟩
    obtain ⟨l, hl, hc⟩ := hx'
    have hlen := hc.2.1
    have t1 := trim_len l
    have r1 := rtL_len l n
    refine ⟨_, rfl, _, rfl, l, hl, by omega, hc.2.2.sz (by decide) (by decide +kernel) (by decide +kernel), fun a zs H5 e5 ha0 ha hzs => ?_⟩
    refine ⟨_, rfl, _, n, rfl, l, ⟨a, zs, rfl, .inl ha, hzs⟩, by omega, by omega, by omega, ⟨2 ^ 38, 2592, hc.2.2, by decide, by decide +kernel, by decide +kernel⟩, fun y H6 e6 hy => ?_⟩
    refine ⟨_, rfl, _, n, rfl, rtL l n, hy.sqN, by omega, fine54 (by omega) ((inl_rtL hc.2.2 (by omega)).conv 1 (by decide) (by decide +kernel)) hn, fun H7 b e7 hb => ?_⟩
    refine ⟨_, rfl, _, rfl, l, ((hl.mono e5).mono e6).mono e7, hc.1, hc.lfine hn, fun H8 b' e8 hb' => ?_⟩
    rw [img_rtL hlen] at hb
    have : b = b' := by
      cases b <;> cases b'
      · rfl
      · exact absurd (hb.mpr (hb'.mp rfl)) (by simp)
      · exact absurd (hb'.mpr (hb.mp rfl)) (by simp)
      · rfl
    subst this
    refine ⟨rfl, ?_⟩
    have e := ((e5.trans e6).trans e7).trans e8
    have fin := k H8 (((((k1.trans k2).trans k3).trans (kp_ex es)).trans k4).trans (kp_ex e)) (hp4.ex e)
    have : decide (V.bl b = V.bl b) = true := by simp
    show Q (.bl (decide (V.bl b = V.bl b))) H8
    rw [this]
    exact fin
def spGreat : Sp := fun vs H Q _ => ∃ p, vs = [.ref p] ∧ Pot H p ∧ ∀ H', Kp [p] H H' → Pot H' p → Q (.bl true) H'
theorem sc__law_great_right : FnScope ["_law_pot_here", "_law_many", "_law_rule_here", "_law_k"] ["_law_pot_here"] (defScope (tp 85)) := ⟨rfl, rfl, rfl, by decide +kernel, rfl, by decide +kernel, by decide +kernel⟩
theorem ok__law_great_right (T : Tx K mg) : Ok P w K mg base 10 "_law_great_right" ["_law_pot_here"] (spGreat) := by
  have O_keeps_fenced := ok_keeps_fenced (P := P) (w := w) (base := base) T
  have O__law_is_kept := ok__law_is_kept (P := P) (w := w) (base := base) T
  have O__law_draw := ok__law_draw (P := P) (w := w) (base := base) T
  have O__law_as_told := ok__law_as_told (P := P) (w := w) (base := base) T
  have O__law_image := ok__law_image (P := P) (w := w) (base := base) T
  have O__law_pick := ok__law_pick (P := P) (w := w) (base := base) T
  have O__law_cut := ok__law_cut (P := P) (w := w) (base := base) T
  refine T.d__law_great_right.ok sc__law_great_right (fun vs H Q E h => ?_) (fun _ _ _ _ _ _ us hl => match us, hl with | [_], _ => rfl) (fun cdv A outer s H vs Q E hr h => ?_)
  · obtain ⟨_, rfl, _⟩ := h
    rfl
  · refine ⟨_, (pss_cons (ps_par (i := 1) (j := 2) rfl sc__law_great_right.nd rfl rfl (by decide) rfl rfl (pa_cons (pe_op op_add pe_int (pe_c O__law_draw (hr.mono (by decide)) (by rfl) (pa_cons (pv 0) (pa_cons pe_int pa_nil)))) (pa_cons (pe_lc (own := [("_law_k", 3)]) rfl sc__law_great_right.nd (pi_range1 (by rfl) T.n_range (pa_cons (pe_op op_add pe_int (pe_c O__law_draw (hr.mono (by decide)) (by rfl) (pa_cons (pv 0) (pa_cons pe_int pa_nil)))) pa_nil)) (blkOk_by (own := [("_law_k", 3)]) (N := ["_law_pot_here", "_law_many", "_law_rule_here", "_law_k"]) (sc := defScope (tp 85)) (by decide +kernel)) (fun _ _ _ _ _ => (pg_name (i := 3) sc__law_great_right.nd rfl (.inl rfl))) (fun _ _ _ _ _ => pts_nil) (fun _ _ _ _ _ => (pe_tup (pa_cons (pe_c O__law_pick (hr.mono (by decide)) (by rfl) (pa_cons (pv 0) (pa_cons (pe_lst (pa_cons pe_int (pa_cons pe_int (pa_cons (pe_un un_neg pe_int) (pa_cons pe_int (pa_cons pe_int pa_nil)))))) pa_nil))) (pa_cons pe_int pa_nil))))) pa_nil)) (by rfl))
      (pss_one (ps_ret (pe_cmpR op_eq (pe_c O_keeps_fenced (hr.mono (by decide)) (by rfl) (pa_cons (pe_c O__law_as_told (hr.mono (by decide)) (by rfl) (pa_cons (pv 2) pa_nil)) (pa_cons (pv 1) pa_nil))) (pe_c O__law_is_kept (hr.mono (by decide)) (by rfl) (pa_cons (pe_c O__law_image (hr.mono (by decide)) (by rfl) (pa_cons (pe_c O__law_cut (hr.mono (by decide)) (by rfl) (pa_cons (pv 2) pa_nil)) (pa_cons (pv 1) pa_nil))) pa_nil)) (nomark _))))), ?_⟩
    obtain ⟨p, rfl, hp, k⟩ := h
    refine ⟨_, rfl, p, 3, rfl, hp, by decide, by decide, fun d H1 k1 hp1 hd => ?_⟩
    refine ⟨_, _, rfl, rfl, ?_⟩
    dsimp only [tCons, tNil]
    refine tLc_rng ?_
    refine ⟨_, rfl, p, 3, rfl, hp1, by decide, by decide, fun e H2 k2 hp2 he => ?_⟩
    refine ⟨_, _, rfl, rfl, _, rfl, by omega, by omega, ?_⟩
    rw [show (1 + (e : Int)).toNat = 1 + e by omega]
    refine LcBR1I (1 + e) (fun D i H' => Kp [p] H H' ∧ Pot H' p ∧ (D ≠ p ∧ H D = none) ∧ ∃ zs ls, H' D = some (.lst zs) ∧ Paired (IsT H') zs ls ∧ ls.length = i ∧ ∀ q ∈ ls, In 3 1 q) ?_ ?_ ?_ ?_
    · exact fun _ => rfl
    · intro D hD
      have e := Evl.Ex.new (o := .lst []) hD
      have hD0 : H D = none := by
        cases q : H D with
        | none => rfl
        | some o =>
          have hDp := pot_ne hp2 hD
          rw [k2 D o (by simpa using hDp) (k1 D o (by simpa using hDp) q)] at hD
          cases hD
      exact ⟨(k1.trans k2).trans (kp_ex e), hp2.ex e, ⟨pot_ne hp2 hD, hD0⟩, [], [], upd_same, .nil, rfl, by simp⟩
    · rintro D i H3 hi ⟨hk3, hp3, ⟨hDp, hD0⟩, zs, ls, hz, hls, hln, hin⟩
      refine ⟨_, rfl, _, rfl, (by show 5 ≤ sizeLine; decide), fun s hs => ?_⟩
      have es := Evl.Ex.new (o := .lst [.int 1, .int 2, .int (-1), .int 0, .int 3]) hs
      have hps := hp3.ex es
      refine ⟨p, s, rfl, [.int 1, .int 2, .int (-1), .int 0, .int 3], hps, upd_same, pot_ne hp3 hs, (by show 1 ≤ 5; decide), (by show 5 ≤ 1000; decide), fun t x H4 k4 hp4 hx => ?_⟩
      obtain ⟨c, rfl, hc⟩ : ∃ c : Int, x = .int c ∧ c.natAbs ≤ 3 := by
        match t, hx with
        | 0, hx => cases hx; exact ⟨1, rfl, by decide⟩
        | 1, hx => cases hx; exact ⟨2, rfl, by decide⟩
        | 2, hx => cases hx; exact ⟨-1, rfl, by decide⟩
        | 3, hx => cases hx; exact ⟨0, rfl, by decide⟩
        | 4, hx => cases hx; exact ⟨3, rfl, by decide⟩
      refine ⟨(by show 2 ≤ sizeLine; decide), fun u hu => ?_⟩
      have iu := isT_new (H := H4) (t := u) (q := (c : Rat)) (a := c) (b := 1) (by rw [Rat.num_intCast]) (by rw [Rat.den_intCast]; rfl)
      have eu := Evl.Ex.new (o := .tup [.int c, .int 1]) hu
      have hz4 := eu _ _ (k4 D _ (by simpa using hDp) (es _ _ hz))
      have hls4 : Paired (IsT (upd H4 u (.tup [.int c, .int 1]))) zs ls := p2_mono (fun _ _ r => (isT_kp hps k4 (r.mono es)).mono eu) hls
      have hp5 := hp4.ex eu
      have hzl := hls.length
      refine ⟨zs, hz4, Nat.lt_of_lt_of_le (by omega : zs.length < 100) (by decide), ?_⟩
      refine ⟨fun z o hz9 ho => ?_, ?_, ⟨hDp, hD0⟩, zs ++ [.ref u], ls ++ [(c : Rat)], upd_same, ?_, by rw [List.length_append, hln]; rfl, fun q hq => ?_⟩
      · have hzD : z ≠ D := fun e => by rw [e, hD0] at ho; cases ho
        rw [upd_ne hzD]
        exact eu _ _ (k4 z o hz9 (es _ _ (hk3 z o hz9 ho)))
      · obtain ⟨x, y2, h1, h2⟩ := hp5
        exact ⟨x, y2, by rw [upd_ne (fun e => hDp e.symm)]; exact h1, h2⟩
      · exact p2_app (lsT_put hz4 hls4) (.cons (isT_put hz4 iu) .nil)
      · rcases List.mem_append.mp hq with h | h
        · exact hin q h
        · have : q = (c : Rat) := by simpa using h
          rw [this]
          exact In.int c hc
    · rintro D H3 ⟨hk3, hp3, ⟨hDp, hD0⟩, zs, ls, hz, hls, hln, hin⟩
      have hi : InL 3 1 ls := hin
      have hl : LsT H3 (.ref D) ls := ⟨D, zs, rfl, hz, hls⟩
      have hd8 : 6 + d ≤ 8 := by omega
      have t1 := trim_len ls
      refine ⟨_, _, rfl, ?_⟩
      refine ⟨_, rfl, _, rfl, ls, hl, by omega, hi.sz (by decide) (by decide +kernel) (by decide +kernel), fun a ys H4 e4 ha0 ha hys => ?_⟩
      refine ⟨_, rfl, _, 6 + d, rfl, ls, ⟨a, ys, rfl, .inl ha, hys⟩, hd8, ⟨by omega, 3, 1, hi, by decide, by decide +kernel, by decide, by decide +kernel, fit8.le hd8 (by decide)⟩, fun H5 b e5 hb => ?_⟩
      refine ⟨_, rfl, _, rfl, ls, (hl.mono e4).mono e5, by omega, fun y H6 e6 hy => ?_⟩
      refine ⟨_, rfl, _, 6 + d, rfl, trim ls, hy, hd8, by omega, ⟨3, 1, hi.trim, by decide, by decide +kernel, by decide +kernel⟩, fun z H7 e7 hz7 => ?_⟩
      have il := imT_len (trim ls) (6 + d)
      have ii : InL (3 * 56) 1 (imT (trim ls) (6 + d)) := imT_in hi.trim fun j hj => fall8 _ (by omega) j (by omega)
      refine ⟨_, rfl, _, hz7, tr_trim _, ⟨by omega, 168, 1, 8, ii, by decide, by decide +kernel, by decide, by decide, Nat.le_trans (gr_le 8 (by omega : _ ≤ 9)) (by decide +kernel), Nat.lt_of_le_of_lt (gr_le 8 (by omega : _ ≤ 8)) (by decide +kernel)⟩, fun H8 b' e8 hb' => ?_⟩
      rw [en_imT, img_tr] at hb'
      have : b = b' := (kb_of hb).trans (kb_of hb').symm
      subst this
      refine ⟨rfl, ?_⟩
      have e := (((e4.trans e5).trans e6).trans e7).trans e8
      have fin := k H8 (hk3.trans (kp_ex e)) (hp3.ex e)
      have : decide (V.bl b = V.bl b) = true := by simp
      show Q (.bl (decide (V.bl b = V.bl b))) H8
      rw [this]
      exact fin
end
end K66

set_option Elab.async false
set_option linter.all false
set_option maxRecDepth 100000
set_option maxHeartbeats 4000000
set_option exponentiation.threshold 100000
namespace K66
open PySem PySem.Spec PyProof.Rows L2
open Evl (Ex)
section
variable {P : Program} {w : World} {K : PySem.W.Frag} {mg : Str → Option Value} {base : Heap}
theorem sc__law_right : FnScope ["_law_pot_here", "_law_many", "_law_rule_here", "_law_other", "_law_both"] ["_law_pot_here"] (defScope (tp 86)) := ⟨rfl, rfl, rfl, by decide +kernel, rfl, by decide +kernel, by decide +kernel⟩
theorem ok__law_right (T : Tx K mg) : Ok P w K mg base 11 "_law_right" ["_law_pot_here"] (spGreat) := by
  have O_times := ok_times (P := P) (w := w) (base := base) T
  have O__law_great_right := ok__law_great_right (P := P) (w := w) (base := base) T
  have O__law_draw := ok__law_draw (P := P) (w := w) (base := base) T
  have O__law_rule := ok__law_rule (P := P) (w := w) (base := base) T
  have O__law_lined := ok__law_lined (P := P) (w := w) (base := base) T
  have O_keeps_fenced := ok_keeps_fenced (P := P) (w := w) (base := base) T
  have O__law_as_told := ok__law_as_told (P := P) (w := w) (base := base) T
  have O__law_degrees_right := ok__law_degrees_right (P := P) (w := w) (base := base) T
  have O__law_led_right := ok__law_led_right (P := P) (w := w) (base := base) T
  refine T.d__law_right.ok sc__law_right (fun vs H Q E h => ?_) (fun _ _ _ _ _ _ us hl => match us, hl with | [_], _ => rfl) (fun cdv A outer s H vs Q E hr h => ?_)
  · obtain ⟨_, rfl, _⟩ := h
    rfl
  · refine ⟨_, (pss_cons (ps_set (i := 1) sc__law_right.nd rfl (.inl rfl) (pe_op op_add pe_int (pe_c O__law_draw (hr.mono (by decide)) (by rfl) (pa_cons (pv 0) (pa_cons pe_int pa_nil)))))
      (pss_cons (ps_par (i := 2) (j := 3) rfl sc__law_right.nd rfl rfl (by decide) rfl rfl (pa_cons (pe_c O__law_rule (hr.mono (by decide)) (by rfl) (pa_cons (pv 0) (pa_cons (pv 1) pa_nil))) (pa_cons (pe_c O__law_lined (hr.mono (by decide)) (by rfl) (pa_cons (pv 0) (pa_cons (pe_c O__law_draw (hr.mono (by decide)) (by rfl) (pa_cons (pv 0) (pa_cons pe_int pa_nil))) (pa_cons pe_int pa_nil)))) pa_nil)) (by rfl))
      (pss_cons (ps_if (PW.pt (pw_or (pt_not (pt_val (pe_c O__law_degrees_right (hr.mono (by decide)) (by rfl) (pa_cons (pv 0) (pa_cons (pv 2) (pa_cons (pv 1) pa_nil)))))) (pw_or1 (pt_not (pt_val (pe_c O__law_led_right (hr.mono (by decide)) (by rfl) (pa_cons (pv 0) (pa_cons (pv 1) pa_nil)))))))) (pss_one (ps_ret pe_bl)) pss_nil)
      (pss_cons (ps_if (pt_not (pt_val (pe_c O_keeps_fenced (hr.mono (by decide)) (by rfl) (pa_cons (pe_c O__law_as_told (hr.mono (by decide)) (by rfl) (pa_cons (pv 3) pa_nil)) (pa_cons pe_int pa_nil))))) (pss_one (ps_ret pe_bl)) pss_nil)
      (pss_cons (ps_set (i := 4) sc__law_right.nd rfl (.inl rfl) (pe_c O_times (hr.mono (by decide)) (by rfl) (pa_cons (pe_c O__law_as_told (hr.mono (by decide)) (by rfl) (pa_cons (pv 2) pa_nil)) (pa_cons (pe_c O__law_as_told (hr.mono (by decide)) (by rfl) (pa_cons (pv 3) pa_nil)) pa_nil))))
      (pss_cons (ps_if (PW.pt (pw_and (pt_val (pe_c O_keeps_fenced (hr.mono (by decide)) (by rfl) (pa_cons (pe_c O__law_as_told (hr.mono (by decide)) (by rfl) (pa_cons (pv 2) pa_nil)) (pa_cons (pv 1) pa_nil)))) (pw_and1 (pt_not (pt_val (pe_c O_keeps_fenced (hr.mono (by decide)) (by rfl) (pa_cons (pv 4) (pa_cons (pv 1) pa_nil)))))))) (pss_one (ps_ret pe_bl)) pss_nil)
      (pss_one (ps_ret (pe_c O__law_great_right (hr.mono (by decide)) (by rfl) (pa_cons (pv 0) pa_nil)))))))))), ?_⟩
    obtain ⟨p, rfl, hp, k⟩ := h
    refine ⟨_, rfl, p, 4, rfl, hp, by decide, by decide, fun d H1 k1 hp1 hd => ?_⟩
    refine ⟨_, _, rfl, rfl, ?_⟩
    have hn : 1 + d ≤ 4 := by omega
    have en1 : (1 : Int) + (d : Int) = ((1 + d : Nat) : Int) := by omega
    dsimp only
    rw [en1]
    generalize hnn : 1 + d = n at *
    refine ⟨_, rfl, _, rfl, p, n, rfl, hp1, by omega, hn, fun v H2 q k2 hp2 hv hq => ?_⟩
    refine ⟨_, rfl, _, rfl, p, 4, rfl, hp2, by decide, by decide, fun m H3 k3 hp3 hm => ?_⟩
    refine ⟨p, m, rfl, hp3, by omega, fun u H4 o k4 hp4 hu ho => ?_⟩
    refine ⟨_, _, rfl, ?_⟩
    have hv4 := lsT_kp hp3 k4 (lsT_kp hp2 k3 hv)
    have kp4 := ((k1.trans k2).trans k3).trans k4
    refine ⟨_, rfl, _, rfl, _, rfl, p, v, n, rfl, q, hp4, hv4, hq, hn, fun H5 k5 hp5 => ?_⟩
    have hv5 := lsT_kp hp4 k5 hv4
    have hu5 := lsT_kp hp4 k5 hu
    refine ⟨_, rfl, iteF ?_⟩
    refine ⟨_, rfl, _, rfl, p, n, rfl, hp5, hn, fun H6 k6 hp6 => ?_⟩
    have hv6 := lsT_kp hp5 k6 hv5
    have hu6 := lsT_kp hp5 k6 hu5
    refine ⟨_, rfl, iteF ?_⟩
    have oc := ho.cu (by omega)
    have ol := ho.2.1
    have ql := hq.2.1
    have osz : LSz o := oc.2.2.sz (by decide) (by decide +kernel) (by decide +kernel)
    have qsz : LSz q := hq.2.2.sz (by decide) (by decide +kernel) (by decide +kernel)
    refine ⟨_, rfl, _, rfl, o, hu6, by omega, osz, fun a zs H7 e7 ha0 ha hzs => ?_⟩
    refine ⟨_, 5, rfl, o, ⟨a, zs, rfl, .inl ha, hzs⟩, by decide, ho.fine (by omega), fun H8 b e8 hb => ?_⟩
    have hbt : b = true := hb.mpr (five' ho (by omega))
    rw [hbt]
    refine ⟨_, rfl, iteF ?_⟩
    have hv8 := (hv6.mono e7).mono e8
    have hu8 := (hu6.mono e7).mono e8
    refine ⟨_, rfl, _, rfl, q, hv8, by omega, qsz, fun a1 zs1 H9 e9 ha10 ha1 hzs1 => ?_⟩
    refine ⟨_, rfl, _, rfl, o, hu8.mono e9, by omega, osz, fun a2 zs2 H10 e10 ha20 ha2 hzs2 => ?_⟩
    refine ⟨_, _, rfl, q, o, ⟨a1, zs1, rfl, .inl (e10 _ _ ha1), p2_mono (fun _ _ r => r.mono e10) hzs1⟩, ⟨a2, zs2, rfl, .inl ha2, hzs2⟩, by omega, by omega, ⟨_, _, _, _, hq.2.2, oc.2.2, by decide, by decide, by decide +kernel, by decide +kernel, by decide +kernel, by decide +kernel⟩, fun y H11 e11 hy => ?_⟩
    rw [trim_of_tr hq.1, trim_of_tr ho.2.2.1] at hy
    have hv11 := ((hv8.mono e9).mono e10).mono e11
    refine ⟨_, rfl, _, rfl, q, hv11, by omega, qsz, fun a3 zs3 H12 e12 ha30 ha3 hzs3 => ?_⟩
    refine ⟨_, rfl, _, n, rfl, q, ⟨a3, zs3, rfl, .inl ha3, hzs3⟩, by omega, hq.fine hn, fun H13 b2 e13 hb2 => ?_⟩
    have e7_13 := (((((e7.trans e8).trans e9).trans e10).trans e11).trans e12).trans e13
    have kp13 := ((kp4.trans k5).trans k6).trans (kp_ex e7_13)
    have hp13 := hp6.ex e7_13
    have last : ∀ H14, Ex H13 H14 → spGreat [.ref p] H14 Q E0 := fun H14 e14 => ⟨p, rfl, hp13.ex e14, fun H15 k15 hp15 => k H15 ((kp13.trans (kp_ex e14)).trans k15) hp15⟩
    cases b2 with
    | false => exact ⟨_, rfl, iteF (iteF ⟨_, rfl, last H13 (Evl.Ex.refl _)⟩)⟩
    | true =>
      have hg := hb2.mp rfl
      refine ⟨_, rfl, iteT ?_⟩
      have lm : (mulL q o).length ≤ 9 := by
        by_cases hqe : q = []
        · rw [hqe]
          show (if _ ∨ _ then _ else _ : List Rat).length ≤ 9
          rw [if_pos (.inl rfl)]; simp
        · rw [mulL_len hqe ho.ne]; omega
      have im : InL (2 ^ 96) (104509440 * 2592) (mulL q o) := by
        have := hq.2.2.mul oc.2.2
        refine this.conv 1 (by rw [Nat.mul_one]) ?_
        rw [Nat.mul_one]
        have : (q.length + o.length) * (2 ^ 54 * 2 ^ 38) ≤ 9 * (2 ^ 54 * 2 ^ 38) := Nat.mul_le_mul_right _ (by omega)
        exact Nat.le_trans this (by decide +kernel)
      refine ⟨_, rfl, _, rfl, _, n, rfl, mulL q o, ((hy.mono e12).mono e13).sqN, by omega, ⟨lm, 2 ^ 96, 104509440 * 2592, im, by decide, by decide +kernel, by decide +kernel, by decide +kernel, fitB.le hn (by decide +kernel)⟩, fun H14 b3 e14 hb3 => ?_⟩
      have hb3t : b3 = true := hb3.mpr (both' ho hn hg)
      rw [hb3t]
      exact ⟨_, rfl, iteF ⟨_, rfl, last H14 e14⟩⟩
end
end K66

set_option Elab.async false
set_option linter.all false
set_option maxRecDepth 100000
set_option maxHeartbeats 0
set_option exponentiation.threshold 100000
namespace K66
open PySem PySem.Spec PyProof.Rows L2
open Evl (Ex)
def spLaw (K : PySem.W.Frag) : Sp := fun vs H Q _ => ∃ a, vs = [.ref a] ∧ ∃ ns : List Int, SqL K H a (ns.map V.int) ∧ ∀ H', Ex H H' → Q (.bl true) H'
theorem sc_law : FnScope ["_law_script", "_law_k"] ["_law_script"] (defScope (tp 87)) := ⟨rfl, rfl, rfl, by decide +kernel, rfl, by decide +kernel, by decide +kernel⟩
theorem fn_law {P : Program} {w : World} {K : PySem.W.Frag} {mg : Str → Option Value} {base : Heap} {fd : FuncData} (T : Tx K mg) (F : FunD K "law" "law" (defArgs (tp 87)) (defBody (tp 87)) (defScope (tp 87)) [] [] (He.ga K "law") fd) :
    FnOk P w K mg base CX0 12 (He.ga K "law") fd ["_law_script"] (spLaw K) := by
  have O__law_right := ok__law_right (P := P) (w := w) (base := base) T
  have O__law_pot := ok__law_pot (P := P) (w := w) (base := base) T
  refine F.ok sc_law (fun vs H Q E h => ?_) (fun cdv A outer s H vs Q E hr h => ?_)
  · obtain ⟨_, rfl, _⟩ := h
    rfl
  · refine ⟨_, PSs.nox (pss_one (ps_ret (pe_callB (cr_all (by rfl)) (by rfl) T.n_all (by decide +kernel) (pa_cons (pe_lc (own := [("_law_k", 1)]) rfl sc_law.nd (pi_range1 (by rfl) T.n_range (pa_cons (pe_callB (call_max2 rfl) (by rfl) T.n_max (by decide +kernel) (pa_cons pe_int (pa_cons (pe_callB (call_min2 rfl) (by rfl) T.n_min (by decide +kernel) (pa_cons pe_int (pa_cons (pe_callB (call_lenK (K := K) rfl) (by rfl) T.n_len (by decide +kernel) (pa_cons (pv 0) pa_nil)) pa_nil))) pa_nil))) pa_nil)) (blkOk_by (own := [("_law_k", 1)]) (N := ["_law_script", "_law_k"]) (sc := defScope (tp 87)) (by decide +kernel)) (fun _ _ _ _ _ => (pg_name (i := 1) sc_law.nd rfl (.inl rfl))) (fun _ _ _ _ _ => pts_nil) (fun _ _ _ _ _ => (pe_c O__law_right (hr.mono (by decide)) (by rfl) (pa_cons (pe_c O__law_pot (hr.mono (by decide)) (by rfl) (pa_cons (pv 0) (pa_cons (pv 1) pa_nil))) pa_nil)))) pa_nil)))), ?_⟩
    obtain ⟨a, rfl, ns, ha, k⟩ := h
    have hm : ∃ n : Nat, n ≤ 2 ∧ (if (if ((ns.map V.int).length : Int) < 2 then ((ns.map V.int).length : Int) else 2) > 1 then (if ((ns.map V.int).length : Int) < 2 then ((ns.map V.int).length : Int) else 2) else 1) = (n : Int) := by
      by_cases h : ((ns.map V.int).length : Int) < 2
      · refine ⟨1, by decide, ?_⟩
        rw [if_pos h]; split <;> omega
      · exact ⟨2, by decide, by rw [if_neg h]; rfl⟩
    obtain ⟨n, hn, hmn⟩ := hm
    dsimp only [tSeq, tRet, tCB, tCall, tCons, tNext, gName, tAsg, tNil, tIfS, tOp, tC]
    refine LcR1 n (List.replicate n true) (R := IsB) rep_B (fun F f => ⟨_, rfl, a, _, rfl, .inl ha, _, _, rfl, _, _, rfl, by
      dsimp only
      rw [hmn]
      exact f⟩) (by simp) (by omega) ?_ ?_ ?_
    · exact fun _ => rfl
    · intro i b H2 D zs hi hb e2 hD Q' q'
      have hbt : b = true := (List.mem_replicate.mp (List.mem_of_getElem? hb)).2
      subst hbt
      refine ⟨_, rfl, _, rfl, a, i, rfl, ns, Evl.ex_l e2 ha, by omega, fun p H3 e3 hp0 hp => ?_⟩
      refine ⟨p, rfl, hp, fun H4 k4 hp4 => ?_⟩
      refine q' _ _ (fun x o ho => ?_) rfl (by intro e; cases e)
      refine k4 x o (fun hm => ?_) (e3 _ _ ho)
      have : x = p := by simpa using hm
      rw [this, hp0] at ho; cases ho
    · intro D H2 zs hD e2 hz hp2
      refine ⟨D, _, rfl, .of (by rw [hz, bools_eq hp2]), ?_⟩
      rw [all_rep]
      exact k _ e2
theorem facts {P : Program} {w : World} {K : PySem.W.Frag} {h : Heap} {mg : Str → Option Value} {f : Addr} (X : K.In h) (G : h.Ns mainGlobals mg) (hfa : mg ("law" : Str) = some (.ref f)) (c : Hd.SaysX K) :
    ∃ fd : FuncData, (∀ (s : Shared) (v : Value), BindsTo s fd ⟨[v], []⟩ [("_law_script", v)]) ∧ ∀ base : Heap, K.In base → base.Ns mainGlobals mg → FnOk P w K mg base CX0 12 f fd ["_law_script"] (spLaw K) := by
  have T := Hd.tx_of X G c
  obtain ⟨fd, F⟩ := T.d_law.fn
  have e := hfa.symm.trans T.d_law.mgx
  cases e
  have b := FunD.bindsA (ps := ["_law_script"]) F fun _ _ _ _ _ _ us hl => match us, hl with | [_], _ => rfl
  exact ⟨fd, fun s v => b s [v] rfl, fun base _ _ => fn_law T F⟩
end K66
open PySem PySem.W PySem.Calls PyProof.Rows
theorem PySem.Challenge.cw_coinfences_k66_whole_rules_that_keep_fen_holds : PySem.Challenge.rw_coinfences_k66_whole_rules_that_keep_fen.Holds := by
  w_on; o_law
  refine HandSHeadRun.head_imp (r := OpenLaw.row PySem.Challenge.rw_coinfences_k66_whole_rules_that_keep_fen) (q := view (OpenLaw.row PySem.Challenge.rw_coinfences_k66_whole_rules_that_keep_fen).prog [0, 87]) (H := K66.Hd.hkX) (ob := K66.Hd.ob) (M := 6000) (loose := K66.Hd.names) (d := HandSHeadRun.topDef (OpenLaw.row PySem.Challenge.rw_coinfences_k66_whole_rules_that_keep_fen).prog 87) (kwd := []) K66.Hd.ob_eq
    K66.Hd.run (by kernel_rfl) (by kernel_rfl) (by kernel_rfl) (by rfl) (by first | assumption | decide +kernel) (by decide +kernel) ⟨rfl, rfl, rfl, rfl, rfl, by decide +kernel⟩ ?hw ?hc
  case hw => w_witness2
  case hc =>
    refine L2.walk_ofE (l := PySem.Challenge.rw_coinfences_k66_whole_rules_that_keep_fen) (n := 63) (k := 12) (x := "_law_script") (CX := L2.CX0) rfl (by decide) (by kernel_rfl) ⟨rfl, by decide, by decide⟩ ?F (fun _ _ _ _ z => z)
    intro w mg fa h Y G hmg0
    obtain ⟨K, KX, c⟩ := Y
    have hmg : mg ("law" : PySem.Str) = some (.ref fa) := by
      have e : (HandSHeadRun.topDef (OpenLaw.row PySem.Challenge.rw_coinfences_k66_whole_rules_that_keep_fen).prog 87).name = ("law" : PySem.Str) := by kernel_rfl
      rw [← e]
      exact hmg0
    obtain ⟨fd, hb, hF⟩ := K66.facts (P := (PySem.Challenge.rw_coinfences_k66_whole_rules_that_keep_fen).prog) (w := w) KX G hmg c
    exact ⟨K, fd, K66.spLaw K, KX, hb, fun H a ns hl _ hS => ⟨a, rfl, ns, hS, fun _ _ => rfl⟩, hF⟩

