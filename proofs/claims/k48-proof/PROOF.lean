import PyProof.Rows.All
import Wide.All
import OpenK.AllK
import Wide.FinOn
import HandS.ForMost
import HandS.Wide
import HandS.WideBits
import HandS.IsInst
import HandS.Deep
import HandS.TupAny
import HandS.TupLen
import HandS.Style
import HandS.NoneIn
import HandS.TryOnly
import HandS.Exc
import HandS.Star
import HandS.ClsMeth
import HandS.Defaults
import HandS.DictComp
import HandS.HeadHook1
import HandS.HeadHook2
import HandS.HeadHook3
import HandS.HeadNt
import PySem.Challenge.RW_drawnbelow_k48_whole_draws_that_stick
import KE.KStateDown
import HandS.Head0
import HandS.Head1
import HandS.Head2
import HandS.HeadEnd
import KE.GoesEnum
import KE.KDictPairs
import KE.KDictKeyed
set_option Elab.async false
set_option linter.all false
set_option maxRecDepth 100000
set_option maxHeartbeats 4000000
namespace K48
open PySem PySem.Spec PyProof.Rows L2
def top (i : Nat) : Stmt := PySem.Challenge.pw_drawnbelow_k48_whole_draws_that_stick.main.body.getD i (.Pass ⟨0, 0, 0, 0⟩)
abbrev s__wall : Stmt := top 0
abbrev s_is_integer : Stmt := top 13
abbrev s_is_between : Stmt := top 14
abbrev s_place_in : Stmt := top 15
abbrev s_plain_step_in : Stmt := top 16
abbrev s_step_in : Stmt := top 17
abbrev s_wrong_row : Stmt := top 18
abbrev s_is_too_far : Stmt := top 23
abbrev s_taken : Stmt := top 24
abbrev s_tested : Stmt := top 25
abbrev s_marked_steps : Stmt := top 26
abbrev s_is_bits : Stmt := top 28
abbrev s_is_well : Stmt := top 29
abbrev s_amount : Stmt := top 30
abbrev s_is_far : Stmt := top 31
abbrev s_moved : Stmt := top 32
abbrev s_outcome_at : Stmt := top 33
abbrev s_led : Stmt := top 34
abbrev s_behind : Stmt := top 35
abbrev s_is_course : Stmt := top 36
abbrev s_program_of : Stmt := top 40
abbrev s_is_state : Stmt := top 41
abbrev s_is_given_right : Stmt := top 42
abbrev s_closes : Stmt := top 43
abbrev s_is_bounded : Stmt := top 44
abbrev s_stretch_of : Stmt := top 45
abbrev s_is_fair : Stmt := top 46
abbrev s_shows : Stmt := top 47
abbrev s_is_spot : Stmt := top 48
abbrev s_sticks : Stmt := top 49
abbrev s_lie_apart : Stmt := top 50
abbrev s_accepts_course : Stmt := top 51
abbrev s_accepts_unlike : Stmt := top 52
abbrev s_accepts : Stmt := top 53
abbrev s__law_spring : Stmt := top 55
abbrev s__law_draw : Stmt := top 56
abbrev s__law_of : Stmt := top 57
abbrev s__law_measure : Stmt := top 58
abbrev s__law_place : Stmt := top 59
abbrev s__law_last_row : Stmt := top 60
abbrev s__law_row : Stmt := top 61
abbrev s__law_base : Stmt := top 62
abbrev s__law_rows : Stmt := top 63
abbrev s__law_size : Stmt := top 64
abbrev s__law_goes : Stmt := top 65
abbrev s__law_end : Stmt := top 66
abbrev s__law_is_far : Stmt := top 67
abbrev s__law_play : Stmt := top 68
abbrev s__law_bits : Stmt := top 69
abbrev s__law_number : Stmt := top 70
abbrev s__law_well : Stmt := top 71
abbrev s__law_next : Stmt := top 72
abbrev s__law_is_wide_spot : Stmt := top 73
abbrev s__law_is_whole : Stmt := top 74
abbrev s__law_bounded : Stmt := top 75
abbrev s__law_is_road : Stmt := top 76
abbrev s__law_begin : Stmt := top 77
abbrev s__law_is_spot : Stmt := top 78
abbrev s__law_sticks : Stmt := top 79
abbrev s__law_looped_rows : Stmt := top 80
abbrev s__law_all_from : Stmt := top 81
abbrev s__law_bent_spot : Stmt := top 82
abbrev s__law_bent : Stmt := top 83
abbrev s__law_right : Stmt := top 84
abbrev s_law : Stmt := top 85
abbrev s___init__ : Stmt := inClass (top 19) 0
abbrev s_read : Stmt := inClass (top 19) 1
abbrev s___len__ : Stmt := inClass (top 19) 5
/-! ### what of the built-ins is known -/
theorem boot_isinstance' : bootBuiltins "isinstance" = some (.builtin "isinstance") := by decide +kernel
theorem boot_len' : bootBuiltins "len" = some (.builtin "len") := by decide +kernel
theorem boot_min' : bootBuiltins "min" = some (.builtin "min") := by decide +kernel
theorem boot_max' : bootBuiltins "max" = some (.builtin "max") := by decide +kernel
theorem boot_all' : bootBuiltins "all" = some (.builtin "all") := by decide +kernel
theorem boot_abs' : bootBuiltins "abs" = some (.builtin "abs") := by decide +kernel
theorem boot_divmod' : bootBuiltins "divmod" = some (.builtin "divmod") := by decide +kernel
theorem boot_repr' : bootBuiltins "repr" = some (.builtin "repr") := by decide +kernel
theorem boot_int' : bootBuiltins "int" = some (.type "int") := by decide +kernel
theorem boot_bool' : bootBuiltins "bool" = some (.type "bool") := by decide +kernel
theorem boot_str' : bootBuiltins "str" = some (.type "str") := by decide +kernel
theorem boot_tuple' : bootBuiltins "tuple" = some (.type "tuple") := by decide +kernel
theorem boot_list' : bootBuiltins "list" = some (.type "list") := by decide +kernel
theorem boot_dict' : bootBuiltins "dict" = some (.type "dict") := by decide +kernel
/-! ### the module's names -/
abbrev aP (K : PySem.W.Frag) : Addr := He.ga K "Program"
abbrev aQ (K : PySem.W.Frag) : Addr := He.ga K "QUANTITIES"
abbrev aS (K : PySem.W.Frag) : Addr := He.ga K "SUBJECTS"
structure Tx (w : World) (K : PySem.W.Frag) (mg : Str → Option Value) : Prop where
  z_isinstance : mg "isinstance" = none
  z_int : mg "int" = none
  z_bool : mg "bool" = none
  z_str : mg "str" = none
  z_tuple : mg "tuple" = none
  z_list : mg "list" = none
  z_dict : mg "dict" = none
  z_len : mg "len" = none
  z_enumerate : mg "enumerate" = none
  z_range : mg "range" = none
  z_min : mg "min" = none
  z_max : mg "max" = none
  z_all : mg "all" = none
  z_abs : mg "abs" = none
  z_divmod : mg "divmod" = none
  z_repr : mg "repr" = none
  mostRows : ∃ t, mg "MOST_ROWS" = some (.int 8 t)
  mostFull : ∃ t, mg "MOST_FULL" = some (.int 2 t)
  mostWide : ∃ t, mg "MOST_WIDE" = some (.int 8 t)
  fit : ∃ t, mg "FIT" = some (.int 0 t)
  figures : ∃ t, mg "FIGURES" = some (.str "01234567" t)
  gP : mg "Program" = some (.ref (aP K))
  gQ : mg "QUANTITIES" = some (.ref (aQ K))
  gS : mg "SUBJECTS" = some (.ref (aS K))
  gC : mg "CLOSED" = some (.ref (He.ga K "CLOSED"))
  gW : mg "SHOWN" = some (.ref (He.ga K "SHOWN"))
  clP : Cls K (aP K)
  nW : NoAttr K (aP K) "written"
  nS : NoAttr K (aP K) "steps"
  mkP : Mk K (aP K) (He.ma K (aP K) "__init__")
  lnP : Meth K (aP K) "__len__" (He.ma K (aP K) "__len__")
  crP : ClX.CRead K (aP K) (.type "type")
  cmP : ClX.CMet K (aP K) (.type "type") "read" (He.ma K (aP K) "read") (He5.wf K (aP K) "classmethod" "read")
  closed : ∀ H : Hp, SqT K H (He.ga K "CLOSED") [.str "inside", .str "even", .str "clean"]
  kdQ : ∃ es n, KDict K w (aQ K) es n
  kdS : ∃ es n, KDict K w (aS K) es n
  kdW : ∃ es n, KDict K w (He.ga K "SHOWN") es n
  vQ : ∀ q ∈ ([("n", .int 1), ("2n", .int 2), ("3n", .int 3), ("4n", .int 4), ("fit", .int 0)] : List (Str × He.Dv)), ∃ u, PySem.W.nsIn K (aQ K) q.1 = some (some u) ∧ RelV (q.2.v K) u
  vS : ∀ q ∈ ([("less", .str "cv"), ("c less", .str "c"), ("v less", .str "v")] : List (Str × He.Dv)), ∃ u, PySem.W.nsIn K (aS K) q.1 = some (some u) ∧ RelV (q.2.v K) u
  oW : PySem.W.nsIn K (He.ga K "SHOWN") "stick" = some none
  oS0 : PySem.W.nsIn K (aS K) "" = some none
  oS1 : PySem.W.nsIn K (aS K) "give" = some none
  oS2 : PySem.W.nsIn K (aS K) "go" = some none
/-- where a def stands -/
def HasDef (K : PySem.W.Frag) (mg : Str → Option Value) (x : Str) (st : Stmt) (ps : List Str) : Prop := ∃ f fd, Fun K x x st f fd ∧ mg x = some (.ref f) ∧ Binds K fd ps []
/-- a def keeps its promise -/
def Def (P : Program) (w : World) (K : PySem.W.Frag) (mg : Str → Option Value) (base : Heap) (x : Str) (k : Nat) (ps : List Str) (sp : Sp) : Prop :=
  ∃ f fd, FnOk P w K mg base CX0 k f fd ps sp ∧ mg x = some (.ref f) ∧ PySem.W.keepIn K (.ref f) = true ∧ Binds K fd ps []
section
variable {P : Program} {w : World} {K : PySem.W.Frag} {mg : Str → Option Value} {base : Heap} {k : Nat} {x : Str} {st : Stmt} {N ps : List Str} {sp : Sp}
theorem Def.mk (B : HasDef K mg x st ps) (S : FnScope N ps (defScope st)) (len : ∀ vs H Q E, sp vs H Q E → vs.length = ps.length)
    (body : ∀ (f : Addr) (cdv : Value) (A : Around) (outer : List Env) (s : Shared) (H : Hp) (vs : List V) (Q : VK) (E : XK), Room k (A.deeper (envOfC x (defScope st) s.heap.objs.size f cdv)) → sp vs H Q E →
      ∃ t, PSs (cxOf CX0 P w K mg base N x (defScope st) f cdv A outer s H E).nox (defBody st) t ∧ t { nx := fun _ H' => Q .non H', rt := Q } (start N vs) H) : Def P w K mg base x (k + 1) ps sp := by
  obtain ⟨f, fd, F, g, b⟩ := B
  exact ⟨f, fd, F.ok S len (fun cdv A outer s H vs Q E hr h => body f cdv A outer s H vs Q E hr h), g, F.kp, b⟩
end
/-! ### short rules -/
section
variable {X : Cx} {x : Str} {p pos : Pos} {e : Expr} {es : List Expr} {t : TA} {j k : Nat} {ps : List Str} {sp : Sp} {i : Int} {z : Str} {a : Addr}
theorem pe_d (D : Def X.prog X.w X.K X.mg X.base x k ps sp) (hr : Room j X.A) (ha : PA X (e :: es) t) (hk : k ≤ j := by decide) (hg : Gl X x := by rfl) (hdb : (x == ("__debug__" : Str)) = false := by decide)
    (he : starEach (e :: es) X.env = (false, eval e X.env) :: starEach es X.env := by rfl) (hpl : (backTo pos (starEach es X.env)).any (·.1) = false := by rfl) : PE X (.Call (.Name x p) (e :: es) [] pos) (tCall sp [] E0 t) := by
  obtain ⟨f, fd, F, g, kp, b⟩ := D
  exact pe_call F (hr.mono hk) hg g kp b .nil pass0 ha hdb he hpl
theorem g_int (h : ∃ t, X.mg x = some (.int i t)) (hg : Gl X x := by rfl) (hd : (x == ("__debug__" : Str)) = false := by decide) : PE X (.Name x p) (tC (.int i)) := by
  obtain ⟨t, h⟩ := h
  exact pe_glob hg h ⟨t, rfl⟩ hd
theorem g_str (h : ∃ t, X.mg x = some (.str z t)) (hg : Gl X x := by rfl) (hd : (x == ("__debug__" : Str)) = false := by decide) : PE X (.Name x p) (tC (.str z)) := by
  obtain ⟨t, h⟩ := h
  exact pe_glob hg h ⟨t, rfl⟩ hd
theorem g_ref (h : X.mg x = some (.ref a)) (hg : Gl X x := by rfl) (hd : (x == ("__debug__" : Str)) = false := by decide) : PE X (.Name x p) (tC (.ref a)) := pe_glob hg h rfl hd
end
theorem room65 {k : Nat} {A : Around} (hr : Room k A) : A.units + 65 < cLine := by
  have := hr.un
  omega
/-! ### readings, step by step -/
section
variable {σ : L2.St} {H H1 H2 : Hp} {Q : VK} {QB : Bool → Hp → Prop} {QA : List V → Hp → Prop} {QS : L2.St → Hp → Prop} {D : Ends} {te ta tb tc : TE} {tt tu : TT} {t1 t2 : TS} {tl : TA} {g : TG} {gs : TGs} {r r' : R2} {v x y : V} {vs : List V} {K : PySem.W.Frag} {i : Nat} {m n : Int} {b : Bool} {a p : Addr} {xs : List V}
theorem x_var (h : σ[i]? = some (some v)) (q : Q v H) : tVar i σ H Q := ⟨v, h, q⟩
theorem x_c (q : Q v H) : tC v σ H Q := q
theorem x_op (q : ta σ H fun x H1 => tb σ H1 fun y H2 => r x y H2 Q) : tOp r ta tb σ H Q := q
theorem x_un {r : V → Hp → VK → Prop} (q : ta σ H fun x H1 => r x H1 Q) : tUn r ta σ H Q := q
theorem x_seq (q : t1 { D with nx := t2 D } σ H) : tSeq t1 t2 D σ H := q
theorem x_asg (q : te σ H fun x H1 => g x σ H1 D.nx) : tAsg te g D σ H := q
theorem x_gname (q : QS (σ.set i (some v)) H) : gName i v σ H QS := q
theorem x_gtup {k : Nat} (h : SqT K H a xs) (hl : xs.length = k) (q : gs xs σ H QS) : gTup K k gs (.ref a) σ H QS := ⟨a, xs, rfl, h, hl, q⟩
theorem x_glst {k : Nat} (h : SqL K H a xs) (hl : xs.length = k) (q : gs xs σ H QS) : gLst K k gs (.ref a) σ H QS := ⟨a, xs, rfl, h, hl, q⟩
theorem x_gcons (q : g v σ H fun σ' H' => gs vs σ' H' QS) : gCons g gs (v :: vs) σ H QS := ⟨v, vs, rfl, q⟩
theorem x_gnil (q : QS σ H) : gNil [] σ H QS := ⟨rfl, q⟩
theorem x_ret (q : te σ H D.rt) : tRet te D σ H := q
theorem x_drop (q : te σ H fun _ H1 => D.nx σ H1) : tDrop te D σ H := q
theorem x_next (q : D.nx σ H) : tNext D σ H := q
theorem x_brk (q : D.bk σ H) : tBreak D σ H := q
theorem x_cont (q : D.ct σ H) : tCont D σ H := q
theorem x_ifS (q : tt σ H fun b H1 => if b = true then t1 D σ H1 else t2 D σ H1) : tIfS tt t1 t2 D σ H := q
theorem x_ifE (q : tt σ H fun b H1 => if b = true then ta σ H1 Q else tb σ H1 Q) : tIf tt ta tb σ H Q := q
theorem x_cons (q : te σ H fun x H1 => tl σ H1 fun xs H2 => QA (x :: xs) H2) : tCons te tl σ H QA := q
theorem x_nil (q : QA [] H) : tNil σ H QA := q
theorem x_tup (q : tl σ H fun xs H1 => xs.length ≤ sizeLine ∧ ∀ p, H1 p = none → Q (.ref p) (upd H1 p (.tup xs))) : tTup tl σ H Q := q
theorem x_lst (q : tl σ H fun xs H1 => xs.length ≤ sizeLine ∧ ∀ p, H1 p = none → Q (.ref p) (upd H1 p (.lst xs))) : tLst tl σ H Q := q
theorem x_call {sp : Sp} (q : tl σ H fun vs H1 => sp (vs ++ []) H1 Q E0) : tCall sp [] E0 tl σ H Q := q
theorem x_cb {rc : List V → Hp → VK → Prop} (q : tl σ H fun vs H1 => rc vs H1 Q) : tCB rc tl σ H Q := q
theorem x_test (q : te σ H fun x H1 => ∃ k, x = .bl k ∧ QB k H1) : tTest te σ H QB := q
theorem x_tB (q : te σ H fun x H1 => ∃ k, x = .bl k ∧ QB k H1) : tB te σ H QB := q
theorem x_bl {W : Bool → Prop} (q : W b) : ∃ k, V.bl b = V.bl k ∧ W k := ⟨b, rfl, q⟩
theorem x_and (q : tt σ H fun c H1 => if c = true then tu σ H1 QB else QB false H1) : tAnd tt tu σ H QB := q
theorem x_or (q : tt σ H fun c H1 => if c = true then QB true H1 else tu σ H1 QB) : tOr tt tu σ H QB := q
theorem x_not (q : tt σ H fun c H1 => QB (!c) H1) : tNot tt σ H QB := q
theorem x_andV (q : ta σ H fun x H1 => ∃ c, x = .bl c ∧ if c = true then tb σ H1 Q else Q (.bl false) H1) : tAndV ta tb σ H Q := q
theorem x_orV (q : ta σ H fun x H1 => ∃ c, x = .bl c ∧ if c = true then Q (.bl true) H1 else tb σ H1 Q) : tOrV ta tb σ H Q := q
theorem x_notV (q : ta σ H fun x H1 => ∃ c, x = .bl c ∧ Q (.bl (!c)) H1) : tNotV ta σ H Q := q
theorem x_chain (q : ta σ H fun x H1 => tb σ H1 fun y H2 => r x y H2 fun z H3 => ∃ k, z = .bl k ∧ (if k = true then tc σ H3 fun w' H4 => r' y w' H4 Q else Q (.bl false) H3)) : tChain r r' ta tb tc σ H Q := q
theorem x_par {j : Nat} (q : tl σ H fun vs H1 => ∃ v w, vs = [v, w] ∧ D.nx ((σ.set i (some v)).set j (some w)) H1) : tPar i j tl D σ H := q
theorem x_two {v w : V} {W : V → V → Prop} (q : W v w) : ∃ v' w', [v, w] = [v', w'] ∧ W v' w' := ⟨v, w, rfl, q⟩
theorem x_sl {rs : V → Option Int → Option Int → Hp → VK → Prop} {tl th : TO} (q : te σ H fun x H1 => tl σ H1 fun l H2 => th σ H2 fun u H3 => rs x l u H3 Q) : tSl rs te tl th σ H Q := q
theorem x_nopart {QO : Option Int → Hp → Prop} (q : QO none H) : tNoPart σ H QO := q
theorem x_part {QO : Option Int → Hp → Prop} (q : te σ H fun x H1 => ∃ i, x = .int i ∧ QO (some i) H1) : tPart te σ H QO := q
theorem x_int {W : Int → Prop} (q : W m) : ∃ i, V.int m = V.int i ∧ W i := ⟨m, rfl, q⟩
-- by values
theorem x_rI0 {f : Int → Int → V} (q : Q (f m n) H) : rI0 f (.int m) (.int n) H Q := ⟨m, n, rfl, rfl, q⟩
theorem x_rI {C : Int → Int → Prop} {f : Int → Int → V} (c : C m n) (q : Q (f m n) H) : rI C f (.int m) (.int n) H Q := ⟨m, n, rfl, rfl, c, q⟩
theorem x_rU {f : Int → V} (q : Q (f m) H) : rU f (.int m) H Q := ⟨m, rfl, q⟩
theorem x_rEq (h : scal x y = true) (q : Q (.bl (decide (x = y))) H) : rEq x y H Q := ⟨h, q⟩
theorem x_rNe (h : scal x y = true) (q : Q (.bl (!decide (x = y))) H) : rNe x y H Q := ⟨h, q⟩
theorem x_ixT (h : SqT K H a xs) (ha : atI xs m = some v) (q : Q v H) : rIxT K (.ref a) (.int m) H Q := ⟨a, xs, m, v, rfl, rfl, h, ha, q⟩
theorem x_ixL (h : SqL K H a xs) (ha : atI xs m = some v) (q : Q v H) : rIxL K (.ref a) (.int m) H Q := ⟨a, xs, m, v, rfl, rfl, h, ha, q⟩
theorem x_app (h : H a = some (.lst xs)) (hl : xs.length < sizeLine) (q : Q .non (upd H a (.lst (xs ++ [v])))) : rAppend (.ref a) [v] H Q := ⟨a, xs, v, rfl, rfl, h, hl, q⟩
theorem x_bm {T : String} {rm : V → List V → Hp → VK → Prop} (q : te σ H fun x H1 => tyV K T x H1 ∧ tl σ H1 fun xs H2 => rm x xs H2 Q) : tBM K T rm te tl σ H Q := q
theorem x_fld {f : Str} (q : te σ H fun x H1 => ∃ a C dx fs v, x = .ref a ∧ H1 a = some (.ins C dx fs) ∧ Cls K C ∧ NoAttr K C f ∧ fs.lookup f = some v ∧ Q v H1) : tFld K te f σ H Q := q
-- ways
theorem x_T {A B : Prop} (h : b = true) (q : A) : if b = true then A else B := by rw [if_pos h]; exact q
theorem x_F {A B : Prop} (h : b = false) (q : B) : if b = true then A else B := by rw [h, if_neg Bool.false_ne_true]; exact q
theorem x_TF {A B : Prop} (h1 : b = true → A) (h2 : b = false → B) : if b = true then A else B := by
  cases b with
  | true => rw [if_pos rfl]; exact h1 rfl
  | false => rw [if_neg Bool.false_ne_true]; exact h2 rfl
end
/-! ### heaps -/
theorem get_same {H H' : Hp} {a : Addr} {o : HO} (e : Same H H') (h : H a = some o) : H' a = some o := e a o h
theorem get_keep {H : Hp} {a p : Addr} {o u : HO} (n : H p = none) (h : H a = some o) : upd H p u a = some o := by
  rw [upd_ne (ne_of_none h n)]
  exact h
theorem same_new {H H' : Hp} {p : Addr} {u : HO} (e : Same H H') (n : H' p = none) : Same H (upd H' p u) := fun a o h => get_keep n (e a o h)
/-- what was not there before may change -/
theorem same_mut {H H' : Hp} {p : Addr} {u : HO} (e : Same H H') (n : H p = none) : Same H (upd H' p u) := fun a o h => by
  rw [upd_ne (ne_of_none h n)]
  exact e a o h
theorem same_t {K : PySem.W.Frag} {H H' : Hp} {a : Addr} {xs : List V} (e : Same H H') (h : SqT K H a xs) : SqT K H' a xs := by
  rcases h with (h | ⟨o, h⟩) | h
  · exact .inl (.inl (e _ _ h))
  · exact .inl (.inr ⟨o, e _ _ h⟩)
  · exact .inr h
end K48
namespace K48
open PySem PySem.Spec PyProof.Rows L2
/-! ### the head -/
/-- one def of the top -/
abbrev gd (x : Str) (i : Nat) : He5.DefA := ⟨fun K => He.ga K x, x, x, defArgs (top i), defBody (top i), defScope (top i), [], []⟩
def fns : List He5.DefA := [
  gd "is_integer" 13, gd "is_between" 14, gd "place_in" 15, gd "plain_step_in" 16, gd "step_in" 17, gd "wrong_row" 18,
  gd "amount" 30, gd "moved" 32, gd "behind" 35, gd "is_course" 36, gd "program_of" 40, gd "is_bounded" 44, gd "stretch_of" 45, gd "is_spot" 48, gd "sticks" 49, gd "accepts_course" 51, gd "accepts" 53,
  gd "_law_spring" 55, gd "_law_draw" 56, gd "_law_of" 57, gd "_law_measure" 58, gd "_law_place" 59, gd "_law_last_row" 60, gd "_law_row" 61, gd "_law_base" 62, gd "_law_rows" 63, gd "_law_size" 64, gd "_law_goes" 65, gd "_law_end" 66, gd "_law_is_far" 67, gd "_law_play" 68, gd "_law_bits" 69, gd "_law_number" 70, gd "_law_well" 71, gd "_law_next" 72, gd "_law_is_wide_spot" 73, gd "_law_is_whole" 74, gd "_law_bounded" 75, gd "_law_is_road" 76, gd "_law_begin" 77, gd "_law_is_spot" 78, gd "_law_sticks" 79, gd "_law_looped_rows" 80, gd "_law_all_from" 81, gd "_law_bent_spot" 82, gd "_law_bent" 83, gd "_law_right" 84, gd "law" 85,
  ⟨fun K => He.ma K (He.ga K "Program") "__init__", "__init__", "Program.__init__", defArgs s___init__, defBody s___init__, defScope s___init__, [], []⟩,
  ⟨fun K => He.ma K (He.ga K "Program") "__len__", "__len__", "Program.__len__", defArgs s___len__, defBody s___len__, defScope s___len__, [], []⟩,
  ⟨fun K => He5.wf K (He.ga K "Program") "classmethod" "read", "read", "Program.read", defArgs s_read, defBody s_read, defScope s_read, [], []⟩]
def globs : List Str := ["Program", "QUANTITIES", "SUBJECTS", "CLOSED", "SHOWN", "InvalidText", "is_integer", "is_between", "place_in", "plain_step_in", "step_in", "wrong_row", "amount", "moved", "behind", "is_course", "program_of", "is_bounded", "stretch_of", "is_spot", "sticks", "accepts_course", "accepts"]
def globs2 : List Str := ["_law_spring", "_law_draw", "_law_of", "_law_measure", "_law_place", "_law_last_row", "_law_row", "_law_base", "_law_rows", "_law_size", "_law_goes", "_law_end", "_law_is_far", "_law_play", "_law_bits", "_law_number", "_law_well", "_law_next", "_law_is_wide_spot", "_law_is_whole", "_law_bounded", "_law_is_road", "_law_begin", "_law_is_spot", "_law_sticks", "_law_looped_rows", "_law_all_from", "_law_bent_spot", "_law_bent", "_law_right", "law"]
def frees : List Str := ["isinstance", "int", "bool", "str", "tuple", "list", "dict", "len", "enumerate", "range", "min", "max", "all", "abs", "divmod", "repr"]
def fas : List He.Fa := globs.map He.Fa.glo ++ globs2.map He.Fa.glo ++ frees.map He.Fa.free ++ [.int "MOST_ROWS" 8, .int "MOST_FULL" 2, .int "MOST_WIDE" 8, .int "FIT" 0, .str "FIGURES" "01234567", .cls "Program", .noat "Program" "written", .noat "Program" "steps", .mkr "Program", .meth "Program" "__len__"]
def tabs : List He.Tab := [(fun K => He.ga K "QUANTITIES", ["n", "2n", "3n", "4n", "fit"]), (fun K => He.ga K "SUBJECTS", ["less", "c less", "v less"]), (fun K => He.ga K "SHOWN", ["outside", "uneven", "unclean"])]
def dvQ : List (Str × He.Dv) := [("n", .int 1), ("2n", .int 2), ("3n", .int 3), ("4n", .int 4), ("fit", .int 0)]
def dvS : List (Str × He.Dv) := [("less", .str "cv"), ("c less", .str "c"), ("v less", .str "v")]
def noKey (K : PySem.W.Frag) (d x : Str) : Bool := He.eqO (PySem.W.nsIn K (He.ga K d) x) (some none)
def exB (K : PySem.W.Frag) : Bool := He.tupB K "CLOSED" [.str "inside", .str "even", .str "clean"] && (He.valsB K (He.ga K "QUANTITIES") dvQ && (He.valsB K (He.ga K "SUBJECTS") dvS &&
  (He5.wrapB K (He.ga K "Program") "classmethod" "classmethod.__get__" "read" && (PySem.W.fnIn K (He5.wf K (He.ga K "Program") "classmethod" "read") && (PySem.W.readsIn K (He.ga K "Program") (.type "type") &&
  (He.eqO (PySem.W.specialIn K (.ref (He.ga K "Program")) "__getattribute__") (some (some (.builtin "type.__getattribute__"))) && (noKey K "SHOWN" "stick" && (noKey K "SUBJECTS" "" && (noKey K "SUBJECTS" "give" && noKey K "SUBJECTS" "go")))))))))
/-! ### the Hook -/
abbrev AlK : Type := (He.AlD × List (Option (List (Option (Str × Int))))) × Bool
def obsK (fa : List He.Fa) (fn : List He5.DefA) (ts : List He.Tab) (ex : PySem.W.Frag → Bool) (K : PySem.W.Frag) : AlK := ((He5.obsA fa fn K, ts.map fun t => He.dicW K (t.1 K)), ex K)
def valK (fn : List He5.DefA) (ts : List He.Tab) (w : World) : AlK := ((He5.valA fn, ts.map fun t => some (He.keysIn w.params t.2)), true)
def SaysK (fa : List He.Fa) (fn : List He5.DefA) (ts : List He.Tab) (ex : PySem.W.Frag → Bool) (w : World) (K : PySem.W.Frag) : Prop := obsK fa fn ts ex K = valK fn ts w
def obsKG (n : Nat) (fa : List He.Fa) (fn : List He5.DefA) (ts : List He.Tab) (ex : PySem.W.Frag → Bool) (g : Addr → Option Obj) : AlK := obsK fa fn ts ex (He.frG g (He5.asA g n))
def hookK (n : Nat) (fa : List He.Fa) (fn : List He5.DefA) (ts : List He.Tab) (ex : PySem.W.Frag → Bool) : PySem.W.Hook where
  α := AlK
  obs := fun s => obsKG n fa fn ts ex s.heap.get?
  val := fun w => valK fn ts w
  says := fun w h => ∃ K : PySem.W.Frag, K.In h ∧ SaysK fa fn ts ex w K
  of := fun _ _ e => ⟨_, He.frG_in, e⟩
  keeps := fun _ _ _ ⟨K, hK, c⟩ k => ⟨K, PySem.W.Frag.In.keeps hK k, c⟩
abbrev rowR : PySem.W.OpenRow := PySem.W.OpenLaw.row PySem.Challenge.rw_drawnbelow_k48_whole_draws_that_stick
abbrev hk : PySem.W.Hook := hookK 6 fas fns tabs exB
def ob (s : PySem.W.SharedT) : AlK := obsKG 6 fas fns tabs exB (HandSHeadRun.getT s)
theorem ob_eq (s : PySem.W.SharedT) : ob s = hk.obs s.abs := by
  have e : HandSHeadRun.getT s = s.abs.heap.get? := funext fun a => HandSHeadRun.getT_eq s a
  unfold ob
  rw [e]
  rfl
def names1 : List Str := ["_wall", "WrongValue", "InvalidText", "InvalidRows", "MOST_ROWS", "MOST_FULL", "MOST_WIDE", "FIT", "QUANTITIES", "SUBJECTS", "FIGURES", "is_integer", "is_between", "place_in", "plain_step_in", "step_in", "wrong_row", "Program", "FIRST", "HALF", "is_too_far", "taken", "tested", "marked_steps", "is_bits", "is_well", "amount", "is_far", "moved", "outcome_at"]
def names2 : List Str := ["led", "behind", "is_course", "CLOSED", "SHOWN", "program_of", "is_state", "is_given_right", "closes", "is_bounded", "stretch_of", "is_fair", "shows", "is_spot", "sticks", "lie_apart", "accepts_course", "accepts_unlike", "accepts"]
def names3 : List Str := ["_law_spring", "_law_draw", "_law_of", "_law_measure", "_law_place", "_law_last_row", "_law_row", "_law_base", "_law_rows", "_law_size", "_law_goes", "_law_end", "_law_is_far", "_law_play", "_law_bits", "_law_number", "_law_well", "_law_next", "_law_is_wide_spot", "_law_is_whole", "_law_bounded", "_law_is_road", "_law_begin", "_law_is_spot", "_law_sticks", "_law_looped_rows", "_law_all_from", "_law_bent_spot", "_law_bent", "_law_right"]
def names : List Str := names1 ++ names2 ++ names3
theorem join3 {α β γ δ : Type} {o : Option α} {A : α → β} {B : α → γ} {C : α → δ} {a : β} {b : γ} {c : δ} (h1 : o.map (fun s => (A s, B s)) = some (a, b)) (h2 : o.map C = some c) : o.map (fun s => (A s, B s, C s)) = some (a, b, c) := by
  cases o with
  | none => cases h1
  | some s =>
    cases h1
    cases h2
    rfl
section
open PySem PySem.W PySem.Calls PyProof.Rows HandSHeadRun
noncomputable abbrev endR (w : World) (os : OsState) : Option SharedT := endF (stepQ (denQ tabQ) rowR.prog w) 20000 rowR.prog w os
abbrev qR : PySem.Program := view rowR.prog [85]
theorem run1T (w : World) (os : OsState) : (endR (w.withFollow "special-get-raises" true) os).map (fun s => (looksF rowR.prog (boot_heap (w.withFollow "special-get-raises" true).params) s.abs, HandSHeadRun.seenQ qR names (importedModules rowR.prog.main.body) (fun s => xlAt qR [] s && recOk rowR.toRowW.records s) s.abs)) = some (true, openGood qR names) := by kernel_rfl
theorem run2T (w : World) (os : OsState) : (endR (w.withFollow "special-get-raises" true) os).map ob = some (hk.val (w.withFollow "special-get-raises" true)) := by kernel_rfl
theorem run1F (w : World) (os : OsState) : (endR (w.withFollow "special-get-raises" false) os).map (fun s => (looksF rowR.prog (boot_heap (w.withFollow "special-get-raises" false).params) s.abs, HandSHeadRun.seenQ qR names (importedModules rowR.prog.main.body) (fun s => xlAt qR [] s && recOk rowR.toRowW.records s) s.abs)) = some (true, openGood qR names) := by kernel_rfl
theorem run2F (w : World) (os : OsState) : (endR (w.withFollow "special-get-raises" false) os).map ob = some (hk.val (w.withFollow "special-get-raises" false)) := by kernel_rfl
theorem run (w : World) : RunEq rowR qR hk ob 20000 names w :=
  byRow2 "special-get-raises" (P := fun w => RunEq rowR qR hk ob 20000 names w) (fun w os => join3 (run1F w os) (run2F w os)) (fun w os => join3 (run1T w os) (run2T w os)) w
end
end K48
/-! the plain mirror: rows, what they do to stretches, certificates -/
namespace K48
open PySem PySem.Spec PyProof.Rows L2
/-! ### rows -/
inductive Q5 where | n1 | n2 | n3 | n4 | fit
  deriving DecidableEq
inductive Sb where | cv | c | v
  deriving DecidableEq
inductive Row where
  | take | again | giveC | giveR
  | go (r : Fin 8)
  | iff (c : Bool) (q : Q5) (r : Fin 8)
  | less (s : Sb) (q : Q5)
  deriving DecidableEq
def Q5.times : Q5 → Int
  | .n1 => 1 | .n2 => 2 | .n3 => 3 | .n4 => 4 | .fit => 0
def Q5.text : Q5 → Str
  | .n1 => "n" | .n2 => "2n" | .n3 => "3n" | .n4 => "4n" | .fit => "fit"
def Sb.head : Sb → Str
  | .cv => "less" | .c => "c less" | .v => "v less"
def Sb.who : Sb → Str
  | .cv => "cv" | .c => "c" | .v => "v"
def dig (r : Fin 8) : Str := ⟨#[48 + r.val]⟩
def cvS (c : Bool) : Str := if c then "c" else "v"
def Row.text : Row → Str
  | .take => "take" | .again => "again" | .giveC => "give c" | .giveR => "give rest"
  | .go r => ("go " : Str) ++ dig r
  | .iff c q r => ("if " : Str) ++ cvS c ++ (" < " : Str) ++ q.text ++ (" go " : Str) ++ dig r
  | .less s q => s.head ++ (" " : Str) ++ q.text
/-- a row's words -/
def Row.words : Row → List Str
  | .take => ["take"] | .again => ["again"] | .giveC => ["give", "c"] | .giveR => ["give", "rest"]
  | .go r => ["go", dig r]
  | .iff c q r => ["if", cvS c, "<", q.text, "go", dig r]
  | .less .cv q => ["less", q.text] | .less .c q => ["c", "less", q.text] | .less .v q => ["v", "less", q.text]
/-- a row's step, as the program has it -/
def Row.step : Row → List V
  | .take => [.str "take"] | .again => [.str "again"] | .giveC => [.str "give", .str "c"] | .giveR => [.str "give", .str "rest"]
  | .go r => [.str "go", .int r.val]
  | .iff c q r => [.str "if", .str (cvS c), .int q.times, .int r.val]
  | .less s q => [.str "less", .str s.who, .int q.times]
def Row.ends : Row → Bool
  | .again => true | .giveC => true | .giveR => true | _ => false
/-- a row that may be the last one -/
def Row.lasts : Row → Bool
  | .again => true | .giveC => true | .giveR => true | .go _ => true | _ => false
/-- a row that may stand at an index of so many -/
def Row.ok (i many : Nat) : Row → Bool
  | .go r => decide (r.val < many)
  | .iff _ _ r => decide (r.val < many) && decide (r.val ≠ i + 1)
  | _ => true
/-- a program -/
structure Prg (rows : List Row) : Prop where
  pos : 1 ≤ rows.length
  most : rows.length ≤ 8
  ok : ∀ (i : Nat) (r : Row), rows[i]? = some r → r.ok i rows.length = true ∧ (i + 1 = rows.length → r.lasts = true)
/-! ### stretches -/
abbrev Spot := Int × Int × Int × Int
def spV (s : Spot) : List V := [.int s.1, .int s.2.1, .int s.2.2.1, .int s.2.2.2]
def amt (t n w : Int) : Int := if t = 0 then n * (w / n) else t * n
/-- where a row leads that takes no bit, is no end, tests no c: the row, c, v -/
def goes (r : Row) (n at_ c w : Int) : Int × Int × Int := match r with
  | .go r => (r.val, c, w)
  | .iff b q r => (if (if b then c else w) < amt q.times n w then (r.val : Int) else at_ + 1, c, w)
  | .less s q => (at_ + 1, if s = .v then c else c - amt q.times n w, if s = .c then w else w - amt q.times n w)
  | _ => (at_ + 1, c, w)
def next (r : Row) (n : Int) (s : Spot) : List Spot := match r with
  | .again => [] | .giveC => [] | .giveR => []
  | .take => [(s.1 + 1, 2 * s.2.1, 2 * s.2.2.1, 2 * s.2.2.2)]
  | .iff true q r =>
    (if s.2.1 < amt q.times n s.2.2.2 then [((r.val : Int), s.2.1, (if s.2.2.1 < amt q.times n s.2.2.2 then s.2.2.1 else amt q.times n s.2.2.2), s.2.2.2)] else []) ++
    (if amt q.times n s.2.2.2 < s.2.2.1 then [(s.1 + 1, (if amt q.times n s.2.2.2 < s.2.1 then s.2.1 else amt q.times n s.2.2.2), s.2.2.1, s.2.2.2)] else [])
  | r => let g := goes r n s.1 s.2.1 s.2.2.2; [(g.1, g.2.1, g.2.1 + s.2.2.1 - s.2.1, g.2.2)]
def isFar (n c w : Int) : Bool := decide (c < -8 * n) || decide (c > 8 * n) || decide (w < -8 * n) || decide (w > 8 * n)
def wide (n : Int) (s : Spot) : Bool := isFar n s.2.1 s.2.2.2 || isFar n (s.2.2.1 - 1) s.2.2.2
def bnd (n a b w : Int) : Bool := decide (-(8 * n) ≤ a) && (decide (a < b) && decide (b ≤ 8 * n + 1)) && (decide (-(8 * n) ≤ w) && decide (w ≤ 8 * n))
theorem bnd_wide {n : Int} {s : Spot} (h : s.2.1 < s.2.2.1) : bnd n s.2.1 s.2.2.1 s.2.2.2 = !wide n s := by
  obtain ⟨r, a, b, w⟩ := s
  simp only at h
  unfold bnd wide isFar
  simp only
  by_cases h1 : a < -8 * n <;> by_cases h2 : a > 8 * n <;> by_cases h3 : w < -8 * n <;> by_cases h4 : w > 8 * n <;> by_cases h5 : b - 1 < -8 * n <;> by_cases h6 : b - 1 > 8 * n <;>
    simp only [h1, h2, h3, h4, h5, h6, h, decide_true, decide_false, Bool.true_or, Bool.or_true, Bool.false_or, Bool.or_self, Bool.not_true, Bool.not_false, Bool.true_and] <;>
    first
      | (have : ¬ (-(8 * n) ≤ a) := by omega
         simp [this])
      | (have : ¬ (b ≤ 8 * n + 1) := by omega
         simp [this])
      | (have : ¬ (-(8 * n) ≤ w) := by omega
         simp [this])
      | (have : ¬ (w ≤ 8 * n) := by omega
         simp [this])
      | (have e1 : (-(8 * n) ≤ a) := by omega
         have e2 : (b ≤ 8 * n + 1) := by omega
         have e3 : (-(8 * n) ≤ w) := by omega
         have e4 : (w ≤ 8 * n) := by omega
         simp [e1, e2, e3, e4])
/-- a row's steps keep a stretch a stretch -/
theorem next_lt {r : Row} {n : Int} {s t : Spot} (h : s.2.1 < s.2.2.1) (ht : t ∈ next r n s) : t.2.1 < t.2.2.1 := by
  obtain ⟨at_, a, b, w⟩ := s
  simp only at h
  cases r with
  | take =>
    simp only [next, List.mem_singleton] at ht
    subst ht
    simp only
    omega
  | again => cases ht
  | giveC => cases ht
  | giveR => cases ht
  | go r =>
    simp only [next, goes, List.mem_singleton] at ht
    subst ht
    simp only
    omega
  | less s q =>
    simp only [next, goes, List.mem_singleton] at ht
    subst ht
    simp only
    omega
  | iff c q r =>
    cases c with
    | false =>
      simp only [next, goes, List.mem_singleton] at ht
      subst ht
      simp only
      omega
    | true =>
      simp only [next, List.mem_append] at ht
      rcases ht with ht | ht
      · split at ht
        · simp only [List.mem_singleton] at ht
          subst ht
          simp only
          split <;> omega
        · cases ht
      · split at ht
        · simp only [List.mem_singleton] at ht
          subst ht
          simp only
          split <;> omega
        · cases ht
/-- .. and within the program -/
theorem next_in {rows : List Row} (pr : Prg rows) {r : Row} {n : Int} {s t : Spot} {i : Nat} (hi : rows[i]? = some r) (hs : s.1 = (i : Int)) (ht : t ∈ next r n s) : 0 ≤ t.1 ∧ t.1 < (rows.length : Int) := by
  obtain ⟨h1, h2⟩ := pr.ok i r hi
  have hl := (List.getElem?_eq_some_iff.mp hi).1
  obtain ⟨at_, a, b, w⟩ := s
  simp only at hs
  subst hs
  have nl : r.lasts = false → i + 1 < rows.length := fun h => by
    by_cases e : i + 1 = rows.length
    · rw [h2 e] at h
      cases h
    · omega
  cases r with
  | take =>
    have := nl rfl
    simp only [next, List.mem_singleton] at ht
    subst ht
    simp only
    omega
  | again => cases ht
  | giveC => cases ht
  | giveR => cases ht
  | go r =>
    have h3 : r.val < rows.length := of_decide_eq_true h1
    simp only [next, goes, List.mem_singleton] at ht
    subst ht
    simp only
    omega
  | less s q =>
    have := nl rfl
    simp only [next, goes, List.mem_singleton] at ht
    subst ht
    simp only
    omega
  | iff c q r =>
    have := nl rfl
    have h3 : r.val < rows.length := of_decide_eq_true (Bool.and_eq_true_iff.mp h1).1
    cases c with
    | false =>
      simp only [next, goes, List.mem_singleton] at ht
      subst ht
      simp only
      split <;> omega
    | true =>
      simp only [next, List.mem_append] at ht
      rcases ht with ht | ht
      · split at ht
        · simp only [List.mem_singleton] at ht
          subst ht
          simp only
          omega
        · cases ht
      · split at ht
        · simp only [List.mem_singleton] at ht
          subst ht
          simp only
          omega
        · cases ht
theorem next_two (r : Row) (n : Int) (s : Spot) : (next r n s).length ≤ 2 := by
  cases r with
  | iff c q r =>
    cases c with
    | true =>
      simp only [next, List.length_append]
      by_cases h1 : s.2.1 < amt q.times n s.2.2.2 <;> by_cases h2 : amt q.times n s.2.2.2 < s.2.2.1 <;> simp [h1, h2]
    | false => simp [next]
  | _ => simp [next]
/-! ### values that tell their kind -/
def Kd (H : Hp) : V → Prop
  | .int _ => True
  | .bl _ => True
  | .non => True
  | .str _ => True
  | .ref a => (∃ xs, H a = some (.lst xs)) ∨ ∃ xs, H a = some (.tup xs)
  | _ => False
def isI : V → Bool
  | .int _ => true
  | _ => false
def isB : V → Bool
  | .bl _ => true
  | _ => false
def isS : V → Bool
  | .str _ => true
  | _ => false
/-- whether it is a tuple that stands -/
def IsTupV (H : Hp) (v : V) (b : Bool) : Prop := if b = true then ∃ a xs, v = .ref a ∧ H a = some (.tup xs) else ∀ a xs, v = .ref a → H a ≠ some (.tup xs)
def btw (v : V) (l m : Int) : Bool := match v with
  | .int i => decide (l ≤ i) && decide (i ≤ m)
  | _ => false
def isT (H : Hp) : V → Bool
  | .ref a => (match H a with | some (.tup _) => true | _ => false)
  | _ => false
def kitQ (T : String) (i b s t : Bool) : Prop := kitB T "int" = some i ∧ kitB T "bool" = some b ∧ kitB T "str" = some s ∧ kitB T "tuple" = some t
theorem kq_int : kitQ "int" true false false false := ⟨by decide +kernel, by decide +kernel, by decide +kernel, by decide +kernel⟩
theorem kq_bool : kitQ "bool" true true false false := ⟨by decide +kernel, by decide +kernel, by decide +kernel, by decide +kernel⟩
theorem kq_none : kitQ "NoneType" false false false false := ⟨by decide +kernel, by decide +kernel, by decide +kernel, by decide +kernel⟩
theorem kq_str : kitQ "str" false false true false := ⟨by decide +kernel, by decide +kernel, by decide +kernel, by decide +kernel⟩
theorem kq_list : kitQ "list" false false false false := ⟨by decide +kernel, by decide +kernel, by decide +kernel, by decide +kernel⟩
theorem kq_tuple : kitQ "tuple" false false false true := ⟨by decide +kernel, by decide +kernel, by decide +kernel, by decide +kernel⟩
theorem kd_ty {K : PySem.W.Frag} {H : Hp} {v : V} (h : Kd H v) : ∃ T : String, TyX K H v (.type T) ∧ kitQ T (isI v || isB v) (isB v) (isS v) (isT H v) := by
  cases v with
  | int i => exact ⟨"int", .base (.int i), kq_int⟩
  | bl i => exact ⟨"bool", .base (.bl i), kq_bool⟩
  | non => exact ⟨"NoneType", .base .non, kq_none⟩
  | str i => exact ⟨"str", .base (.str i), kq_str⟩
  | ref a =>
    rcases h with ⟨xs, h⟩ | ⟨xs, h⟩
    · refine ⟨"list", .base (.lst h), ?_⟩
      have e : isT H (.ref a) = false := by unfold isT; simp only [h]
      rw [e]
      exact kq_list
    · refine ⟨"tuple", .base (.tup h), ?_⟩
      have e : isT H (.ref a) = true := by unfold isT; simp only [h]
      rw [e]
      exact kq_tuple
  | byt _ => exact h.elim
  | flt _ => exact h.elim
  | ty _ => exact h.elim
theorem Kd.same {H H' : Hp} {v : V} (e : Same H H') (h : Kd H v) : Kd H' v := by
  cases v with
  | ref a =>
    rcases h with ⟨xs, h⟩ | ⟨xs, h⟩
    · exact .inl ⟨xs, e _ _ h⟩
    · exact .inr ⟨xs, e _ _ h⟩
  | _ => exact h
/-! ### isinstance by the kinds -/
section
variable {K : PySem.W.Frag} {H : Hp} {v : V} {Q : VK}
theorem x_isInt (h : Kd H v) (q : Q (.bl (isI v || isB v)) H) : rIsi K [v, .ty "int"] H Q := by
  obtain ⟨T, ty, k1, k2, k3, k4⟩ := kd_ty (K := K) h
  exact ⟨_, _, _, _, _, rfl, .ty _, ty, kit_ty k1, q⟩
theorem x_isBool (h : Kd H v) (q : Q (.bl (isB v)) H) : rIsi K [v, .ty "bool"] H Q := by
  obtain ⟨T, ty, k1, k2, k3, k4⟩ := kd_ty (K := K) h
  exact ⟨_, _, _, _, _, rfl, .ty _, ty, kit_ty k2, q⟩
theorem x_isStr (h : Kd H v) (q : Q (.bl (isS v)) H) : rIsi K [v, .ty "str"] H Q := by
  obtain ⟨T, ty, k1, k2, k3, k4⟩ := kd_ty (K := K) h
  exact ⟨_, _, _, _, _, rfl, .ty _, ty, kit_ty k3, q⟩
theorem x_isTup (h : Kd H v) (q : Q (.bl (isT H v)) H) : rIsi K [v, .ty "tuple"] H Q := by
  obtain ⟨T, ty, k1, k2, k3, k4⟩ := kd_ty (K := K) h
  exact ⟨_, _, _, _, _, rfl, .ty _, ty, kit_ty k4, q⟩
end
end K48
namespace K48
open PySem PySem.Spec PyProof.Rows L2
local macro_rules | `(tactic| walk_at "hg") => `(tactic| first | assumption | exact upd_same | (refine get_keep (by assumption) ?_; walk_at "hg") | (refine get_same (by assumption) ?_; walk_at "hg"))
local macro_rules | `(tactic| walk_at "sq") => `(tactic| first | assumption | (refine SqT.of ?_; walk_at "hg") | (refine SqL.of ?_; walk_at "hg") | (refine same_t (by assumption) ?_; walk_at "sq") | (refine Same.seq (by assumption) ?_; walk_at "sq"))
local macro_rules | `(tactic| walk_at "sc") => `(tactic| first | omega | decide | assumption | (unfold CMul; omega) | (unfold CDiv; omega))
local macro_rules | `(tactic| walk_at "x1") => `(tactic| first
  | with_reducible refine x_seq ?_
  | with_reducible refine x_var (by with_unfolding_all rfl) ?_
  | with_reducible refine x_c ?_
  | with_reducible refine x_op ?_
  | with_reducible refine x_rI0 ?_
  | with_reducible refine x_bl ?_
  | with_reducible refine x_rEq (by with_unfolding_all rfl) ?_
  | with_reducible refine x_rNe (by with_unfolding_all rfl) ?_
  | with_reducible refine x_asg ?_
  | with_reducible refine x_gname ?_
  | with_reducible refine x_gcons ?_
  | with_reducible refine x_gnil ?_
  | with_reducible refine x_ret ?_
  | with_reducible refine x_drop ?_
  | with_reducible refine x_next ?_
  | with_reducible refine x_cont ?_
  | with_reducible refine x_brk ?_
  | with_reducible refine x_ifS ?_
  | with_reducible refine x_ifE ?_
  | with_reducible refine x_cons ?_
  | with_reducible refine x_nil ?_
  | with_reducible refine x_test ?_
  | with_reducible refine x_tB ?_
  | with_reducible refine x_and ?_
  | with_reducible refine x_or ?_
  | with_reducible refine x_not ?_
  | with_reducible refine x_andV ?_
  | with_reducible refine x_orV ?_
  | with_reducible refine x_notV ?_
  | with_reducible refine x_chain ?_
  | with_reducible refine x_par ?_
  | with_reducible refine x_two ?_
  | with_reducible refine x_un ?_
  | with_reducible refine x_rU ?_
  | with_reducible refine x_cb ?_
  | with_reducible refine x_call ?_
  | with_reducible refine x_sl ?_
  | with_reducible refine x_nopart ?_
  | with_reducible refine x_part ?_
  | with_reducible refine x_int ?_
  | with_reducible refine x_tup ?_
  | with_reducible refine x_lst ?_
  | with_reducible refine x_bm ?_
  | with_reducible refine x_fld ?_)
local macro_rules | `(tactic| walk_at "x") => `(tactic| ((walk_at "x1"); repeat (walk_at "x1")))
section
variable {P : Program} {w : World} {K : PySem.W.Frag} {mg : Str → Option Value} {base : Heap}
/-! ### is_integer, is_between -/
def spIsInt : Sp := fun vs H Q _ => ∃ v, vs = [v] ∧ Kd H v ∧ Q (.bl (isI v)) H
theorem isI_eq (v : V) : ((isI v || isB v) && !isB v) = isI v := by cases v <;> rfl
theorem sc_is_integer : FnScope ["value"] ["value"] (defScope s_is_integer) := ⟨rfl, rfl, rfl, by decide +kernel, rfl, by decide +kernel, by decide +kernel⟩
theorem ok_is_integer (T : Tx w K mg) (B : HasDef K mg "is_integer" s_is_integer ["value"]) : Def P w K mg base "is_integer" 1 ["value"] spIsInt := by
  refine Def.mk B sc_is_integer (fun vs H Q E h => ?_) (fun f cdv A outer s H vs Q E hr h => ?_)
  · obtain ⟨v, rfl, _⟩ := h
    rfl
  · obtain ⟨v, rfl, hk, q⟩ := h
    refine ⟨_, (pss_one (ps_ret (pe_and (pe_callB call_isi (by rfl) T.z_isinstance boot_isinstance' (pa_cons (pv 0) (pa_cons (pe_bltn (by rfl) T.z_int boot_int' (v := .ty "int") rfl) pa_nil))) (pe_one (pe_not (pe_callB call_isi (by rfl) T.z_isinstance boot_isinstance' (pa_cons (pv 0) (pa_cons (pe_bltn (by rfl) T.z_bool boot_bool' (v := .ty "bool") rfl) pa_nil)))))))), ?_⟩
    walk_at "x"
    refine x_isInt hk ?_
    walk_at "x"
    have e := isI_eq v
    refine x_TF (fun h1 => ?_) (fun h1 => ?_)
    · walk_at "x"
      refine x_isBool hk ?_
      walk_at "x"
      rw [h1, Bool.true_and] at e
      rw [e]
      exact q
    · rw [h1, Bool.false_and] at e
      rw [e]
      exact q
def spBtw : Sp := fun vs H Q _ => ∃ v l m, vs = [v, .int l, .int m] ∧ Kd H v ∧ Q (.bl (btw v l m)) H
theorem sc_is_between : FnScope ["value", "least", "most"] ["value", "least", "most"] (defScope s_is_between) := ⟨rfl, rfl, rfl, by decide +kernel, rfl, by decide +kernel, by decide +kernel⟩
theorem ok_is_between (T : Tx w K mg) (B : HasDef K mg "is_between" s_is_between ["value", "least", "most"]) (D_is_integer : Def P w K mg base "is_integer" 1 ["value"] spIsInt) : Def P w K mg base "is_between" 2 ["value", "least", "most"] spBtw := by
  refine Def.mk B sc_is_between (fun vs H Q E h => ?_) (fun f cdv A outer s H vs Q E hr h => ?_)
  · obtain ⟨v, l, m, rfl, _⟩ := h
    rfl
  · obtain ⟨v, l, m, rfl, hk, q⟩ := h
    refine ⟨_, (pss_one (ps_ret (pe_and (pe_d D_is_integer hr (pa_cons (pv 0) pa_nil)) (pe_one (pe_chain op_le op_le (pv 1) (pv 0) (pv 2)))))), ?_⟩
    walk_at "x"
    refine ⟨v, rfl, hk, ?_⟩
    walk_at "x"
    cases v with
    | int i =>
      refine x_T rfl ?_
      walk_at "x"
      refine x_TF (fun h1 => ?_) (fun h1 => ?_)
      · walk_at "x"
        have e : btw (.int i) l m = decide (i ≤ m) := by
          show (decide (l ≤ i) && decide (i ≤ m)) = _
          rw [h1, Bool.true_and]
        rw [e] at q
        exact q
      · have e : btw (.int i) l m = false := by
          show (decide (l ≤ i) && decide (i ≤ m)) = _
          rw [h1, Bool.false_and]
        rw [e] at q
        exact q
    | _ => exact x_F rfl q
/-! ### amount -/
def spAmount : Sp := fun vs H Q _ => ∃ t n z, vs = [.int t, .int n, .int z] ∧ (0 ≤ t ∧ t ≤ 4) ∧ (1 ≤ n ∧ n ≤ 10 ^ 30) ∧ (-(8 * n) ≤ z ∧ z ≤ 8 * n) ∧ Q (.int (amt t n z)) H
theorem div_small {n z : Int} (h1 : 1 ≤ n) (h2 : -(8 * n) ≤ z) (h3 : z ≤ 8 * n) : -8 ≤ z / n ∧ z / n ≤ 8 := by
  constructor
  · have h : (-8 : Int) * n ≤ z := by omega
    exact (Int.le_ediv_iff_mul_le (by omega)).mpr h
  · have h : z < (8 + 1) * n := by omega
    have := (Int.ediv_lt_iff_lt_mul (by omega : 0 < n)).mpr h
    omega
theorem n_div {n : Int} (z : Int) (h1 : 1 ≤ n) (h2 : n ≤ 10 ^ 30) : CDivW z n := wide_div (b := 200) (by omega) (by
  have : n.natAbs ≤ 10 ^ 30 := by omega
  exact Nat.lt_of_le_of_lt this (by decide)) (by decide) (by decide)
theorem sc_amount : FnScope ["times", "number", "size"] ["times", "number", "size"] (defScope s_amount) := ⟨rfl, rfl, rfl, by decide +kernel, rfl, by decide +kernel, by decide +kernel⟩
theorem ok_amount (T : Tx w K mg) (B : HasDef K mg "amount" s_amount ["times", "number", "size"]) : Def P w K mg base "amount" 1 ["times", "number", "size"] spAmount := by
  refine Def.mk B sc_amount (fun vs H Q E h => ?_) (fun f cdv A outer s H vs Q E hr h => ?_)
  · obtain ⟨v, l, m, rfl, _⟩ := h
    rfl
  · obtain ⟨t, n, z, rfl, ht, hn, hz, q⟩ := h
    refine ⟨_, (pss_one (ps_ret (pe_ifExp (pt_cmpR op_eq (pv 0) (g_int T.fit) (nomark _)) (pe_op op_mul (pv 1) (pe_op op_fdivW (pv 2) (pv 1))) (pe_op op_mul (pv 0) (pv 1))))), ?_⟩
    walk_at "x"
    refine x_TF (fun h1 => ?_) (fun h1 => ?_)
    · have e : t = 0 := by
        have := of_decide_eq_true h1
        cases this
        rfl
      walk_at "x"
      refine x_rI (n_div z hn.1 hn.2) ?_
      have := div_small hn.1 hz.1 hz.2
      refine x_rI (.inr (by omega)) ?_
      have e2 : amt t n z = n * (z / n) := if_pos e
      rw [e2] at q
      exact q
    · have e : t ≠ 0 := by
        intro e
        rw [e] at h1
        exact absurd (of_decide_eq_false h1) (fun h => h rfl)
      walk_at "x"
      refine x_rI (.inl (by omega)) ?_
      have e2 : amt t n z = t * n := if_neg e
      rw [e2] at q
      exact q
end
end K48
/-! own rules: a chain of three comparisons, C(*xs), len of an own instance, repr of truth values -/
namespace K48
open PySem PySem.Spec PyProof.Rows L2
section
variable {X : Cx} {a b c d : Expr} {ta tb tc td : TE} {pos : Pos}
def tChain3 (r1 r2 r3 : R2) (ta tb tc td : TE) : TE := fun σ H Q => ta σ H fun x H1 => tb σ H1 fun y H2 => r1 x y H2 fun z H3 => ∃ k, z = .bl k ∧
  (if k = true then tc σ H3 fun u H4 => r2 y u H4 fun z2 H5 => ∃ k2, z2 = .bl k2 ∧ (if k2 = true then td σ H5 fun v H6 => r3 u v H6 Q else Q (.bl false) H5) else Q (.bl false) H3)
theorem pe_chain3 {o1 o2 o3 : CmpOp} {r1 r2 r3 : R2} (h1 : OpR X (compareOp o1) r1) (h2 : OpR X (compareOp o2) r2) (h3 : OpR X (compareOp o3) r3) (ha : PE X a ta) (hb : PE X b tb) (hc : PE X c tc) (hd : PE X d td)
    (hm : lastMarks [o1, o2, o3] [b, c, d] = false := by with_unfolding_all rfl) : PE X (.Compare a [o1, o2, o3] [b, c, d] pos) (tChain3 r1 r2 r3 ta tb tc td) := by
  refine ⟨fun pins s σ H Q I h => ?_⟩
  refine Compare_chain (thn (ha.run pins s σ H _ I h) fun va s1 ⟨x, H1, I1, q1, k1⟩ => ?_) hm
  refine chain_link (thn (hb.run pins s1 σ H1 _ I1 k1) fun vb s2 ⟨y, H2, I2, q2, k2⟩ => ?_)
  refine thn (h1 pins s2 σ H2 x y va vb _ I2 q1 q2 k2) fun vz s3 ⟨z, H3, I3, q3, k, ez, k3⟩ => ?_
  subst ez
  cases q3
  refine wpAny_truthy_bool ?_
  cases k with
  | false => exact ite_ff ⟨.bl false, H3, I3, rfl, k3⟩
  | true =>
    refine ite_tt (chain_link (thn (hc.run pins s3 σ H3 _ I3 k3) fun vu s4 ⟨u, H4, I4, q4, k4⟩ => ?_))
    refine thn (h2 pins s4 σ H4 y u vb vu _ I4 q2 q4 k4) fun vz2 s5 ⟨z2, H5, I5, q5, j, ez2, k5⟩ => ?_
    subst ez2
    cases q5
    refine wpAny_truthy_bool ?_
    cases j with
    | false => exact ite_ff ⟨.bl false, H5, I5, rfl, k5⟩
    | true => exact ite_tt (chain_last (thn (hd.run pins s5 σ H5 _ I5 k5) fun vv s6 ⟨v, H6, I6, q6, k6⟩ => h3 pins s6 σ H6 u v vu vv Q I6 q4 q6 k6))
end
section
variable {σ : L2.St} {H : Hp} {Q : VK} {ta tb tc td : TE} {r1 r2 r3 : R2}
theorem x_chain3 (q : ta σ H fun x H1 => tb σ H1 fun y H2 => r1 x y H2 fun z H3 => ∃ k, z = .bl k ∧
  (if k = true then tc σ H3 fun u H4 => r2 y u H4 fun z2 H5 => ∃ k2, z2 = .bl k2 ∧ (if k2 = true then td σ H5 fun v H6 => r3 u v H6 Q else Q (.bl false) H5) else Q (.bl false) H3)) : tChain3 r1 r2 r3 ta tb tc td σ H Q := q
end
/-! ### C(*xs) -/
section
variable {X : Cx} {k : Nat} {C f : Addr} {sp : Sp} {x : Str} {e : Expr} {te : TE} {p q pos : Pos}
def tMakeS (K : PySem.W.Frag) (C : Addr) (sp : Sp) (te : TE) : TE := fun σ H Q => te σ H fun y H1 => ∃ a xs, y = V.ref a ∧ (SqT K H1 a xs ∨ SqL K H1 a xs) ∧ ∀ x dx, H1 x = none → H1 dx = none → dx ≠ x →
  sp (V.ref x :: xs) (upd (upd H1 dx (.own x)) x (.ins C dx [])) (fun v H2 => v = .non ∧ Q (.ref x) H2) E0
theorem pe_makeS (M : Mk X.K C f) (F : FnR X.prog X.w X.K X.mg X.base CX0 k f sp) (hr : Room (k + 1) X.A) (hg : Gl X x) (hm : X.mg x = some (.ref C)) (he : PE X e te) (hd : (x == ("__debug__" : Str)) = false := by decide)
    (hst : starEach [.Starred e q] X.env = [(true, eval e X.env)] := by rfl) : PE X (.Call (.Name x p) [.Starred e q] [] pos) (tMakeS X.K C sp te) := by
  refine ⟨fun pins s σ H Q I h => ?_⟩
  refine wpAny_Call_Name_kw (ld_glob I hg hm ?_ hd)
  refine PySem.W.callWith_S (h₀ := X.base) I.ok.mod.kin M.kp (thn (he.run pins s σ H _ I h) fun v s1 ⟨y, H1, I1, ry, a, xs, ey, hx, hq⟩ => ?_) hst
  subst ey
  cases (show v = Value.ref a from ry)
  refine StX.star_any I1 hx fun us s2 I2 rv => ⟨I2.kIn, ?_⟩
  exact StX.run_makeR M F hr pass0 I2 rv hq
end
/-! ### len(o), o an instance of an own class with __len__ -/
section
variable {X : Cx} {k : Nat} {C f : Addr} {fd : FuncData} {sp : Sp}
def rLenO (C : Addr) (sp : Sp) : List V → Hp → VK → Prop := fun xs H Q => ∃ a dx fs n, xs = [.ref a] ∧ H a = some (.ins C dx fs) ∧ (0 ≤ n ∧ n < 2 ^ 63) ∧ sp [.ref a] H (fun v H' => v = .int n ∧ Q (.int n) H') E0
theorem call_len_own (M : Meth X.K C "__len__" f) (F : FnR X.prog X.w X.K X.mg X.base CX0 k f sp) (hr : Room (k + 1) X.A) : CallR X (.builtin "len") (rLenO C sp) := by
  intro pins s σ H xs us Q I r h
  obtain ⟨a, dx, fs, n, rfl, ha, ⟨n0, n1⟩, hsp⟩ := h
  obtain ⟨u1, rfl, r1⟩ := vals1 r
  cases (show u1 = Value.ref a from r1)
  obtain ⟨mA, O, _⟩ := ins_get I.hok ha
  obtain ⟨od, J, _⟩ := O.look
  have run := F X.A.in1 X.stack s H [.ref a] [.ref a] _ E0 hr.in1 I.env0.in1 (.cons rfl .nil) hsp
  refine Calls.call_function_entry kind_len plain_len entry_len (args_len1 _) ?_
  unfold Builtin.«len»
  refine wpAny_bind (m := oneArg "len" _) (wpAny_pure ?_)
  refine wpAny_bind (m := callSpecial? (.ref a) (Str.ofString "__len__")) (PySem.W.special_fn I.kIn J M.at_ (beq_iff_eq.mp M.fn) (wpAny_call (codeAny_mono run fun rs s' hq => ?_)))
  cases rs with
  | error e => exact hq.elim
  | ok fl =>
    cases fl with
    | next => exact False.elim hq
    | brk => exact False.elim hq
    | cont => exact False.elim hq
    | ret u =>
      obtain ⟨v, H', I', rv, ev, q⟩ := I.after hq
      subst ev
      obtain ⟨t, rfl⟩ := rv
      refine wpAny_bind (wpAny_holding (wpAny_pure ?_))
      refine wpAny_bind (wpAny_letGo ?_)
      show wpAny _ _ (if n < 0 then _ else _) _ _ _
      rw [if_neg (by omega)]
      show wpAny _ _ (if n ≥ 2 ^ 63 then _ else _) _ _ _
      rw [if_neg (by omega)]
      exact wpAny_bind (wpAny_mkInt (wpAny_pure ⟨_, rfl, .int n, H', I'.tok _, ⟨_, rfl⟩, q⟩))
end
end K48
namespace K48
open PySem PySem.Spec PyProof.Rows L2
theorem get_mut {H : Hp} {a p : Addr} {o u : HO} (ne : a ≠ p) (h : H a = some o) : upd H p u a = some o := by
  rw [upd_ne ne]
  exact h
section
variable {K : PySem.W.Frag} {H : Hp} {Q : VK} {x : V} {xs : List V} {p : Addr}
theorem x_inU (h : SqT K H p xs) (hx : flatV x = true) (ha : xs.all flatV = true) (q : Q (.bl (inV x xs)) H) : rIn K false x (.ref p) H Q := ⟨p, xs, rfl, .inr h, hx, ha, q⟩
theorem x_niU (h : SqT K H p xs) (hx : flatV x = true) (ha : xs.all flatV = true) (q : Q (.bl (!inV x xs)) H) : rIn K true x (.ref p) H Q := ⟨p, xs, rfl, .inr h, hx, ha, q⟩
theorem x_inL (h : SqL K H p xs) (hx : flatV x = true) (ha : xs.all flatV = true) (q : Q (.bl (inV x xs)) H) : rIn K false x (.ref p) H Q := ⟨p, xs, rfl, .inl h, hx, ha, q⟩
end
/-! ### stretches on the heap -/
def SpotsAt (H : Hp) : List V → List Spot → Prop := Paired fun v s => ∃ a, v = .ref a ∧ H a = some (.tup (spV s))
theorem SpotsAt.same {H H' : Hp} {xs : List V} {ss : List Spot} (e : Same H H') (h : SpotsAt H xs ss) : SpotsAt H' xs ss := Paired.mapP h fun v s ⟨a, ev, ha⟩ => ⟨a, ev, e _ _ ha⟩
theorem SpotsAt.get {H : Hp} : ∀ {xs : List V} {ss : List Spot} {i : Nat} {s : Spot}, SpotsAt H xs ss → ss[i]? = some s → ∃ a, xs[i]? = some (.ref a) ∧ H a = some (.tup (spV s))
  | _, _, i, s, .nil, h => by simp at h
  | _, _, 0, s, .cons (b := b) ⟨a, ev, ha⟩ _, h => by
    have e : b = s := by simpa using h
    subst e
    exact ⟨a, by rw [ev]; rfl, ha⟩
  | _, _, i + 1, s, .cons _ t, h => by
    obtain ⟨a, h1, h2⟩ := SpotsAt.get (i := i) (s := s) t (by simpa using h)
    exact ⟨a, by simpa using h1, h2⟩
theorem SpotsAt.len {H : Hp} {xs : List V} {ss : List Spot} (h : SpotsAt H xs ss) : xs.length = ss.length := Paired.length h
theorem SpotsAt.snoc {H : Hp} : ∀ {xs : List V} {ss : List Spot} {a : Addr} {s : Spot}, SpotsAt H xs ss → H a = some (.tup (spV s)) → SpotsAt H (xs ++ [.ref a]) (ss ++ [s])
  | _, _, a, s, .nil, h => .cons ⟨a, rfl, h⟩ .nil
  | _, _, a, s, .cons r t, h => .cons r (SpotsAt.snoc t h)
theorem SpotsAt.app {H : Hp} : ∀ {xs ys : List V} {ss ts : List Spot}, SpotsAt H xs ss → SpotsAt H ys ts → SpotsAt H (xs ++ ys) (ss ++ ts)
  | _, _, _, _, .nil, h => h
  | _, _, _, _, .cons r t, h => .cons r (SpotsAt.app t h)
theorem mn_eq (b c : Int) : (if c < b then c else b) = if b < c then b else c := by split <;> split <;> omega
theorem mx_eq (a c : Int) : (if c > a then c else a) = if c < a then a else c := by split <;> split <;> omega
theorem dn_int {n : Int} : decide (V.int n = V.non) = false := rfl
theorem dn_ref {a : Addr} : decide (V.ref a = V.non) = false := rfl
theorem dn_non : decide (V.non = V.non) = true := rfl
end K48
namespace K48
open PySem PySem.Spec PyProof.Rows L2
local macro_rules | `(tactic| walk_at "hg") => `(tactic| first | assumption | exact upd_same | (apply get_keep; assumption; walk_at "hg") | (apply get_same; assumption; walk_at "hg") | (apply get_mut; assumption; walk_at "hg"))
local macro_rules | `(tactic| walk_at "sq") => `(tactic| first | assumption | (apply SqT.of; walk_at "hg") | (apply SqL.of; walk_at "hg") | (apply same_t; assumption; walk_at "sq") | (apply Same.seq; assumption; walk_at "sq"))
local macro_rules | `(tactic| walk_at "sc") => `(tactic| first | omega | decide | assumption | (unfold CMul; omega) | (unfold CDiv; omega))
local macro_rules | `(tactic| walk_at "x1") => `(tactic| first
  | with_reducible refine x_seq ?_
  | with_reducible refine x_var (by with_unfolding_all rfl) ?_
  | with_reducible refine x_c ?_
  | with_reducible refine x_op ?_
  | with_reducible refine x_rI0 ?_
  | with_reducible refine x_bl ?_
  | with_reducible refine x_rEq (by with_unfolding_all rfl) ?_
  | with_reducible refine x_rNe (by with_unfolding_all rfl) ?_
  | with_reducible refine x_asg ?_
  | with_reducible refine x_gname ?_
  | with_reducible refine x_gcons ?_
  | with_reducible refine x_gnil ?_
  | with_reducible refine x_ret ?_
  | with_reducible refine x_drop ?_
  | with_reducible refine x_next ?_
  | with_reducible refine x_cont ?_
  | with_reducible refine x_brk ?_
  | with_reducible refine x_ifS ?_
  | with_reducible refine x_ifE ?_
  | with_reducible refine x_cons ?_
  | with_reducible refine x_nil ?_
  | with_reducible refine x_test ?_
  | with_reducible refine x_tB ?_
  | with_reducible refine x_and ?_
  | with_reducible refine x_or ?_
  | with_reducible refine x_not ?_
  | with_reducible refine x_andV ?_
  | with_reducible refine x_orV ?_
  | with_reducible refine x_notV ?_
  | with_reducible refine x_chain ?_
  | with_reducible refine x_par ?_
  | with_reducible refine x_two ?_
  | with_reducible refine x_un ?_
  | with_reducible refine x_rU ?_
  | with_reducible refine x_cb ?_
  | with_reducible refine x_call ?_
  | with_reducible refine x_sl ?_
  | with_reducible refine x_nopart ?_
  | with_reducible refine x_part ?_
  | with_reducible refine x_int ?_
  | with_reducible refine x_tup ?_
  | with_reducible refine x_lst ?_
  | with_reducible refine x_bm ?_
  | with_reducible refine x_fld ?_
  | with_reducible refine x_chain3 ?_
  | ((with_reducible apply x_ixT); (focus (walk_at "sq"; done)); (focus (with_unfolding_all rfl; done)))
  | ((with_reducible apply x_ixL); (focus (walk_at "sq"; done)); (focus (with_unfolding_all rfl; done)))
  | ((with_reducible apply x_gtup); (focus (walk_at "sq"; done)); (focus (with_unfolding_all rfl; done)))
  | ((with_reducible apply x_glst); (focus (walk_at "sq"; done)); (focus (with_unfolding_all rfl; done)))
  | with_reducible refine x_F dn_int ?_
  | with_reducible refine x_F dn_ref ?_
  | with_reducible refine x_T dn_non ?_
  | with_reducible refine x_T (by decide +kernel) ?_
  | with_reducible refine x_F (by decide +kernel) ?_)
local macro_rules | `(tactic| walk_at "sz") => `(tactic| first | (exact Nat.le_of_ble_eq_true rfl) | decide | omega)
local macro_rules | `(tactic| walk_at "x") => `(tactic| ((walk_at "x1"); repeat (walk_at "x1")))
section
variable {P : Program} {w : World} {K : PySem.W.Frag} {mg : Str → Option Value} {base : Heap}
/-! ### moved -/
def mov (r : Row) (n c w : Int) : List V := match r with
  | .go r => [.int c, .int w, .int r.val]
  | .iff b q r => [.int c, .int w, if (if b then c else w) < amt q.times n w then .int r.val else .non]
  | .less s q => [.int (if s = .v then c else c - amt q.times n w), .int (if s = .c then w else w - amt q.times n w), .non]
  | _ => []
def Row.moves : Row → Bool
  | .go _ => true
  | .iff _ _ _ => true
  | .less _ _ => true
  | _ => false
theorem times_in (q : Q5) : 0 ≤ q.times ∧ q.times ≤ 4 := by cases q <;> decide
def spMoved : Sp := fun vs H Q _ => ∃ (a : Addr) (r : Row) (n c z : Int), vs = [.ref a, .int n, .int c, .int z] ∧ H a = some (.tup r.step) ∧ r.moves = true ∧ (1 ≤ n ∧ n ≤ 10 ^ 30) ∧ (-(8 * n) ≤ z ∧ z ≤ 8 * n) ∧
  ∀ p H', Same H H' → H p = none → H' p = some (.tup (mov r n c z)) → Q (.ref p) H'
theorem sc_moved : FnScope ["step", "number", "value", "size", "times"] ["step", "number", "value", "size"] (defScope s_moved) := ⟨rfl, rfl, rfl, by decide +kernel, rfl, by decide +kernel, by decide +kernel⟩
theorem ok_moved (T : Tx w K mg) (B : HasDef K mg "moved" s_moved ["step", "number", "value", "size"]) (D_amount : Def P w K mg base "amount" 1 ["times", "number", "size"] spAmount) : Def P w K mg base "moved" 2 ["step", "number", "value", "size"] spMoved := by
  refine Def.mk B sc_moved (fun vs H Q E h => ?_) (fun f cdv A outer s H vs Q E hr h => ?_)
  · obtain ⟨a, r, n, c, z, rfl, _⟩ := h
    rfl
  · obtain ⟨a, r, n, c, z, rfl, ha, hm, hn, hz, q⟩ := h
    refine ⟨_, (pss_cons (ps_if (pt_cmpR op_eq (pe_ix ix_tup (pv 0) pe_int (fun _ _ => rfl)) pe_str (nomark _)) (pss_one (ps_ret (pe_tup (pa_cons (pv 2) (pa_cons (pv 3) (pa_cons (pe_ix ix_tup (pv 0) pe_int (fun _ _ => rfl)) pa_nil)))))) pss_nil)
      (pss_cons (ps_set (i := 4) sc_moved.nd rfl (Or.inl rfl) (pe_d D_amount hr (pa_cons (pe_ix ix_tup (pv 0) pe_int (fun _ _ => rfl)) (pa_cons (pv 1) (pa_cons (pv 3) pa_nil)))))
      (pss_cons (ps_if (pt_cmpR op_eq (pe_ix ix_tup (pv 0) pe_int (fun _ _ => rfl)) pe_str (nomark _)) (pss_one (ps_ret (pe_tup (pa_cons (pv 2) (pa_cons (pv 3) (pa_cons (pe_ifExp (pt_cmpR op_lt (pe_ifExp (pt_cmpR op_eq (pe_ix ix_tup (pv 0) pe_int (fun _ _ => rfl)) pe_str (nomark _)) (pv 2) (pv 3)) (pv 4) (nomark _)) (pe_ix ix_tup (pv 0) pe_int (fun _ _ => rfl)) pe_non) pa_nil)))))) pss_nil)
      (pss_one (ps_ret (pe_tup (pa_cons (pe_ifExp (pt_cmpR op_in_str pe_str (pe_ix ix_tup (pv 0) pe_int (fun _ _ => rfl)) (by rfl)) (pe_op op_sub (pv 2) (pv 4)) (pv 2)) (pa_cons (pe_ifExp (pt_cmpR op_in_str pe_str (pe_ix ix_tup (pv 0) pe_int (fun _ _ => rfl)) (by rfl)) (pe_op op_sub (pv 3) (pv 4)) (pv 3)) (pa_cons pe_non pa_nil))))))))), ?_⟩
    cases r with
    | take => cases hm
    | again => cases hm
    | giveC => cases hm
    | giveR => cases hm
    | go r =>
      have ha : H a = some (.tup [.str "go", .int r.val]) := ha
      walk_at "x"
      refine ⟨by walk_at "sz", fun p np => ?_⟩
      exact q p _ (same_new (Same.refl _) np) np upd_same
    | iff b t r =>
      have ha : H a = some (.tup [.str "if", .str (cvS b), .int t.times, .int r.val]) := ha
      walk_at "x"
      refine ⟨t.times, n, z, rfl, times_in t, hn, hz, ?_⟩
      walk_at "x"
      cases b with
      | true =>
        walk_at "x"
        refine x_TF (fun h1 => ?_) (fun h1 => ?_)
        · walk_at "x"
          refine ⟨by walk_at "sz", fun p np => q p _ (same_new (Same.refl _) np) np (Eq.trans upd_same ?_)⟩
          have e := of_decide_eq_true h1
          simp [mov, e]
        · walk_at "x"
          refine ⟨by walk_at "sz", fun p np => q p _ (same_new (Same.refl _) np) np (Eq.trans upd_same ?_)⟩
          have e := of_decide_eq_false h1
          simp [mov, e]
      | false =>
        walk_at "x"
        refine x_TF (fun h1 => ?_) (fun h1 => ?_)
        · walk_at "x"
          refine ⟨by walk_at "sz", fun p np => q p _ (same_new (Same.refl _) np) np (Eq.trans upd_same ?_)⟩
          have e := of_decide_eq_true h1
          simp [mov, e]
        · walk_at "x"
          refine ⟨by walk_at "sz", fun p np => q p _ (same_new (Same.refl _) np) np (Eq.trans upd_same ?_)⟩
          have e := of_decide_eq_false h1
          simp [mov, e]
    | less t u =>
      have ha : H a = some (.tup [.str "less", .str t.who, .int u.times]) := ha
      walk_at "x"
      refine ⟨u.times, n, z, rfl, times_in u, hn, hz, ?_⟩
      walk_at "x"
      refine ⟨_, _, rfl, rfl, ?_⟩
      cases t with
      | cv =>
        walk_at "x"
        refine ⟨_, _, rfl, rfl, ?_⟩
        walk_at "x"
        exact ⟨by walk_at "sz", fun p np => q p _ (same_new (Same.refl _) np) np upd_same⟩
      | c =>
        walk_at "x"
        refine ⟨_, _, rfl, rfl, ?_⟩
        walk_at "x"
        exact ⟨by walk_at "sz", fun p np => q p _ (same_new (Same.refl _) np) np upd_same⟩
      | v =>
        walk_at "x"
        refine ⟨_, _, rfl, rfl, ?_⟩
        walk_at "x"
        exact ⟨by walk_at "sz", fun p np => q p _ (same_new (Same.refl _) np) np upd_same⟩
/-! ### is_bounded -/
def spBnd : Sp := fun vs H Q _ => ∃ (a : Addr) (n x y z : Int), vs = [.int n, .ref a] ∧ H a = some (.tup [.int x, .int y, .int z]) ∧ Q (.bl (bnd n x y z)) H
theorem sc_is_bounded : FnScope ["number", "spot", "low", "high", "size", "far"] ["number", "spot"] (defScope s_is_bounded) := ⟨rfl, rfl, rfl, by decide +kernel, rfl, by decide +kernel, by decide +kernel⟩
theorem ok_is_bounded (T : Tx w K mg) (B : HasDef K mg "is_bounded" s_is_bounded ["number", "spot"]) : Def P w K mg base "is_bounded" 1 ["number", "spot"] spBnd := by
  refine Def.mk B sc_is_bounded (fun vs H Q E h => ?_) (fun f cdv A outer s H vs Q E hr h => ?_)
  · obtain ⟨a, n, x, y, z, rfl, _⟩ := h
    rfl
  · obtain ⟨a, n, x, y, z, rfl, ha, q⟩ := h
    refine ⟨_, (pss_cons (ps_asg (pv 1) (pg_tup rfl (pgs_cons (pg_name (i := 2) sc_is_bounded.nd rfl (Or.inl rfl)) (pgs_cons (pg_name (i := 3) sc_is_bounded.nd rfl (Or.inl rfl)) (pgs_cons (pg_name (i := 4) sc_is_bounded.nd rfl (Or.inl rfl)) pgs_nil)))))
      (pss_cons (ps_set (i := 5) sc_is_bounded.nd rfl (Or.inl rfl) (pe_op op_mul (g_int T.mostWide) (pv 0)))
      (pss_one (ps_ret (pe_and (pe_chain3 op_le op_lt op_le (pe_un un_neg (pv 5)) (pv 2) (pv 3) (pe_op op_add (pv 5) pe_int)) (pe_one (pe_chain op_le op_le (pe_un un_neg (pv 5)) (pv 4) (pv 5)))))))), ?_⟩
    walk_at "x"
    refine x_rI (.inl (by omega)) ?_
    walk_at "x"
    unfold bnd at q
    by_cases h1 : -(8 * n) ≤ x
    · simp only [h1, decide_true, Bool.true_and] at q
      refine x_T (decide_eq_true h1) ?_
      walk_at "x"
      by_cases h2 : x < y
      · simp only [h2, decide_true, Bool.true_and] at q
        refine x_T (decide_eq_true h2) ?_
        walk_at "x"
        by_cases h3 : y ≤ 8 * n + 1
        · simp only [h3, decide_true, Bool.true_and] at q
          refine x_T (decide_eq_true h3) ?_
          walk_at "x"
          by_cases h4 : -(8 * n) ≤ z
          · simp only [h4, decide_true, Bool.true_and] at q
            refine x_T (decide_eq_true h4) ?_
            walk_at "x"
            exact q
          · simp only [h4, decide_false, Bool.false_and] at q
            exact x_F (decide_eq_false h4) q
        · simp only [h3, decide_false, Bool.false_and] at q
          exact x_F (decide_eq_false h3) q
      · simp only [h2, decide_false, Bool.false_and] at q
        exact x_F (decide_eq_false h2) (x_bl (x_F rfl q))
    · simp only [h1, decide_false, Bool.false_and] at q
      exact x_F (decide_eq_false h1) (x_bl (x_F rfl q))
end
end K48
namespace K48
open PySem PySem.Spec PyProof.Rows L2
local macro_rules | `(tactic| walk_at "hg") => `(tactic| first | assumption | exact upd_same | (apply get_keep; assumption; walk_at "hg") | (apply get_same; assumption; walk_at "hg") | (apply get_mut; assumption; walk_at "hg"))
local macro_rules | `(tactic| walk_at "sq") => `(tactic| first | assumption | (apply SqT.of; walk_at "hg") | (apply SqL.of; walk_at "hg") | (apply same_t; assumption; walk_at "sq") | (apply Same.seq; assumption; walk_at "sq"))
local macro_rules | `(tactic| walk_at "sc") => `(tactic| first | omega | decide | assumption | (unfold CMul; omega) | (unfold CDiv; omega))
local macro_rules | `(tactic| walk_at "x1") => `(tactic| first
  | with_reducible refine x_seq ?_
  | with_reducible refine x_var (by with_unfolding_all rfl) ?_
  | with_reducible refine x_c ?_
  | with_reducible refine x_op ?_
  | with_reducible refine x_rI0 ?_
  | with_reducible refine x_bl ?_
  | with_reducible refine x_rEq (by with_unfolding_all rfl) ?_
  | with_reducible refine x_rNe (by with_unfolding_all rfl) ?_
  | with_reducible refine x_asg ?_
  | with_reducible refine x_gname ?_
  | with_reducible refine x_gcons ?_
  | with_reducible refine x_gnil ?_
  | with_reducible refine x_ret ?_
  | with_reducible refine x_drop ?_
  | with_reducible refine x_next ?_
  | with_reducible refine x_cont ?_
  | with_reducible refine x_brk ?_
  | with_reducible refine x_ifS ?_
  | with_reducible refine x_ifE ?_
  | with_reducible refine x_cons ?_
  | with_reducible refine x_nil ?_
  | with_reducible refine x_test ?_
  | with_reducible refine x_tB ?_
  | with_reducible refine x_and ?_
  | with_reducible refine x_or ?_
  | with_reducible refine x_not ?_
  | with_reducible refine x_andV ?_
  | with_reducible refine x_orV ?_
  | with_reducible refine x_notV ?_
  | with_reducible refine x_chain ?_
  | with_reducible refine x_par ?_
  | with_reducible refine x_two ?_
  | with_reducible refine x_un ?_
  | with_reducible refine x_rU ?_
  | with_reducible refine x_cb ?_
  | with_reducible refine x_call ?_
  | with_reducible refine x_sl ?_
  | with_reducible refine x_nopart ?_
  | with_reducible refine x_part ?_
  | with_reducible refine x_int ?_
  | with_reducible refine x_tup ?_
  | with_reducible refine x_lst ?_
  | with_reducible refine x_bm ?_
  | with_reducible refine x_fld ?_
  | with_reducible refine x_chain3 ?_
  | ((with_reducible apply x_ixT); (focus (walk_at "sq"; done)); (focus (with_unfolding_all rfl; done)))
  | ((with_reducible apply x_ixL); (focus (walk_at "sq"; done)); (focus (with_unfolding_all rfl; done)))
  | ((with_reducible apply x_gtup); (focus (walk_at "sq"; done)); (focus (with_unfolding_all rfl; done)))
  | ((with_reducible apply x_glst); (focus (walk_at "sq"; done)); (focus (with_unfolding_all rfl; done)))
  | with_reducible refine x_F dn_int ?_
  | with_reducible refine x_F dn_ref ?_
  | with_reducible refine x_T dn_non ?_
  | with_reducible refine x_T (by decide +kernel) ?_
  | with_reducible refine x_F (by decide +kernel) ?_)
local macro_rules | `(tactic| walk_at "sz") => `(tactic| first | (exact Nat.le_of_ble_eq_true rfl) | decide | omega)
local macro_rules | `(tactic| walk_at "x") => `(tactic| ((walk_at "x1"); repeat (walk_at "x1")))
section
variable {P : Program} {w : World} {K : PySem.W.Frag} {mg : Str → Option Value} {base : Heap}
/-! ### behind -/
def spBehind : Sp := fun vs H Q _ => ∃ (a b : Addr) (r : Row) (i n x y z : Int), vs = [.ref a, .int i, .int n, .ref b] ∧ H a = some (.tup r.step) ∧ H b = some (.tup [.int x, .int y, .int z]) ∧ (1 ≤ n ∧ n ≤ 10 ^ 30) ∧ (-(8 * n) ≤ z ∧ z ≤ 8 * n) ∧
  ∀ p H' xs, Same H H' → H p = none → H' p = some (.lst xs) → SpotsAt H' xs (next r n (i, x, y, z)) → Q (.ref p) H'
theorem sc_behind : FnScope ["step", "row", "number", "spot", "low", "high", "size", "cut", "found", "first", "full", "jump"] ["step", "row", "number", "spot"] (defScope s_behind) := ⟨rfl, rfl, rfl, by decide +kernel, rfl, by decide +kernel, by decide +kernel⟩
theorem ok_behind (T : Tx w K mg) (B : HasDef K mg "behind" s_behind ["step", "row", "number", "spot"]) (D_amount : Def P w K mg base "amount" 1 ["times", "number", "size"] spAmount) (D_moved : Def P w K mg base "moved" 2 ["step", "number", "value", "size"] spMoved) :
    Def P w K mg base "behind" 3 ["step", "row", "number", "spot"] spBehind := by
  refine Def.mk B sc_behind (fun vs H Q E h => ?_) (fun f cdv A outer s H vs Q E hr h => ?_)
  · obtain ⟨a, b, r, i, n, x, y, z, rfl, _⟩ := h
    rfl
  · obtain ⟨a, b, r, i, n, x, y, z, rfl, ha, hb, hn, hz, q⟩ := h
    refine ⟨_, (pss_cons (ps_asg (pv 3) (pg_tup rfl (pgs_cons (pg_name (i := 4) sc_behind.nd rfl (Or.inl rfl)) (pgs_cons (pg_name (i := 5) sc_behind.nd rfl (Or.inl rfl)) (pgs_cons (pg_name (i := 6) sc_behind.nd rfl (Or.inl rfl)) pgs_nil)))))
      (pss_cons (ps_if (pt_cmpR op_in_seq (pe_ix ix_tup (pv 0) pe_int (fun _ _ => rfl)) (pe_tup (pa_cons pe_str (pa_cons pe_str pa_nil))) (by rfl)) (pss_one (ps_ret (pe_lst pa_nil))) pss_nil)
      (pss_cons (ps_if (pt_cmpR op_eq (pe_ix ix_tup (pv 0) pe_int (fun _ _ => rfl)) pe_str (nomark _)) (pss_one (ps_ret (pe_lst (pa_cons (pe_tup (pa_cons (pe_op op_add (pv 1) pe_int) (pa_cons (pe_op op_mul pe_int (pv 4)) (pa_cons (pe_op op_mul pe_int (pv 5)) (pa_cons (pe_op op_mul pe_int (pv 6)) pa_nil))))) pa_nil)))) pss_nil)
      (pss_cons (ps_if (PW.pt (pw_and (pt_cmpR op_eq (pe_ix ix_tup (pv 0) pe_int (fun _ _ => rfl)) pe_str (nomark _)) (pw_and1 (pt_cmpR op_eq (pe_ix ix_tup (pv 0) pe_int (fun _ _ => rfl)) pe_str (nomark _))))) (pss_cons (ps_par (i := 7) (j := 8) (by rfl) sc_behind.nd rfl rfl (by decide) rfl rfl (pa_cons (pe_d D_amount hr (pa_cons (pe_ix ix_tup (pv 0) pe_int (fun _ _ => rfl)) (pa_cons (pv 2) (pa_cons (pv 6) pa_nil)))) (pa_cons (pe_lst pa_nil) pa_nil)) (by rfl))
      (pss_cons (ps_if (pt_cmpR op_lt (pv 4) (pv 7) (nomark _)) (pss_one (ps_expr (pe_bm PySem.F.plainAttrs_list PySem.F.slot_list_append PySem.F.type_list_append mt_append (pv 8) (pa_cons (pe_tup (pa_cons (pe_ix ix_tup (pv 0) pe_int (fun _ _ => rfl)) (pa_cons (pv 4) (pa_cons (pe_callB (call_min2 rfl) (by rfl) T.z_min boot_min' (pa_cons (pv 5) (pa_cons (pv 7) pa_nil))) (pa_cons (pv 6) pa_nil))))) pa_nil)))) pss_nil)
      (pss_cons (ps_if (pt_cmpR op_lt (pv 7) (pv 5) (nomark _)) (pss_one (ps_expr (pe_bm PySem.F.plainAttrs_list PySem.F.slot_list_append PySem.F.type_list_append mt_append (pv 8) (pa_cons (pe_tup (pa_cons (pe_op op_add (pv 1) pe_int) (pa_cons (pe_callB (call_max2 rfl) (by rfl) T.z_max boot_max' (pa_cons (pv 4) (pa_cons (pv 7) pa_nil))) (pa_cons (pv 5) (pa_cons (pv 6) pa_nil))))) pa_nil)))) pss_nil)
      (pss_one (ps_ret (pv 8)))))) pss_nil)
      (pss_cons (ps_asg (pe_d D_moved hr (pa_cons (pv 0) (pa_cons (pv 2) (pa_cons (pv 4) (pa_cons (pv 6) pa_nil))))) (pg_tup rfl (pgs_cons (pg_name (i := 9) sc_behind.nd rfl (Or.inl rfl)) (pgs_cons (pg_name (i := 10) sc_behind.nd rfl (Or.inl rfl)) (pgs_cons (pg_name (i := 11) sc_behind.nd rfl (Or.inl rfl)) pgs_nil)))))
      (pss_one (ps_ret (pe_lst (pa_cons (pe_tup (pa_cons (pe_ifExp (pt_cmpR op_isN (pv 11) pe_non (nomark _)) (pe_op op_add (pv 1) pe_int) (pv 11)) (pa_cons (pv 9) (pa_cons (pe_op op_sub (pe_op op_add (pv 9) (pv 5)) (pv 4)) (pa_cons (pv 10) pa_nil))))) pa_nil))))))))), ?_⟩
    have empty : ∀ (H0 : Hp) (p : Addr), Same H H0 → H0 p = none → next r n (i, x, y, z) = [] → Q (.ref p) (upd H0 p (.lst [])) := fun H0 p e0 np e =>
      q p _ [] (same_new e0 np) (e0.free np) upd_same (by rw [e]; exact .nil)
    -- the common end: one tuple, one list
    have one : ∀ (H0 : Hp) (p1 p2 : Addr) (s : Spot), Same H H0 → H0 p1 = none → upd H0 p1 (.tup (spV s)) p2 = none → next r n (i, x, y, z) = [s] → Q (.ref p2) (upd (upd H0 p1 (.tup (spV s))) p2 (.lst [.ref p1])) := fun H0 p1 p2 s e0 n1 n2 e => by
      refine q p2 _ [.ref p1] (same_new (same_new e0 n1) n2) ((same_new e0 n1).free n2) upd_same ?_
      rw [e]
      exact .cons ⟨p1, rfl, get_keep n2 upd_same⟩ .nil
    walk_at "x"
    -- behind moved
    have tail : ∀ (H0 : Hp) (p0 : Addr) (g : Int × Int × Int) (j : V), True := fun _ _ _ _ => trivial
    cases r with
    | take =>
      have ha : H a = some (.tup [.str "take"]) := ha
      walk_at "x"
      refine ⟨by walk_at "sz", fun p1 n1 => ?_⟩
      refine x_inU (SqT.of upd_same) rfl rfl ?_
      walk_at "x"
      refine x_rI (.inl (by omega)) ?_
      walk_at "x"
      refine x_rI (.inl (by omega)) ?_
      walk_at "x"
      refine x_rI (.inl (by omega)) ?_
      walk_at "x"
      refine ⟨by walk_at "sz", fun p2 n2 => ?_⟩
      walk_at "x"
      refine ⟨by walk_at "sz", fun p3 n3 => ?_⟩
      exact one (upd H p1 _) p2 p3 (i + 1, 2 * x, 2 * y, 2 * z) (same_new (Same.refl _) n1) n2 n3 rfl
    | again =>
      have ha : H a = some (.tup [.str "again"]) := ha
      walk_at "x"
      refine ⟨by walk_at "sz", fun p1 n1 => ?_⟩
      refine x_inU (SqT.of upd_same) rfl rfl ?_
      walk_at "x"
      exact ⟨by walk_at "sz", fun p2 n2 => empty _ p2 (same_new (Same.refl _) n1) n2 rfl⟩
    | giveC =>
      have ha : H a = some (.tup [.str "give", .str "c"]) := ha
      walk_at "x"
      refine ⟨by walk_at "sz", fun p1 n1 => ?_⟩
      refine x_inU (SqT.of upd_same) rfl rfl ?_
      walk_at "x"
      exact ⟨by walk_at "sz", fun p2 n2 => empty _ p2 (same_new (Same.refl _) n1) n2 rfl⟩
    | giveR =>
      have ha : H a = some (.tup [.str "give", .str "rest"]) := ha
      walk_at "x"
      refine ⟨by walk_at "sz", fun p1 n1 => ?_⟩
      refine x_inU (SqT.of upd_same) rfl rfl ?_
      walk_at "x"
      exact ⟨by walk_at "sz", fun p2 n2 => empty _ p2 (same_new (Same.refl _) n1) n2 rfl⟩
    | go r =>
      have ha : H a = some (.tup [.str "go", .int r.val]) := ha
      walk_at "x"
      refine ⟨by walk_at "sz", fun p1 n1 => ?_⟩
      refine x_inU (SqT.of upd_same) rfl rfl ?_
      walk_at "x"
      refine ⟨a, .go r, n, x, z, rfl, get_keep n1 ha, rfl, hn, hz, fun p0 H0 e0 n0 h0 => ?_⟩
      have h0 : H0 p0 = some (.tup [.int x, .int z, .int r.val]) := h0
      walk_at "x"
      refine ⟨rfl, ?_⟩
      walk_at "x"
      refine ⟨by walk_at "sz", fun p2 n2 => ?_⟩
      walk_at "x"
      refine ⟨by walk_at "sz", fun p3 n3 => ?_⟩
      exact one H0 p2 p3 ((r.val : Int), x, x + y - x, z) ((same_new (Same.refl _) n1).trans e0) n2 n3 rfl
    | less t u =>
      have ha : H a = some (.tup [.str "less", .str t.who, .int u.times]) := ha
      walk_at "x"
      refine ⟨by walk_at "sz", fun p1 n1 => ?_⟩
      refine x_inU (SqT.of upd_same) rfl rfl ?_
      walk_at "x"
      refine ⟨a, .less t u, n, x, z, rfl, get_keep n1 ha, rfl, hn, hz, fun p0 H0 e0 n0 h0 => ?_⟩
      have h0 : H0 p0 = some (.tup [.int (if t = .v then x else x - amt u.times n z), .int (if t = .c then z else z - amt u.times n z), .non]) := h0
      walk_at "x"
      refine ⟨rfl, ?_⟩
      walk_at "x"
      refine ⟨by walk_at "sz", fun p2 n2 => ?_⟩
      walk_at "x"
      refine ⟨by walk_at "sz", fun p3 n3 => ?_⟩
      exact one H0 p2 p3 (i + 1, (if t = .v then x else x - amt u.times n z), (if t = .v then x else x - amt u.times n z) + y - x, (if t = .c then z else z - amt u.times n z)) ((same_new (Same.refl _) n1).trans e0) n2 n3 rfl
    | iff c t r =>
      cases c with
      | false =>
        have ha : H a = some (.tup [.str "if", .str "v", .int t.times, .int r.val]) := ha
        walk_at "x"
        refine ⟨by walk_at "sz", fun p1 n1 => ?_⟩
        refine x_inU (SqT.of upd_same) rfl rfl ?_
        walk_at "x"
        refine ⟨a, .iff false t r, n, x, z, rfl, get_keep n1 ha, rfl, hn, hz, fun p0 H0 e0 n0 h0 => ?_⟩
        by_cases hc : z < amt t.times n z
        · have h0 : H0 p0 = some (.tup [.int x, .int z, .int r.val]) := h0.trans (by simp [mov, hc])
          walk_at "x"
          refine ⟨rfl, ?_⟩
          walk_at "x"
          refine ⟨by walk_at "sz", fun p2 n2 => ?_⟩
          walk_at "x"
          refine ⟨by walk_at "sz", fun p3 n3 => ?_⟩
          exact one H0 p2 p3 ((r.val : Int), x, x + y - x, z) ((same_new (Same.refl _) n1).trans e0) n2 n3 (by simp [next, goes, hc])
        · have h0 : H0 p0 = some (.tup [.int x, .int z, .non]) := h0.trans (by simp [mov, hc])
          walk_at "x"
          refine ⟨rfl, ?_⟩
          walk_at "x"
          refine ⟨by walk_at "sz", fun p2 n2 => ?_⟩
          walk_at "x"
          refine ⟨by walk_at "sz", fun p3 n3 => ?_⟩
          exact one H0 p2 p3 (i + 1, x, x + y - x, z) ((same_new (Same.refl _) n1).trans e0) n2 n3 (by simp [next, goes, hc])
      | true =>
        have ha : H a = some (.tup [.str "if", .str "c", .int t.times, .int r.val]) := ha
        walk_at "x"
        refine ⟨by walk_at "sz", fun p1 n1 => ?_⟩
        refine x_inU (SqT.of upd_same) rfl rfl ?_
        walk_at "x"
        refine ⟨t.times, n, z, rfl, times_in t, hn, hz, ?_⟩
        walk_at "x"
        refine ⟨by walk_at "sz", fun p2 n2 => ?_⟩
        walk_at "x"
        generalize hk : amt t.times n z = k
        have e2 : Same H (upd (upd H p1 (.tup [.str "give", .str "again"])) p2 (.lst [])) := same_new (same_new (Same.refl _) n1) n2
        have np2 : H p2 = none := (same_new (Same.refl _) n1).free n2
        have hnx : next (.iff true t r) n (i, x, y, z) = (if x < k then [((r.val : Int), x, (if y < k then y else k), z)] else []) ++ (if k < y then [(i + 1, (if k < x then x else k), y, z)] else []) := by
          simp only [next, hk]
        -- the second test, from a heap in which the list holds what was found so far
        have second : ∀ (D : Ends) (H0 : Hp) (xs : List V) (ss : List Spot), D.rt = Q → xs.length ≤ 1 → Same H H0 → H0 p2 = some (.lst xs) → SpotsAt H0 xs ss → next (.iff true t r) n (i, x, y, z) = ss ++ (if k < y then [(i + 1, (if k < x then x else k), y, z)] else []) →
            tSeq (tIfS (tTest (tOp (rI0 fun i j => .bl (decide (i < j))) (tVar 7) (tVar 5))) (tDrop (tBM K "list" rAppend (tVar 8) (tCons (tTup (tCons (tOp (rI0 fun i j => .int (i + j)) (tVar 1) (tC (.int 1))) (tCons (tCB (fun xs H Q => ∃ i j, xs = [.int i, .int j] ∧ Q (.int (if j > i then j else i)) H) (tCons (tVar 4) (tCons (tVar 7) tNil))) (tCons (tVar 5) (tCons (tVar 6) tNil))))) tNil))) tNext) (tRet (tVar 8))
              D [some (.ref a), some (.int i), some (.int n), some (.ref b), some (.int x), some (.int y), some (.int z), some (.int k), some (.ref p2), none, none, none] H0 := by
          intro D H0 xs ss hD hl e0 h0 hs hx
          walk_at "x"
          refine x_TF (fun h1 => ?_) (fun h1 => ?_)
          · have c1 := of_decide_eq_true h1
            walk_at "x"
            refine ⟨.inl ⟨rfl, _, SqL.of h0⟩, ?_⟩
            walk_at "x"
            refine ⟨x, k, rfl, ?_⟩
            rw [mx_eq]
            walk_at "x"
            refine ⟨by walk_at "sz", fun p3 n3 => ?_⟩
            walk_at "x"
            have ne : p2 ≠ p3 := ne_of_none h0 n3
            refine x_app (get_keep n3 h0) (Nat.lt_of_le_of_lt hl (by decide)) ?_
            walk_at "x"
            rw [hD]
            refine q p2 _ _ (same_mut (same_new e0 n3) np2) np2 upd_same ?_
            rw [hx, if_pos c1]
            refine SpotsAt.snoc (s := (i + 1, (if k < x then x else k), y, z)) ?_ ((upd_ne ne.symm).trans upd_same)
            refine Paired.mapP hs fun v s ⟨a', ev, ha'⟩ => ⟨a', ev, ?_⟩
            have na : a' ≠ p2 := by
              intro z
              rw [z, h0] at ha'
              cases ha'
            exact (upd_ne na).trans (get_keep n3 ha')
          · have c1 := of_decide_eq_false h1
            walk_at "x"
            rw [hD]
            refine q p2 _ _ e0 np2 h0 ?_
            rw [hx, if_neg c1, List.append_nil]
            exact hs
        refine x_TF (fun h1 => ?_) (fun h1 => ?_)
        · have c1 := of_decide_eq_true h1
          walk_at "x"
          refine ⟨.inl ⟨rfl, _, SqL.of upd_same⟩, ?_⟩
          walk_at "x"
          refine ⟨y, k, rfl, ?_⟩
          rw [mn_eq]
          walk_at "x"
          refine ⟨by walk_at "sz", fun p3 n3 => ?_⟩
          walk_at "x"
          have ne : p2 ≠ p3 := ne_of_none upd_same n3
          refine x_app (get_keep n3 upd_same) (by decide) ?_
          show tSeq _ _ _ _ _
          refine second _ _ [.ref p3] [((r.val : Int), x, (if y < k then y else k), z)] (by rfl) (Nat.le_refl _) (same_mut (same_new e2 n3) np2) upd_same (.cons ⟨p3, rfl, (upd_ne ne.symm).trans upd_same⟩ .nil) ?_
          rw [hnx, if_pos c1]
        · have c1 := of_decide_eq_false h1
          refine x_next ?_
          show tSeq _ _ _ _ _
          refine second _ _ [] [] (by rfl) (Nat.zero_le _) e2 upd_same .nil ?_
          rw [hnx, if_neg c1]
end
end K48
namespace K48
open PySem PySem.Spec PyProof.Rows L2
local macro_rules | `(tactic| walk_at "hg") => `(tactic| first | assumption | exact upd_same | (apply get_keep; assumption; walk_at "hg") | (apply get_same; assumption; walk_at "hg") | (apply get_mut; assumption; walk_at "hg"))
local macro_rules | `(tactic| walk_at "sq") => `(tactic| first | assumption | (apply SqT.of; walk_at "hg") | (apply SqL.of; walk_at "hg") | (apply same_t; assumption; walk_at "sq") | (apply Same.seq; assumption; walk_at "sq"))
local macro_rules | `(tactic| walk_at "sc") => `(tactic| first | omega | decide | assumption | (unfold CMul; omega) | (unfold CDiv; omega))
local macro_rules | `(tactic| walk_at "x1") => `(tactic| first
  | with_reducible refine x_seq ?_
  | with_reducible refine x_var (by with_unfolding_all rfl) ?_
  | with_reducible refine x_c ?_
  | with_reducible refine x_op ?_
  | with_reducible refine x_rI0 ?_
  | with_reducible refine x_bl ?_
  | with_reducible refine x_rEq (by with_unfolding_all rfl) ?_
  | with_reducible refine x_rNe (by with_unfolding_all rfl) ?_
  | with_reducible refine x_asg ?_
  | with_reducible refine x_gname ?_
  | with_reducible refine x_gcons ?_
  | with_reducible refine x_gnil ?_
  | with_reducible refine x_ret ?_
  | with_reducible refine x_drop ?_
  | with_reducible refine x_next ?_
  | with_reducible refine x_cont ?_
  | with_reducible refine x_brk ?_
  | with_reducible refine x_ifS ?_
  | with_reducible refine x_ifE ?_
  | with_reducible refine x_cons ?_
  | with_reducible refine x_nil ?_
  | with_reducible refine x_test ?_
  | with_reducible refine x_tB ?_
  | with_reducible refine x_and ?_
  | with_reducible refine x_or ?_
  | with_reducible refine x_not ?_
  | with_reducible refine x_andV ?_
  | with_reducible refine x_orV ?_
  | with_reducible refine x_notV ?_
  | with_reducible refine x_chain ?_
  | with_reducible refine x_par ?_
  | with_reducible refine x_two ?_
  | with_reducible refine x_un ?_
  | with_reducible refine x_rU ?_
  | with_reducible refine x_cb ?_
  | with_reducible refine x_call ?_
  | with_reducible refine x_sl ?_
  | with_reducible refine x_nopart ?_
  | with_reducible refine x_part ?_
  | with_reducible refine x_int ?_
  | with_reducible refine x_tup ?_
  | with_reducible refine x_lst ?_
  | with_reducible refine x_bm ?_
  | with_reducible refine x_fld ?_
  | with_reducible refine x_chain3 ?_
  | with_reducible refine x_yes ?_
  | with_reducible refine x_lcT ?_
  | with_reducible refine x_lcL ?_
  | ((with_reducible apply x_ixT); (focus (walk_at "sq"; done)); (focus (with_unfolding_all rfl; done)))
  | ((with_reducible apply x_ixL); (focus (walk_at "sq"; done)); (focus (with_unfolding_all rfl; done)))
  | ((with_reducible apply x_gtup); (focus (walk_at "sq"; done)); (focus (with_unfolding_all rfl; done)))
  | ((with_reducible apply x_glst); (focus (walk_at "sq"; done)); (focus (with_unfolding_all rfl; done)))
  | with_reducible refine x_F dn_int ?_
  | with_reducible refine x_F dn_ref ?_
  | with_reducible refine x_T dn_non ?_
  | with_reducible refine x_T (by decide +kernel) ?_
  | with_reducible refine x_F (by decide +kernel) ?_)
local macro_rules | `(tactic| walk_at "sz") => `(tactic| first | (exact Nat.le_of_ble_eq_true rfl) | decide | omega)
local macro_rules | `(tactic| walk_at "x") => `(tactic| ((walk_at "x1"); repeat (walk_at "x1")))
/-! ### comprehensions whose elements leave all as it was -/
def TupSame (H H' : Hp) : Prop := ∀ b xs, H b = some (.tup xs) → H' b = some (.tup xs)
theorem Same.tups {H H' : Hp} (e : Same H H') : TupSame H H' := fun b xs h => e _ _ h
def LcT (K : PySem.W.Frag) (g : TG) (tt : TT) (te : TE) (vs : List Nat) (σ : L2.St) (Q : VK) (x : V) (H1 : Hp) : Prop := ∃ a, x = .ref a ∧ (∃ xs, SqT K H1 a xs) ∧ ∀ D, H1 D = none → ∃ W : Nat → Nat → Hp → Prop, (∃ m, W 0 m (upd H1 D (.lst []))) ∧ ∀ i m H, W i m H →
  ((Itt K a).stop i H ∧ Q (.ref D) H) ∨ ((Itt K a).go i H ∧ ∃ Nx : Hp → Prop, (∀ H', Nx H' → ∃ m', m' < m ∧ W (i + 1) m' H') ∧ ∀ x H', (Itt K a).yld i H x H' → g x (wipe σ vs) H' fun σ2 H2 => wipe σ2 vs = wipe σ vs ∧ tt σ2 H2 fun b H3 =>
    if b = true then te σ2 H3 fun y H4 => ∃ acc, H4 D = some (.lst acc) ∧ acc.length < sizeLine ∧ Nx (upd H4 D (.lst (acc ++ [y]))) else Nx H3)
def LcL (K : PySem.W.Frag) (g : TG) (tt : TT) (te : TE) (vs : List Nat) (σ : L2.St) (Q : VK) (x : V) (H1 : Hp) : Prop := ∃ a, x = .ref a ∧ (∃ xs, SqL K H1 a xs) ∧ ∀ D, H1 D = none → ∃ W : Nat → Nat → Hp → Prop, (∃ m, W 0 m (upd H1 D (.lst []))) ∧ ∀ i m H, W i m H →
  ((Itl K a).stop i H ∧ Q (.ref D) H) ∨ ((Itl K a).go i H ∧ ∃ Nx : Hp → Prop, (∀ H', Nx H' → ∃ m', m' < m ∧ W (i + 1) m' H') ∧ ∀ x H', (Itl K a).yld i H x H' → g x (wipe σ vs) H' fun σ2 H2 => wipe σ2 vs = wipe σ vs ∧ tt σ2 H2 fun b H3 =>
    if b = true then te σ2 H3 fun y H4 => ∃ acc, H4 D = some (.lst acc) ∧ acc.length < sizeLine ∧ Nx (upd H4 D (.lst (acc ++ [y]))) else Nx H3)
section
variable {K : PySem.W.Frag} {g : TG} {tt : TT} {te tl : TE} {vs : List Nat} {σ : L2.St} {Q : VK} {H : Hp} {a : Addr} {xs : List V}
theorem x_lcT (q : tl σ H fun x H1 => LcT K g tt te vs σ Q x H1) : tLc (iTup K tl) g tt te vs σ H Q := q
theorem x_lcL (q : tl σ H fun x H1 => LcL K g tt te vs σ Q x H1) : tLc (iList K tl) g tt te vs σ H Q := q
theorem lcT_go {j : Nat} (G : Nat → Hp → List V → Prop) (h : SqT K H a xs) (hz : xs.length < sizeLine) (g0 : G 0 H []) (mono : ∀ i H H' l, TupSame H H' → G i H l → G i H' l) (hw : ∀ x, wipe ((wipe σ vs).set j (some x)) vs = wipe σ vs)
    (turn : ∀ i x H' l, xs[i]? = some x → Same H H' → l.length ≤ i → G i H' l → ∀ (KT : VK) (KF : Hp → Prop), (∀ y H4, Same H' H4 → G (i + 1) H4 (l ++ [y]) → KT y H4) → (∀ H3, Same H' H3 → G (i + 1) H3 l → KF H3) → tt ((wipe σ vs).set j (some x)) H' fun b H3 => if b = true then te ((wipe σ vs).set j (some x)) H3 KT else KF H3)
    (q : ∀ D H' l, H D = none → Same H H' → H' D = some (.lst l) → G xs.length H' l → Q (.ref D) H') : LcT K (gName j) tt te vs σ Q (.ref a) H := by
  refine ⟨a, rfl, ⟨xs, h⟩, fun D nD => ?_⟩
  refine lc_tup (xs := xs) (fun i H' => Same H H' ∧ ∃ l, l.length ≤ i ∧ H' D = some (.lst l) ∧ G i H' l) ⟨same_new (Same.refl _) nD, [], Nat.le_refl _, upd_same, mono _ _ _ _ (Same.tups (same_new (Same.refl _) nD)) g0⟩ (fun i H' _ p => same_t p.1 h) (fun i x H' hi p => ?_) (fun H' p => ?_)
  · obtain ⟨e, l, hl, hD, hG⟩ := p
    refine ⟨hw x, ?_⟩
    have hi2 := (List.getElem?_eq_some_iff.mp hi).1
    refine turn i x H' l hi e hl hG _ _ (fun y H4 e4 g4 => ?_) (fun H3 e3 g3 => ⟨e.trans e3, l, by omega, e3 _ _ hD, g3⟩)
    have hD4 := e4 _ _ hD
    have ts : TupSame H4 (upd H4 D (.lst (l ++ [y]))) := fun b zs hb => (upd_ne (fun z => by rw [z, hD4] at hb; cases hb)).trans hb
    exact ⟨l, hD4, by omega, same_mut (e.trans e4) nD, l ++ [y], by rw [List.length_append, List.length_singleton]; omega, upd_same, mono _ _ _ _ ts g4⟩
  · obtain ⟨e, l, hl, hD, hG⟩ := p
    exact q D H' l nD e hD hG
theorem lcL_go {j : Nat} (G : Nat → Hp → List V → Prop) (h : SqL K H a xs) (hz : xs.length < sizeLine) (g0 : G 0 H []) (mono : ∀ i H H' l, TupSame H H' → G i H l → G i H' l) (hw : ∀ x, wipe ((wipe σ vs).set j (some x)) vs = wipe σ vs)
    (turn : ∀ i x H' l, xs[i]? = some x → Same H H' → l.length ≤ i → G i H' l → ∀ (KT : VK) (KF : Hp → Prop), (∀ y H4, Same H' H4 → G (i + 1) H4 (l ++ [y]) → KT y H4) → (∀ H3, Same H' H3 → G (i + 1) H3 l → KF H3) → tt ((wipe σ vs).set j (some x)) H' fun b H3 => if b = true then te ((wipe σ vs).set j (some x)) H3 KT else KF H3)
    (q : ∀ D H' l, H D = none → Same H H' → H' D = some (.lst l) → G xs.length H' l → Q (.ref D) H') : LcL K (gName j) tt te vs σ Q (.ref a) H := by
  refine ⟨a, rfl, ⟨xs, h⟩, fun D nD => ?_⟩
  refine lc_list (xs := xs) (fun i H' => Same H H' ∧ ∃ l, l.length ≤ i ∧ H' D = some (.lst l) ∧ G i H' l) ⟨same_new (Same.refl _) nD, [], Nat.le_refl _, upd_same, mono _ _ _ _ (Same.tups (same_new (Same.refl _) nD)) g0⟩ (fun i H' _ p => Same.seq p.1 h) (fun i x H' hi p => ?_) (fun H' p => ?_)
  · obtain ⟨e, l, hl, hD, hG⟩ := p
    refine ⟨hw x, ?_⟩
    have hi2 := (List.getElem?_eq_some_iff.mp hi).1
    refine turn i x H' l hi e hl hG _ _ (fun y H4 e4 g4 => ?_) (fun H3 e3 g3 => ⟨e.trans e3, l, by omega, e3 _ _ hD, g3⟩)
    have hD4 := e4 _ _ hD
    have ts : TupSame H4 (upd H4 D (.lst (l ++ [y]))) := fun b zs hb => (upd_ne (fun z => by rw [z, hD4] at hb; cases hb)).trans hb
    exact ⟨l, hD4, by omega, same_mut (e.trans e4) nD, l ++ [y], by rw [List.length_append, List.length_singleton]; omega, upd_same, mono _ _ _ _ ts g4⟩
  · obtain ⟨e, l, hl, hD, hG⟩ := p
    exact q D H' l nD e hD hG
end
theorem x_yes {σ : L2.St} {H : Hp} {QB : Bool → Hp → Prop} (q : QB true H) : tYes σ H QB := q
end K48
namespace K48
open PySem PySem.Spec PyProof.Rows L2
local macro_rules | `(tactic| walk_at "hg") => `(tactic| first | assumption | exact upd_same | (apply get_keep; assumption; walk_at "hg") | (apply get_same; assumption; walk_at "hg") | (apply get_mut; assumption; walk_at "hg"))
local macro_rules | `(tactic| walk_at "sq") => `(tactic| first | assumption | (apply SqT.of; walk_at "hg") | (apply SqL.of; walk_at "hg") | (apply same_t; assumption; walk_at "sq") | (apply Same.seq; assumption; walk_at "sq"))
local macro_rules | `(tactic| walk_at "sc") => `(tactic| first | omega | decide | assumption | (unfold CMul; omega) | (unfold CDiv; omega))
local macro_rules | `(tactic| walk_at "x1") => `(tactic| first
  | with_reducible refine x_seq ?_
  | with_reducible refine x_var (by with_unfolding_all rfl) ?_
  | with_reducible refine x_c ?_
  | with_reducible refine x_op ?_
  | with_reducible refine x_rI0 ?_
  | with_reducible refine x_bl ?_
  | with_reducible refine x_rEq (by with_unfolding_all rfl) ?_
  | with_reducible refine x_rNe (by with_unfolding_all rfl) ?_
  | with_reducible refine x_asg ?_
  | with_reducible refine x_gname ?_
  | with_reducible refine x_gcons ?_
  | with_reducible refine x_gnil ?_
  | with_reducible refine x_ret ?_
  | with_reducible refine x_drop ?_
  | with_reducible refine x_next ?_
  | with_reducible refine x_cont ?_
  | with_reducible refine x_brk ?_
  | with_reducible refine x_ifS ?_
  | with_reducible refine x_ifE ?_
  | with_reducible refine x_cons ?_
  | with_reducible refine x_nil ?_
  | with_reducible refine x_test ?_
  | with_reducible refine x_tB ?_
  | with_reducible refine x_and ?_
  | with_reducible refine x_or ?_
  | with_reducible refine x_not ?_
  | with_reducible refine x_andV ?_
  | with_reducible refine x_orV ?_
  | with_reducible refine x_notV ?_
  | with_reducible refine x_chain ?_
  | with_reducible refine x_par ?_
  | with_reducible refine x_two ?_
  | with_reducible refine x_un ?_
  | with_reducible refine x_rU ?_
  | with_reducible refine x_cb ?_
  | with_reducible refine x_call ?_
  | with_reducible refine x_sl ?_
  | with_reducible refine x_nopart ?_
  | with_reducible refine x_part ?_
  | with_reducible refine x_int ?_
  | with_reducible refine x_tup ?_
  | with_reducible refine x_lst ?_
  | with_reducible refine x_bm ?_
  | with_reducible refine x_fld ?_
  | with_reducible refine x_chain3 ?_
  | with_reducible refine x_yes ?_
  | with_reducible refine x_lcT ?_
  | with_reducible refine x_lcL ?_
  | ((with_reducible apply x_ixT); (focus (walk_at "sq"; done)); (focus (with_unfolding_all rfl; done)))
  | ((with_reducible apply x_ixL); (focus (walk_at "sq"; done)); (focus (with_unfolding_all rfl; done)))
  | ((with_reducible apply x_gtup); (focus (walk_at "sq"; done)); (focus (with_unfolding_all rfl; done)))
  | ((with_reducible apply x_glst); (focus (walk_at "sq"; done)); (focus (with_unfolding_all rfl; done)))
  | with_reducible refine x_F dn_int ?_
  | with_reducible refine x_F dn_ref ?_
  | with_reducible refine x_T dn_non ?_
  | with_reducible refine x_T (by decide +kernel) ?_
  | with_reducible refine x_F (by decide +kernel) ?_)
local macro_rules | `(tactic| walk_at "sz") => `(tactic| first | (exact Nat.le_of_ble_eq_true rfl) | decide | omega)
local macro_rules | `(tactic| walk_at "x") => `(tactic| ((walk_at "x1"); repeat (walk_at "x1")))
/-! ### data -/
theorem lay_ints : ∀ ns : List Int, PyData.canLayAll0 (ns.map PyData.int) = true
  | [] => by simp [PyData.canLayAll0]
  | n :: ns => by simp [PyData.canLayAll0, PyData.canLay0, lay_ints ns]
theorem depth_ints : ∀ ns : List Int, PyData.depthAll (ns.map PyData.int) ≤ 1
  | [] => by simp [PyData.depthAll]
  | n :: ns => by
    have := depth_ints ns
    simp only [List.map_cons, PyData.depthAll, PyData.depth]
    omega
theorem shaped_tup {ds : List PyData} (h1 : PyData.canLayAll0 ds = true) (h2 : PyData.depthAll ds ≤ 63) : SeqAt.shaped (.tuple ds) = true := by
  show (PyData.canLay0 (.tuple ds) && decide (PyData.depth (.tuple ds) ≤ 64)) = true
  rw [Bool.and_eq_true]
  exact ⟨by simp only [PyData.canLay0]; exact h1, decide_eq_true (by simp only [PyData.depth]; omega)⟩
theorem shaped_lst {ds : List PyData} (h1 : PyData.canLayAll0 ds = true) (h2 : PyData.depthAll ds ≤ 63) : SeqAt.shaped (.list ds) = true := by
  show (PyData.canLay0 (.list ds) && decide (PyData.depth (.list ds) ≤ 64)) = true
  rw [Bool.and_eq_true]
  exact ⟨by simp only [PyData.canLay0]; exact h1, decide_eq_true (by simp only [PyData.depth]; omega)⟩
def spD (s : Spot) : PyData := .tuple [.int s.1, .int s.2.1, .int s.2.2.1, .int s.2.2.2]
theorem lay_spots : ∀ ss : List Spot, PyData.canLayAll0 (ss.map spD) = true
  | [] => by simp [PyData.canLayAll0]
  | s :: ss => by simp [PyData.canLayAll0, PyData.canLay0, spD, lay_spots ss]
theorem depth_spD (s : Spot) : PyData.depth (spD s) ≤ 2 := by simp [spD, PyData.depth, PyData.depthAll]
theorem depth_spots : ∀ ss : List Spot, PyData.depthAll (ss.map spD) ≤ 2
  | [] => by simp [PyData.depthAll]
  | s :: ss => by
    have := depth_spots ss
    have := depth_spD s
    simp only [List.map_cons, PyData.depthAll]
    omega
theorem dp_ints {K : PySem.W.Frag} {H : Hp} : ∀ ns : List Int, DpAll K H (ns.map V.int) (ns.map PyData.int)
  | [] => .nil
  | n :: ns => .cons (.int n) (dp_ints ns)
theorem dp_spot {K : PySem.W.Frag} {H : Hp} {a : Addr} {s : Spot} (h : H a = some (.tup (spV s))) : Dp K H (.ref a) (spD s) := .tup (SqT.of h) (.cons (.int _) (.cons (.int _) (.cons (.int _) (.cons (.int _) .nil))))
theorem dp_spots {K : PySem.W.Frag} {H : Hp} : ∀ {xs : List V} {ss : List Spot}, SpotsAt H xs ss → DpAll K H xs (ss.map spD)
  | _, _, .nil => .nil
  | _, _, .cons ⟨a, ev, ha⟩ t => by
    rw [ev]
    exact .cons (dp_spot ha) (dp_spots t)
theorem eqv_ints_nil (ns : List Int) : PyData.eqv (.tuple (ns.map PyData.int)) (.tuple []) = ns.isEmpty := by
  cases ns <;> simp [PyData.eqv, PyData.eqvAll]
theorem eqv_lst_nil (ds : List PyData) : PyData.eqv (.list ds) (.list []) = ds.isEmpty := by
  cases ds <;> simp [PyData.eqv, PyData.eqvAll]
theorem shaped_nilT : SeqAt.shaped (.tuple []) = true := shaped_tup (by simp [PyData.canLayAll0]) (by simp [PyData.depthAll])
theorem shaped_nilL : SeqAt.shaped (.list []) = true := shaped_lst (by simp [PyData.canLayAll0]) (by simp [PyData.depthAll])
theorem all_map {α : Type} (f : α → Bool) : ∀ xs : List α, (xs.map f).all id = xs.all f
  | [] => rfl
  | x :: xs => by simp [all_map f xs]
/-! ### an instance of Program -/
def PrgAt (K : PySem.W.Frag) (H : Hp) (p : Addr) (rows : List Row) : Prop := ∃ dx fs l t ss, H p = some (.ins (aP K) dx fs) ∧ fs.lookup ("written" : Str) = some (.ref l) ∧ fs.lookup ("steps" : Str) = some (.ref t) ∧ H l = some (.tup (rows.map fun r => V.str r.text)) ∧ H t = some (.tup ss) ∧
  Paired (fun v r => ∃ a, v = V.ref a ∧ H a = some (.tup r.step)) ss rows
theorem PrgAt.same {K : PySem.W.Frag} {H H' : Hp} {p : Addr} {rows : List Row} (e : Same H H') (h : PrgAt K H p rows) : PrgAt K H' p rows := by
  obtain ⟨dx, fs, l, t, ss, h1, h2, h3, h4, h5, h6⟩ := h
  exact ⟨dx, fs, l, t, ss, e _ _ h1, h2, h3, e _ _ h4, e _ _ h5, Paired.mapP h6 fun v r ⟨a, ev, ha⟩ => ⟨a, ev, e _ _ ha⟩⟩
theorem paired_get {α β : Type} {F : α → β → Prop} : ∀ {xs : List α} {ys : List β} {i : Nat} {y : β}, Paired F xs ys → ys[i]? = some y → ∃ x, xs[i]? = some x ∧ F x y
  | _, _, i, y, .nil, h => by simp at h
  | _, _, 0, y, .cons r _, h => by
    simp at h
    subst h
    exact ⟨_, rfl, r⟩
  | _, _, i + 1, y, .cons _ t, h => by
    obtain ⟨x, h1, h2⟩ := paired_get (i := i) (y := y) t (by simpa using h)
    exact ⟨x, by simpa using h1, h2⟩
def spLen (K : PySem.W.Frag) : Sp := fun vs H Q _ => ∃ p rows, vs = [.ref p] ∧ PrgAt K H p rows ∧ Q (.int (rows.length : Nat)) H
section
variable {P : Program} {w : World} {K : PySem.W.Frag} {mg : Str → Option Value} {base : Heap}
theorem sc___len__ : FnScope ["self"] ["self"] (defScope s___len__) := ⟨rfl, rfl, rfl, by decide +kernel, rfl, by decide +kernel, by decide +kernel⟩
theorem ok___len__ (T : Tx w K mg) {f : Addr} {fd : FuncData} (F : Fun K "__len__" "Program.__len__" s___len__ f fd) (b : Binds K fd ["self"] []) : FnR P w K mg base CX0 1 f (spLen K) := by
  have ok : FnOk P w K mg base CX0 1 f fd ["self"] (spLen K) := by
    refine F.ok sc___len__ (fun vs H Q E h => ?_) (fun cdv A outer s H vs Q E hr h => ?_)
    · obtain ⟨p, rows, rfl, _⟩ := h
      rfl
    · obtain ⟨p, rows, rfl, hp, q⟩ := h
      obtain ⟨dx, fs, l, t, ss, h1, h2, h3, h4, h5, h6⟩ := hp
      refine ⟨_, (pss_one (ps_ret (pe_callB call_len_seq (by rfl) T.z_len boot_len' (pa_cons (pe_fld (pv 0) rfl) pa_nil)))), ?_⟩
      walk_at "x"
      refine ⟨p, aP K, dx, fs, .ref l, rfl, h1, T.clP, T.nW, h2, ?_⟩
      walk_at "x"
      refine ⟨l, _, rfl, .inr (SqT.of h4), ?_⟩
      rw [List.length_map]
      exact q
  exact FnR.imp (FnOk.raw ok b .nil) fun vs H Q E h => by
    rw [List.append_nil]
    exact h
theorem x_lenP {H : Hp} {Q : VK} {p : Addr} {rows : List Row} (h : PrgAt K H p rows) (hl : rows.length ≤ 8) (q : Q (.int (rows.length : Nat)) H) : rLenO (aP K) (spLen K) [.ref p] H Q := by
  obtain ⟨dx, fs, l, t, ss, h1, h2⟩ := id h
  exact ⟨p, dx, fs, _, rfl, h1, ⟨by omega, by omega⟩, p, rows, rfl, h, rfl, q⟩
/-- the facts of a method -/
def HasLen (P : Program) (w : World) (K : PySem.W.Frag) (mg : Str → Option Value) (base : Heap) : Prop := FnR P w K mg base CX0 1 (He.ma K (aP K) "__len__") (spLen K)
/-! ### is_spot -/
def seqT : Option HO → Option (List V)
  | some (.tup xs) => some xs
  | _ => none
def tupOf (H : Hp) : V → Option (List V)
  | .ref a => seqT (H a)
  | _ => none
def spotB (n : Nat) : Option (List V) → Bool
  | some [x0, x1, x2, x3] => btw x0 0 ((n : Int) - 1) && [isI x0, isI x1, isI x2, isI x3].all id
  | _ => false
/-- a value that may stand in a certificate -/
def PItem (H : Hp) (v : V) : Prop := Kd H v ∧ ∀ xs, tupOf H v = some xs → xs.length < 100 ∧ ∀ x ∈ xs, Kd H x
theorem isT_tup {H : Hp} {v : V} : isT H v = (tupOf H v).isSome := by
  cases v with
  | ref a =>
    show (match H a with | some (.tup _) => true | _ => false) = (seqT (H a)).isSome
    cases H a with
    | none => rfl
    | some o => cases o <;> rfl
  | _ => rfl
theorem seqT_some {o : Option HO} {xs : List V} (h : seqT o = some xs) : o = some (.tup xs) := by
  cases o with
  | none => cases h
  | some o =>
    cases o with
    | tup ys =>
      cases h
      rfl
    | _ => cases h
theorem tupOf_some {H : Hp} {v : V} {xs : List V} (h : tupOf H v = some xs) : ∃ a, v = .ref a ∧ H a = some (.tup xs) := by
  cases v with
  | ref a => exact ⟨a, rfl, seqT_some h⟩
  | _ => cases h
theorem tupOf_same {H H' : Hp} {v : V} {xs : List V} (e : Same H H') (h : tupOf H v = some xs) : tupOf H' v = some xs := by
  obtain ⟨a, rfl, ha⟩ := tupOf_some h
  show seqT (H' a) = some xs
  rw [e _ _ ha]
  rfl
theorem spotB_len {n : Nat} {xs : List V} (h : xs.length ≠ 4) : spotB n (some xs) = false := by
  match xs, h with
  | [], _ => rfl
  | [_], _ => rfl
  | [_, _], _ => rfl
  | [_, _, _], _ => rfl
  | [_, _, _, _], h => exact absurd rfl h
  | _ :: _ :: _ :: _ :: _ :: _, _ => rfl
def spIsSpot (K : PySem.W.Frag) : Sp := fun vs H Q _ => ∃ p rows v, vs = [.ref p, v] ∧ PrgAt K H p rows ∧ rows.length ≤ 8 ∧ PItem H v ∧ ∀ H', Same H H' → Q (.bl (spotB rows.length (tupOf H v))) H'
theorem sc_is_spot : FnScope ["program", "value", "each"] ["program", "value"] (defScope s_is_spot) := ⟨rfl, rfl, rfl, by decide +kernel, rfl, by decide +kernel, by decide +kernel⟩
theorem ok_is_spot (T : Tx w K mg) (B : HasDef K mg "is_spot" s_is_spot ["program", "value"]) (L : HasLen P w K mg base) (D_is_integer : Def P w K mg base "is_integer" 1 ["value"] spIsInt) (D_is_between : Def P w K mg base "is_between" 2 ["value", "least", "most"] spBtw) :
    Def P w K mg base "is_spot" 3 ["program", "value"] (spIsSpot K) := by
  refine Def.mk B sc_is_spot (fun vs H Q E h => ?_) (fun f cdv A outer s H vs Q E hr h => ?_)
  · obtain ⟨p, rows, v, rfl, _⟩ := h
    rfl
  · obtain ⟨p, rows, v, rfl, hp, hl, hv, q⟩ := h
    refine ⟨_, (pss_cons (ps_if (PW.pt (pw_or (pt_not (pt_val (pe_callB call_isi (by rfl) T.z_isinstance boot_isinstance' (pa_cons (pv 1) (pa_cons (pe_bltn (by rfl) T.z_tuple boot_tuple' (v := .ty "tuple") rfl) pa_nil))))) (pw_or (pt_cmpR op_ne (pe_callB call_len_seq (by rfl) T.z_len boot_len' (pa_cons (pv 1) pa_nil)) pe_int (nomark _)) (pw_or1 (pt_not (pt_val (pe_d D_is_between hr (pa_cons (pe_ix ix_tup (pv 1) pe_int (fun _ _ => rfl)) (pa_cons pe_int (pa_cons (pe_op op_sub (pe_callB (call_len_own T.lnP L (hr.mono (by decide))) (by rfl) T.z_len boot_len' (pa_cons (pv 0) pa_nil)) pe_int) pa_nil)))))))))) (pss_one (ps_ret pe_bl)) pss_nil)
      (pss_one (ps_ret (pe_callB (cr_all rfl) (by rfl) T.z_all boot_all' (pa_cons (pe_lc (own := [("each", 2)]) (by rfl) sc_is_spot.nd (pi_tup (pv 1)) (blkOk_by (N := ["program", "value", "each"]) (sc := defScope s_is_spot) (by decide +kernel)) (fun _ _ _ _ _ => (pg_name (i := 2) sc_is_spot.nd rfl (Or.inl rfl))) (fun _ _ _ _ _ => pts_nil) (fun _ _ _ _ _ => (pe_d D_is_integer hr (pa_cons (pv 2) pa_nil)))) pa_nil))))), ?_⟩
    walk_at "x"
    refine x_isTup hv.1 ?_
    walk_at "x"
    rw [isT_tup]
    cases ht : tupOf H v with
    | none =>
      rw [ht] at q
      walk_at "x"
      exact q H (Same.refl _)
    | some xs =>
      rw [ht] at q
      obtain ⟨a, rfl, ha⟩ := tupOf_some ht
      obtain ⟨hz, hks⟩ := hv.2 xs ht
      refine x_F rfl ?_
      walk_at "x"
      refine ⟨a, xs, rfl, .inr (SqT.of ha), ?_⟩
      walk_at "x"
      refine x_TF (fun h1 => ?_) (fun h1 => ?_)
      · -- another length
        have hne : xs.length ≠ 4 := fun e => by
          have : (V.int (xs.length : Int)) = V.int 4 := by rw [e]; rfl
          rw [decide_eq_true this] at h1
          cases h1
        walk_at "x"
        have e : spotB rows.length (some xs) = false := spotB_len hne
        rw [e] at q
        exact q H (Same.refl _)
      · have h4 : xs.length = 4 := by
          by_cases e : (xs.length : Int) = 4
          · omega
          · have : ¬ V.int (xs.length : Int) = V.int 4 := fun z => e (V.int.inj z)
            rw [decide_eq_false this] at h1
            cases h1
        obtain ⟨x0, x1, x2, x3, rfl⟩ : ∃ x0 x1 x2 x3, xs = [x0, x1, x2, x3] := by
          match xs, h4 with
          | [x0, x1, x2, x3], _ => exact ⟨x0, x1, x2, x3, rfl⟩
        walk_at "x"
        refine x_lenP hp hl ?_
        walk_at "x"
        refine ⟨x0, 0, _, rfl, hks x0 (by simp), ?_⟩
        walk_at "x"
        have q : ∀ H', Same H H' → Q (.bl (btw x0 0 ((rows.length : Int) - 1) && [isI x0, isI x1, isI x2, isI x3].all id)) H' := q
        cases hb : btw x0 0 ((rows.length : Int) - 1) with
        | false =>
          try rw [hb] at q
          rw [Bool.false_and] at q
          walk_at "x"
          exact q H (Same.refl _)
        | true =>
          try rw [hb] at q
          rw [Bool.true_and] at q
          walk_at "x"
          refine lcT_go (fun i _ l => l = ([x0, x1, x2, x3].take i).map fun x => V.bl (isI x)) (SqT.of ha) (by show 4 < sizeLine; decide) rfl (fun _ _ _ _ _ h => h) (fun x => rfl) (fun i x H' l hi e hli hG KT KF kT kF => ?_) (fun D H' l nD e hD hG => ?_)
          · walk_at "x"
            refine ⟨x, rfl, (hks x (List.mem_of_getElem? hi)).same e, kT _ _ (Same.refl _) ?_⟩
            rw [hG]
            match i, hi with
            | 0, hi => simp at hi; subst hi; rfl
            | 1, hi => simp at hi; subst hi; rfl
            | 2, hi => simp at hi; subst hi; rfl
            | 3, hi => simp at hi; subst hi; rfl
          · walk_at "x"
            refine ⟨D, [isI x0, isI x1, isI x2, isI x3], rfl, SqL.of (hD.trans (by rw [hG]; rfl)), q H' e⟩
end
end K48
namespace K48
open PySem PySem.Spec PyProof.Rows L2
local macro_rules | `(tactic| walk_at "hg") => `(tactic| first | assumption | exact upd_same | (apply get_keep; assumption; walk_at "hg") | (apply get_same; assumption; walk_at "hg") | (apply get_mut; assumption; walk_at "hg"))
local macro_rules | `(tactic| walk_at "sq") => `(tactic| first | assumption | (apply SqT.of; walk_at "hg") | (apply SqL.of; walk_at "hg") | (apply same_t; assumption; walk_at "sq") | (apply Same.seq; assumption; walk_at "sq"))
local macro_rules | `(tactic| walk_at "sc") => `(tactic| first | omega | decide | assumption | (unfold CMul; omega) | (unfold CDiv; omega))
local macro_rules | `(tactic| walk_at "x1") => `(tactic| first
  | with_reducible refine x_seq ?_
  | with_reducible refine x_var (by with_unfolding_all rfl) ?_
  | with_reducible refine x_c ?_
  | with_reducible refine x_op ?_
  | with_reducible refine x_rI0 ?_
  | with_reducible refine x_bl ?_
  | with_reducible refine x_rEq (by with_unfolding_all rfl) ?_
  | with_reducible refine x_rNe (by with_unfolding_all rfl) ?_
  | with_reducible refine x_asg ?_
  | with_reducible refine x_gname ?_
  | with_reducible refine x_gcons ?_
  | with_reducible refine x_gnil ?_
  | with_reducible refine x_ret ?_
  | with_reducible refine x_drop ?_
  | with_reducible refine x_next ?_
  | with_reducible refine x_cont ?_
  | with_reducible refine x_brk ?_
  | with_reducible refine x_ifS ?_
  | with_reducible refine x_ifE ?_
  | with_reducible refine x_cons ?_
  | with_reducible refine x_nil ?_
  | with_reducible refine x_test ?_
  | with_reducible refine x_tB ?_
  | with_reducible refine x_and ?_
  | with_reducible refine x_or ?_
  | with_reducible refine x_not ?_
  | with_reducible refine x_andV ?_
  | with_reducible refine x_orV ?_
  | with_reducible refine x_notV ?_
  | with_reducible refine x_chain ?_
  | with_reducible refine x_par ?_
  | with_reducible refine x_two ?_
  | with_reducible refine x_un ?_
  | with_reducible refine x_rU ?_
  | with_reducible refine x_cb ?_
  | with_reducible refine x_call ?_
  | with_reducible refine x_sl ?_
  | with_reducible refine x_nopart ?_
  | with_reducible refine x_part ?_
  | with_reducible refine x_int ?_
  | with_reducible refine x_tup ?_
  | with_reducible refine x_lst ?_
  | with_reducible refine x_bm ?_
  | with_reducible refine x_fld ?_
  | with_reducible refine x_chain3 ?_
  | with_reducible refine x_yes ?_
  | with_reducible refine x_lcT ?_
  | with_reducible refine x_lcL ?_
  | ((with_reducible apply x_ixT); (focus (walk_at "sq"; done)); (focus (with_unfolding_all rfl; done)))
  | ((with_reducible apply x_ixL); (focus (walk_at "sq"; done)); (focus (with_unfolding_all rfl; done)))
  | ((with_reducible apply x_gtup); (focus (walk_at "sq"; done)); (focus (with_unfolding_all rfl; done)))
  | ((with_reducible apply x_glst); (focus (walk_at "sq"; done)); (focus (with_unfolding_all rfl; done)))
  | with_reducible refine x_F dn_int ?_
  | with_reducible refine x_F dn_ref ?_
  | with_reducible refine x_T dn_non ?_
  | with_reducible refine x_T (by decide +kernel) ?_
  | with_reducible refine x_F (by decide +kernel) ?_)
local macro_rules | `(tactic| walk_at "sz") => `(tactic| first | (exact Nat.le_of_ble_eq_true rfl) | decide | omega)
local macro_rules | `(tactic| walk_at "x") => `(tactic| ((walk_at "x1"); repeat (walk_at "x1")))
theorem take_snoc {α : Type} {xs : List α} {i : Nat} {x : α} (h : xs[i]? = some x) : xs.take (i + 1) = xs.take i ++ [x] := by
  rw [List.take_add_one, h]
  rfl
theorem map_get {α β : Type} {f : α → β} {xs : List α} {i : Nat} {y : β} (h : (xs.map f)[i]? = some y) : ∃ x, xs[i]? = some x ∧ y = f x := by
  rw [List.getElem?_map] at h
  cases e : xs[i]? with
  | none => rw [e] at h; cases h
  | some x => rw [e] at h; exact ⟨x, rfl, (Option.some.inj h).symm⟩
theorem dV_int (a b : Int) : decide (V.int a = V.int b) = decide (a = b) := by
  by_cases h : a = b
  · subst h; simp
  · rw [decide_eq_false h, decide_eq_false (fun e => h (V.int.inj e))]
theorem dV_str (a b : Str) : decide (V.str a = V.str b) = decide (a = b) := by
  by_cases h : a = b
  · subst h; simp
  · rw [decide_eq_false h, decide_eq_false (fun e => h (V.str.inj e))]
def roadB (n : Nat) : List Int → Bool
  | [] => false
  | r0 :: rest => (r0 :: rest).all (fun r => btw (.int r) 0 ((n : Int) - 1)) && decide (r0 = 0)
section
variable {P : Program} {w : World} {K : PySem.W.Frag} {mg : Str → Option Value} {base : Heap}
def spIsCourse (K : PySem.W.Frag) : Sp := fun vs H Q _ => ∃ p rows c road, vs = [.ref p, .ref c] ∧ PrgAt K H p rows ∧ rows.length ≤ 8 ∧ H c = some (.tup (road.map V.int)) ∧ road.length < 100000 ∧ ∀ H', Same H H' → Q (.bl (roadB rows.length road)) H'
theorem sc_is_course : FnScope ["program", "course", "row"] ["program", "course"] (defScope s_is_course) := ⟨rfl, rfl, rfl, by decide +kernel, rfl, by decide +kernel, by decide +kernel⟩
theorem ok_is_course (T : Tx w K mg) (B : HasDef K mg "is_course" s_is_course ["program", "course"]) (L : HasLen P w K mg base) (D_is_between : Def P w K mg base "is_between" 2 ["value", "least", "most"] spBtw) :
    Def P w K mg base "is_course" 3 ["program", "course"] (spIsCourse K) := by
  refine Def.mk B sc_is_course (fun vs H Q E h => ?_) (fun f cdv A outer s H vs Q E hr h => ?_)
  · obtain ⟨p, rows, c, road, rfl, _⟩ := h
    rfl
  · obtain ⟨p, rows, c, road, rfl, hp, hl, hc, hz, q⟩ := h
    refine ⟨_, (pss_cons (ps_if (PW.pt (pw_or (pt_not (pt_val (pe_callB call_isi (by rfl) T.z_isinstance boot_isinstance' (pa_cons (pv 1) (pa_cons (pe_bltn (by rfl) T.z_tuple boot_tuple' (v := .ty "tuple") rfl) pa_nil))))) (pw_or1 (pt_cmpR (op_eqD hr.units) (pv 1) (pe_tup pa_nil) (nomark _))))) (pss_one (ps_ret pe_bl)) pss_nil)
      (pss_one (ps_ret (pe_and (pe_callB (cr_all rfl) (by rfl) T.z_all boot_all' (pa_cons (pe_lc (own := [("row", 2)]) (by rfl) sc_is_course.nd (pi_tup (pv 1)) (blkOk_by (N := ["program", "course", "row"]) (sc := defScope s_is_course) (by decide +kernel)) (fun _ _ _ _ _ => (pg_name (i := 2) sc_is_course.nd rfl (Or.inl rfl))) (fun _ _ _ _ _ => pts_nil) (fun _ _ _ _ _ => (pe_d D_is_between hr (pa_cons (pv 2) (pa_cons pe_int (pa_cons (pe_op op_sub (pe_callB (call_len_own T.lnP L (hr.mono (by decide))) (by rfl) T.z_len boot_len' (pa_cons (pv 0) pa_nil)) pe_int) pa_nil)))))) pa_nil)) (pe_one (pe_cmpR op_eq (pe_ix ix_tup (pv 1) pe_int (fun _ _ => rfl)) pe_int (nomark _))))))), ?_⟩
    walk_at "x"
    refine x_isTup (.inr ⟨_, hc⟩) ?_
    walk_at "x"
    have ht : isT H (.ref c) = true := by rw [isT_tup]; show (seqT (H c)).isSome = true; rw [hc]; rfl
    rw [ht]
    walk_at "x"
    refine ⟨Nat.zero_le _, fun p1 n1 => ?_⟩
    have e1 : Same H (upd H p1 (.tup [])) := same_new (Same.refl _) n1
    refine ⟨.tuple (road.map PyData.int), .tuple [], .tup (SqT.of (e1 _ _ hc)) (dp_ints road), .tup (SqT.of upd_same) .nil, shaped_tup (lay_ints road) (Nat.le_trans (depth_ints road) (by decide)), shaped_nilT, ?_⟩
    rw [eqv_ints_nil]
    walk_at "x"
    cases road with
    | nil =>
      walk_at "x"
      exact q _ e1
    | cons r0 rest =>
      refine x_F rfl ?_
      walk_at "x"
      refine lcT_go (fun i _ l => l = ((r0 :: rest).take i).map fun r => V.bl (btw (.int r) 0 ((rows.length : Int) - 1))) (SqT.of (e1 _ _ hc)) (by rw [List.length_map]; exact Nat.lt_of_lt_of_le hz (by decide)) rfl (fun _ _ _ _ _ h => h) (fun x => rfl) (fun i x H' l hi e hli hG KT KF kT kF => ?_) (fun D H' l nD e hD hG => ?_)
      · obtain ⟨r, hr2, rfl⟩ := map_get hi
        walk_at "x"
        refine x_lenP ((hp.same e1).same e) hl ?_
        walk_at "x"
        refine ⟨.int r, 0, _, rfl, True.intro, kT _ _ (Same.refl _) ?_⟩
        rw [hG, take_snoc hr2, List.map_append]
        rfl
      · walk_at "x"
        refine ⟨D, (r0 :: rest).map fun r => btw (.int r) 0 ((rows.length : Int) - 1), rfl, SqL.of (hD.trans (by rw [hG, List.length_map, List.take_length, List.map_map]; rfl)), ?_⟩
        rw [all_map]
        walk_at "x"
        have q : Q (.bl (((r0 :: rest).all fun r => btw (.int r) 0 ((rows.length : Int) - 1)) && decide (r0 = 0))) H' := q H' (e1.trans e)
        refine x_TF (fun h1 => ?_) (fun h1 => ?_)
        · rw [h1, Bool.true_and] at q
          walk_at "x"
          refine x_ixT (xs := (r0 :: rest).map V.int) (SqT.of (e _ _ (e1 _ _ hc))) (at_of (j := 0) rfl rfl) ?_
          walk_at "x"
          rw [dV_int]
          exact q
        · rw [h1, Bool.false_and] at q
          exact q
end
end K48
namespace K48
open PySem PySem.Spec PyProof.Rows L2
local macro_rules | `(tactic| walk_at "hg") => `(tactic| first | assumption | exact upd_same | (apply get_keep; assumption; walk_at "hg") | (apply get_same; assumption; walk_at "hg") | (apply get_mut; assumption; walk_at "hg"))
local macro_rules | `(tactic| walk_at "sq") => `(tactic| first | assumption | (apply SqT.of; walk_at "hg") | (apply SqL.of; walk_at "hg") | (apply same_t; assumption; walk_at "sq") | (apply Same.seq; assumption; walk_at "sq"))
local macro_rules | `(tactic| walk_at "sc") => `(tactic| first | omega | decide | assumption | (unfold CMul; omega) | (unfold CDiv; omega))
local macro_rules | `(tactic| walk_at "x1") => `(tactic| first
  | with_reducible refine x_seq ?_
  | with_reducible refine x_var (by with_unfolding_all rfl) ?_
  | with_reducible refine x_c ?_
  | with_reducible refine x_op ?_
  | with_reducible refine x_rI0 ?_
  | with_reducible refine x_bl ?_
  | with_reducible refine x_rEq (by with_unfolding_all rfl) ?_
  | with_reducible refine x_rNe (by with_unfolding_all rfl) ?_
  | with_reducible refine x_asg ?_
  | with_reducible refine x_gname ?_
  | with_reducible refine x_gcons ?_
  | with_reducible refine x_gnil ?_
  | with_reducible refine x_ret ?_
  | with_reducible refine x_drop ?_
  | with_reducible refine x_next ?_
  | with_reducible refine x_cont ?_
  | with_reducible refine x_brk ?_
  | with_reducible refine x_ifS ?_
  | with_reducible refine x_ifE ?_
  | with_reducible refine x_cons ?_
  | with_reducible refine x_nil ?_
  | with_reducible refine x_test ?_
  | with_reducible refine x_tB ?_
  | with_reducible refine x_and ?_
  | with_reducible refine x_or ?_
  | with_reducible refine x_not ?_
  | with_reducible refine x_andV ?_
  | with_reducible refine x_orV ?_
  | with_reducible refine x_notV ?_
  | with_reducible refine x_chain ?_
  | with_reducible refine x_par ?_
  | with_reducible refine x_two ?_
  | with_reducible refine x_un ?_
  | with_reducible refine x_rU ?_
  | with_reducible refine x_cb ?_
  | with_reducible refine x_call ?_
  | with_reducible refine x_sl ?_
  | with_reducible refine x_nopart ?_
  | with_reducible refine x_part ?_
  | with_reducible refine x_int ?_
  | with_reducible refine x_tup ?_
  | with_reducible refine x_lst ?_
  | with_reducible refine x_bm ?_
  | with_reducible refine x_fld ?_
  | with_reducible refine x_chain3 ?_
  | with_reducible refine x_yes ?_
  | with_reducible refine x_lcT ?_
  | with_reducible refine x_lcL ?_
  | ((with_reducible apply x_ixT); (focus (walk_at "sq"; done)); (focus (with_unfolding_all rfl; done)))
  | ((with_reducible apply x_ixL); (focus (walk_at "sq"; done)); (focus (with_unfolding_all rfl; done)))
  | ((with_reducible apply x_gtup); (focus (walk_at "sq"; done)); (focus (with_unfolding_all rfl; done)))
  | ((with_reducible apply x_glst); (focus (walk_at "sq"; done)); (focus (with_unfolding_all rfl; done)))
  | with_reducible refine x_F dn_int ?_
  | with_reducible refine x_F dn_ref ?_
  | with_reducible refine x_T dn_non ?_
  | with_reducible refine x_T (by decide +kernel) ?_
  | with_reducible refine x_F (by decide +kernel) ?_)
local macro_rules | `(tactic| walk_at "sz") => `(tactic| first | (exact Nat.le_of_ble_eq_true rfl) | decide | omega)
local macro_rules | `(tactic| walk_at "x") => `(tactic| ((walk_at "x1"); repeat (walk_at "x1")))
/-! ### a course followed within bounds -/
def rowAt (rows : List Row) (i : Int) : Row := rows.getD i.toNat .again
def runTo (rows : List Row) (n : Int) : Spot → List Int → Option Spot
  | s, [] => some s
  | s, r :: rest => match (next (rowAt rows s.1) n s).filter (fun t => decide (t.1 = r)) with
    | [] => none
    | t :: _ => if bnd n t.2.1 t.2.2.1 t.2.2.2 = true then runTo rows n t rest else none
theorem rowAt_get {rows : List Row} {i : Int} (h0 : 0 ≤ i) (h1 : i < rows.length) : rows[i.toNat]? = some (rowAt rows i) := by
  unfold rowAt
  rw [List.getD_eq_getElem?_getD]
  have h : i.toNat < rows.length := by omega
  rw [List.getElem?_eq_getElem h]
  rfl
theorem bnd_out {n a b w : Int} (h : bnd n a b w = true) : -(8 * n) ≤ a ∧ a < b ∧ b ≤ 8 * n + 1 ∧ -(8 * n) ≤ w ∧ w ≤ 8 * n := by
  unfold bnd at h
  simp only [Bool.and_eq_true, decide_eq_true_eq] at h
  omega
theorem road_all {m : Nat} {road : List Int} (h : roadB m road = true) {r : Int} (hr : r ∈ road) : 0 ≤ r ∧ r < m := by
  cases road with
  | nil => cases h
  | cons r0 rest =>
    have h : (((r0 :: rest).all fun r => btw (.int r) 0 ((m : Int) - 1)) && decide (r0 = 0)) = true := h
    obtain ⟨h1, _⟩ := Bool.and_eq_true_iff.mp h
    have := List.all_eq_true.mp h1 r hr
    have : (decide (0 ≤ r) && decide (r ≤ (m : Int) - 1)) = true := this
    simp only [Bool.and_eq_true, decide_eq_true_eq] at this
    omega
theorem road_zero {m : Nat} {road : List Int} (h : roadB m road = true) : ∃ rest, road = 0 :: rest := by
  cases road with
  | nil => cases h
  | cons r0 rest =>
    have h : (((r0 :: rest).all fun r => btw (.int r) 0 ((m : Int) - 1)) && decide (r0 = 0)) = true := h
    have := of_decide_eq_true (Bool.and_eq_true_iff.mp h).2
    exact ⟨rest, by rw [this]⟩
theorem filter_snoc {α : Type} {p : α → Bool} {xs : List α} {i : Nat} {x : α} (h : xs[i]? = some x) : (xs.take (i + 1)).filter p = (xs.take i).filter p ++ (if p x = true then [x] else []) := by
  rw [take_snoc h, List.filter_append]
  congr 1
  by_cases hp : p x = true
  · rw [if_pos hp, List.filter_cons_of_pos hp]; rfl
  · rw [if_neg hp, List.filter_cons_of_neg hp]; rfl
theorem SpotsAt.tups {H H' : Hp} {xs : List V} {ss : List Spot} (e : TupSame H H') (h : SpotsAt H xs ss) : SpotsAt H' xs ss := Paired.mapP h fun v s ⟨a, ev, ha⟩ => ⟨a, ev, e _ _ ha⟩
theorem SpotsAt.getR {H : Hp} : ∀ {xs : List V} {ss : List Spot} {i : Nat} {x : V}, SpotsAt H xs ss → xs[i]? = some x → ∃ a s, x = .ref a ∧ ss[i]? = some s ∧ H a = some (.tup (spV s))
  | _, _, i, x, .nil, h => by simp at h
  | _, _, 0, x, .cons (b := b) ⟨a, ev, ha⟩ _, h => by
    simp at h
    subst h
    exact ⟨a, b, ev, rfl, ha⟩
  | _, _, i + 1, x, .cons _ t, h => by
    obtain ⟨a, s, h1, h2, h3⟩ := SpotsAt.getR (i := i) (x := x) t (by simpa using h)
    exact ⟨a, s, h1, by simpa using h2, h3⟩
section
variable {K : PySem.W.Frag} {H : Hp} {Q : VK} {a : Addr} {x0 x1 x2 x3 : V}
theorem x_sl4 (h : H a = some (.tup [x0, x1, x2, x3])) (q : ∀ p, H p = none → Q (.ref p) (upd H p (.tup [x1, x2, x3]))) : rSlA K (.ref a) (some 1) none H Q :=
  ⟨a, [x0, x1, x2, x3], rfl, SqT.of h, fun h => absurd (show (1 : Nat) = 0 from h.1) (by decide), fun _ p np => q p np⟩
end
section
variable {P : Program} {w : World} {K : PySem.W.Frag} {mg : Str → Option Value} {base : Heap}
theorem x_rng1 {ta : TA} {σ : L2.St} {H : Hp} {R : It → Hp → Prop} (h : ta σ H fun vs H1 => ∃ j : Int, vs = [.int j] ∧ -(2 ^ 62) ≤ j ∧ j < 2 ^ 62 ∧ R (Itr 0 j.toNat) H1) : iRng1 ta σ H R := h
theorem PrgAt.row {H : Hp} {p : Addr} {rows : List Row} (h : PrgAt K H p rows) {i : Int} (h0 : 0 ≤ i) (h1 : i < rows.length) : ∃ dx fs t ss a, H p = some (.ins (aP K) dx fs) ∧ fs.lookup ("steps" : Str) = some (.ref t) ∧ H t = some (.tup ss) ∧ atI ss i = some (.ref a) ∧ H a = some (.tup (rowAt rows i).step) := by
  obtain ⟨dx, fs, l, t, ss, h1', h2, h3, h4, h5, h6⟩ := h
  obtain ⟨x, hx, a, ev, ha⟩ := paired_get h6 (rowAt_get h0 h1)
  subst ev
  exact ⟨dx, fs, t, ss, a, h1', h3, h5, at_of (j := i.toNat) (by omega) hx, ha⟩
def spStretch (K : PySem.W.Frag) : Sp := fun vs H Q _ => ∃ p rows n full c road, vs = [.ref p, .int n, .int full, .ref c] ∧ PrgAt K H p rows ∧ rows.length ≤ 8 ∧ (1 ≤ n ∧ n ≤ 10 ^ 30) ∧ (1 ≤ full ∧ full ≤ 2 * n) ∧ H c = some (.tup (road.map V.int)) ∧ road.length < 100000 ∧ roadB rows.length road = true ∧
  match runTo rows n (0, 0, full, full) (road.drop 1) with
  | none => ∀ H', Same H H' → Q .non H'
  | some s => ∀ t H', Same H H' → H' t = some (.tup [.int s.2.1, .int s.2.2.1, .int s.2.2.2]) → Q (.ref t) H'
theorem sc_stretch_of : FnScope ["program", "number", "full", "course", "spot", "at", "row", "later", "place"] ["program", "number", "full", "course"] (defScope s_stretch_of) := ⟨rfl, rfl, rfl, by decide +kernel, rfl, by decide +kernel, by decide +kernel⟩
theorem ok_stretch_of (T : Tx w K mg) (B : HasDef K mg "stretch_of" s_stretch_of ["program", "number", "full", "course"]) (D_behind : Def P w K mg base "behind" 3 ["step", "row", "number", "spot"] spBehind) (D_is_bounded : Def P w K mg base "is_bounded" 1 ["number", "spot"] spBnd) :
    Def P w K mg base "stretch_of" 4 ["program", "number", "full", "course"] (spStretch K) := by
  refine Def.mk B sc_stretch_of (fun vs H Q E h => ?_) (fun f cdv A outer s H vs Q E hr h => ?_)
  · obtain ⟨p, rows, n, full, c, road, rfl, _⟩ := h
    rfl
  · obtain ⟨p, rows, n, full, c, road, rfl, hp, hl, hn, hf, hc, hz, hroad, q⟩ := h
    refine ⟨_, (pss_cons (ps_set (i := 4) sc_stretch_of.nd rfl (Or.inl rfl) (pe_tup (pa_cons pe_int (pa_cons (pv 2) (pa_cons (pv 2) pa_nil)))))
      (pss_cons (ps_for PassesOwn.never (by rfl) (pi_range1 (by rfl) T.z_range (pa_cons (pe_op op_sub (pe_callB call_len_seq (by rfl) T.z_len boot_len' (pa_cons (pv 3) pa_nil)) pe_int) pa_nil)) (pg_name (i := 5) sc_stretch_of.nd rfl (Or.inr rfl))
      (pss_cons (ps_set (i := 6) sc_stretch_of.nd rfl (Or.inl rfl) (pe_ix ix_tup (pv 3) (pv 5) (fun _ _ => rfl)))
      (pss_cons (ps_setLc (i := 7) (own := [("place", 8)]) (by rfl) sc_stretch_of.nd rfl rfl (sw_true rfl rfl rfl (by decide +kernel)) (pi_list (pe_d D_behind hr (pa_cons (pe_ix ix_tup (pe_fld (pv 0) rfl) (pv 6) (fun _ _ => rfl)) (pa_cons (pv 6) (pa_cons (pv 1) (pa_cons (pv 4) pa_nil)))))) (blkOk_by (N := ["program", "number", "full", "course", "spot", "at", "row", "later", "place"]) (sc := defScope s_stretch_of) (by decide +kernel)) (fun _ _ _ _ _ => (pg_name (i := 8) sc_stretch_of.nd rfl (Or.inl rfl))) (fun _ _ _ _ _ => (pts_one (pt_cmpR op_eq (pe_ix (r := rIxT K) ix_tup (pv 8) pe_int (fun _ _ => rfl)) (pe_ix (r := rIxT K) ix_tup (pv 3) (pe_op op_add (pv 5) pe_int) (fun _ _ => rfl)) (nomark _)))) (fun _ _ _ _ _ => (pv 8)))
      (pss_cons (ps_if (PW.pt (pw_or (pt_cmpR (op_eqD hr.units) (pv 7) (pe_lst pa_nil) (nomark _)) (pw_or1 (pt_not (pt_val (pe_d D_is_bounded hr (pa_cons (pv 1) (pa_cons (pe_slice sl_tupA (pe_ix ix_list (pv 7) pe_int (fun _ _ => rfl)) (po_some pe_int) po_none) pa_nil)))))))) (pss_one (ps_ret pe_non)) pss_nil)
      (pss_one (ps_set (i := 4) sc_stretch_of.nd rfl (Or.inl rfl) (pe_slice sl_tupA (pe_ix ix_list (pv 7) pe_int (fun _ _ => rfl)) (po_some pe_int) po_none)))))))
      (pss_one (ps_ret (pv 4))))), ?_⟩
    obtain ⟨rest, rfl⟩ := road_zero hroad
    have q : match runTo rows n (0, 0, full, full) rest with
      | none => ∀ H', Same H H' → Q .non H'
      | some s => ∀ t H', Same H H' → H' t = some (.tup [.int s.2.1, .int s.2.2.1, .int s.2.2.2]) → Q (.ref t) H' := q
    walk_at "x"
    refine ⟨by walk_at "sz", fun p1 n1 => ?_⟩
    walk_at "x"
    show iRng1 _ _ _ _
    refine x_rng1 ?_
    walk_at "x"
    refine ⟨c, _, rfl, .inr (SqT.of (get_keep n1 hc)), ?_⟩
    walk_at "x"
    have hz2 : rest.length < 100000 := by
      rw [List.length_cons] at hz
      omega
    refine ⟨_, rfl, by simp only [List.length_map, List.length_cons]; omega, by simp only [List.length_map, List.length_cons]; omega, ?_⟩
    have elen : ((((0 :: rest).map V.int).length : Int) - 1).toNat = rest.length := by simp only [List.length_map, List.length_cons]; omega
    rw [elen]
    refine for_range (lo := 0) (n := rest.length) (fun i σ H' => ∃ (s : Spot) (t : Addr) (v5 v6 v7 v8 : Option V), σ = [some (.ref p), some (.int n), some (.int full), some (.ref c), some (.ref t), v5, v6, v7, v8] ∧ Same H H' ∧ H' t = some (.tup [.int s.2.1, .int s.2.2.1, .int s.2.2.2]) ∧
      (0 :: rest)[i]? = some s.1 ∧ (-(8 * n) ≤ s.2.2.2 ∧ s.2.2.2 ≤ 8 * n) ∧ runTo rows n (0, 0, full, full) rest = runTo rows n s (rest.drop i)) ⟨(0, 0, full, full), p1, none, none, none, none, rfl, same_new (Same.refl _) n1, upd_same, rfl, by simp only; omega, rfl⟩ (fun i σ H' hi hP => ?_) (fun σ H' hP => ?_)
    · obtain ⟨s, t, v5, v6, v7, v8, rfl, e, ht, hi2, hw, hrun⟩ := hP
      obtain ⟨h10, h11⟩ := road_all hroad (List.mem_of_getElem? hi2)
      obtain ⟨dx, fs, tt, ss, a, k1, k2, k3, k4, k5⟩ := (hp.same e).row h10 h11
      have e0 : (0 : Int) + (i : Int) = (i : Int) := Int.zero_add _
      rw [e0]
      walk_at "x"
      have hcm : ((0 :: rest).map V.int)[i]? = some (.int s.1) := by rw [List.getElem?_map, hi2]; rfl
      refine x_ixT (SqT.of (e _ _ hc)) (atI_nat hcm) ?_
      walk_at "x"
      refine ⟨p, aP K, dx, fs, .ref tt, rfl, k1, T.clP, T.nS, k2, ?_⟩
      walk_at "x"
      refine x_ixT (SqT.of k3) k4 ?_
      walk_at "x"
      refine ⟨a, t, rowAt rows s.1, s.1, n, s.2.1, s.2.2.1, s.2.2.2, rfl, k5, ht, hn, hw, fun p2 H2 xs e2 n2 h2 hs2 => ?_⟩
      have hs2 : SpotsAt H2 xs (next (rowAt rows s.1) n s) := hs2
      have hi3 : ∃ r, rest[i]? = some r := ⟨rest[i], List.getElem?_eq_getElem hi⟩
      obtain ⟨r, hr3⟩ := hi3
      have hcm2 : ((0 :: rest).map V.int)[i + 1]? = some (.int r) := by rw [List.getElem?_map, List.getElem?_cons_succ, hr3]; rfl
      have hd : rest.drop i = r :: rest.drop (i + 1) := by
        obtain ⟨hlt, he⟩ := List.getElem?_eq_some_iff.mp hr3
        rw [List.drop_eq_getElem_cons hlt, he]
      generalize hN : next (rowAt rows s.1) n s = N at hs2
      have hNl : N.length ≤ 2 := by rw [← hN]; exact next_two _ _ _
      refine lcL_go (fun i H l => SpotsAt H l ((N.take i).filter fun t => decide (t.1 = r))) (SqL.of h2) (by rw [hs2.len]; exact Nat.lt_of_le_of_lt hNl (by decide)) .nil (fun _ _ _ _ ts h => h.tups ts) (fun x => rfl) (fun j x H3 l hj e3 hlj hG KT KF kT kF => ?_) (fun D H3 l nD e3 hD hG => ?_)
      · obtain ⟨b, u, rfl, hu, hb⟩ := hs2.getR hj
        have hb3 : H3 b = some (.tup [.int u.1, .int u.2.1, .int u.2.2.1, .int u.2.2.2]) := e3 _ _ hb
        walk_at "x"
        refine x_ixT (SqT.of (e3 _ _ (e2 _ _ (e _ _ hc)))) (at_of (j := i + 1) (by omega) hcm2) ?_
        walk_at "x"
        rw [dV_int]
        have hsn := filter_snoc (p := fun t : Spot => decide (t.1 = r)) hu
        refine x_TF (fun h1 => ?_) (fun h1 => ?_)
        · walk_at "x"
          refine kT _ _ (Same.refl _) ?_
          rw [hsn, if_pos h1]
          exact SpotsAt.snoc hG (e3 _ _ hb)
        · refine kF _ (Same.refl _) ?_
          rw [hsn, if_neg (by rw [h1]; exact Bool.false_ne_true), List.append_nil]
          exact hG
      · have hG : SpotsAt H3 l (N.filter fun t => decide (t.1 = r)) := by
          rw [hs2.len, List.take_length] at hG
          exact hG
        have eH3 : Same H H3 := (e.trans e2).trans e3
        walk_at "x"
        refine ⟨Nat.zero_le _, fun p4 n4 => ?_⟩
        have e4 : Same H3 (upd H3 p4 (.lst [])) := same_new (Same.refl _) n4
        refine ⟨.list ((N.filter fun t => decide (t.1 = r)).map spD), .list [], .lst (SqL.of (e4 _ _ hD)) (dp_spots (hG.same e4)), .lst (SqL.of upd_same) .nil, shaped_lst (lay_spots _) (Nat.le_trans (depth_spots _) (by decide)), shaped_nilL, ?_⟩
        rw [eqv_lst_nil]
        have hstep : runTo rows n s (rest.drop i) = match N.filter (fun t => decide (t.1 = r)) with
          | [] => none
          | t :: _ => if bnd n t.2.1 t.2.2.1 t.2.2.2 = true then runTo rows n t (rest.drop (i + 1)) else none := by
          rw [hd, ← hN]
          rfl
        walk_at "x"
        cases hF : N.filter (fun t => decide (t.1 = r)) with
        | nil =>
          rw [hrun, hstep, hF] at q
          walk_at "x"
          exact q _ (eH3.trans e4)
        | cons u us =>
          rw [hF] at hG hstep
          have hu : u.1 = r := by
            have : u ∈ N.filter (fun t => decide (t.1 = r)) := by rw [hF]; exact List.mem_cons_self
            exact of_decide_eq_true (List.mem_filter.mp this).2
          obtain ⟨b, hb1, hb2⟩ := hG.get (i := 0) (s := u) rfl
          have hb4 : upd H3 p4 (.lst []) b = some (.tup [.int u.1, .int u.2.1, .int u.2.2.1, .int u.2.2.2]) := e4 _ _ hb2
          refine x_F rfl ?_
          walk_at "x"
          refine x_ixL (SqL.of (e4 _ _ hD)) (at_of (j := 0) rfl hb1) ?_
          walk_at "x"
          refine x_sl4 hb4 fun p5 n5 => ?_
          have e5 : Same (upd H3 p4 (.lst [])) (upd (upd H3 p4 (.lst [])) p5 (.tup [.int u.2.1, .int u.2.2.1, .int u.2.2.2])) := same_new (Same.refl _) n5
          walk_at "x"
          refine ⟨p5, n, u.2.1, u.2.2.1, u.2.2.2, rfl, upd_same, ?_⟩
          walk_at "x"
          cases hbb : bnd n u.2.1 u.2.2.1 u.2.2.2 with
          | false =>
            have hstep : runTo rows n s (rest.drop i) = none := by rw [hstep]; simp only [hbb]; rfl
            rw [hrun, hstep] at q
            walk_at "x"
            exact q _ ((eH3.trans e4).trans e5)
          | true =>
            have hstep : runTo rows n s (rest.drop i) = runTo rows n u (rest.drop (i + 1)) := by rw [hstep]; simp only [hbb]; rfl
            obtain ⟨o1, o2, o3, o4, o5⟩ := bnd_out hbb
            walk_at "x"
            refine x_ixL (SqL.of (e5 _ _ (e4 _ _ hD))) (at_of (j := 0) rfl hb1) ?_
            walk_at "x"
            refine x_sl4 (e5 _ _ hb4) fun p6 n6 => ?_
            walk_at "x"
            refine ⟨u, p6, _, _, _, _, rfl, same_new ((eH3.trans e4).trans e5) n6, upd_same, ?_, ⟨o4, o5⟩, hrun.trans hstep⟩
            rw [List.getElem?_cons_succ, hr3, hu]
    · obtain ⟨s, t, v5, v6, v7, v8, rfl, e, ht, hi2, hw, hrun⟩ := hP
      rw [List.drop_length] at hrun
      have hrun : runTo rows n (0, 0, full, full) rest = some s := hrun
      rw [hrun] at q
      walk_at "x"
      exact q t H' e ht
end
end K48
/-! own rules: enumerate over a tuple, dicts with tuples for keys: made by a comprehension, by a display, by dict(pairs) -/
namespace K48
open PySem PySem.Spec PyProof.Rows L2
/-! ### enumerate of a tuple -/
section
open AutoSeq1 (wpAny_loadPart')
set_option maxHeartbeats 1000000 in
theorem meets_enum_one {v : Value} {o : Obj} {H : Heap → Prop} (B : Begins v o H) :
    Meets (Builtin.«enumerate.__new__» ⟨[.type "enumerate", v], []⟩) (fun _ R s => H s.heap ∧
      R (.ok (.ret (.ref (s.heap.push o).objs.size))) { s with heap := (s.heap.push o).push { cls := .type "enumerate", data := .fields #[.none, .bool false, .ref s.heap.objs.size, rawInt 0, .none, .none] } }) :=
  .of_wp fun prog w A R s h => by
    obtain ⟨hp, g, d, tk, os⟩ := s
    obtain ⟨h1, h⟩ := h
    have hsub := sub_enumerate
    have it : ∀ {A' : Around} {E : Value → Shared → Prop} {Q : Value → Shared → Prop}, Q (.ref hp.objs.size) ⟨hp.push o, g, d, tk, os⟩ → wpAny (model prog w) A' (pyIter v) Q E ⟨hp, g, d, tk, os⟩ :=
      fun q => B.iter prog w _ _ ⟨hp, g, d, tk, os⟩ _ h1 q
    wp_walk using it
    refine wpAny_stack_any fun st => wpAny_pure ?_
    split
    · rename_i c _ _ _ _ _
      cases (c == Value.type "enumerate") <;> (wp_walk using it; exact ⟨_, rfl, h⟩)
    · wp_walk using it
      exact ⟨_, rfl, h⟩
end
section
variable {prog : Program} {w : World} {A : Around} {E : Value → Shared → Prop} {s : Shared}
theorem call_enum_one {v : Value} {o : Obj} {H : Heap → Prop} {Q : Value → Shared → Prop} (B : Begins v o H) (h1 : H s.heap)
    (h : ∀ h', IsEnum h' (s.heap.objs.size + 1) s.heap.objs.size 0 .none → h'.get? s.heap.objs.size = some o →
      (∀ b o, s.heap.get? b = some o → h'.get? b = some o) → Q (.ref (s.heap.objs.size + 1)) { s with heap := h' }) :
    wpAny (model prog w) A (call (.type "enumerate") [v]) Q E s := by
  refine callType_new PySem.F.called_enumerate (by decide) (PySem.F.typeCall_enumerate_1 _) (PySem.F.newCall_enumerate_1 _) (fun obj => PySem.F.args_object_init_2 obj _) PySem.F.entry_enumerate_new (meets_enum_one B) ⟨h1, ?_⟩
  have hz : (s.heap.push o).objs.size = s.heap.objs.size + 1 := Heap.size_push ..
  show _ ∧ _
  rw [hz]
  have he : IsEnum ((s.heap.push o).push { cls := .type "enumerate", data := .fields #[.none, .bool false, .ref s.heap.objs.size, rawInt 0, .none, .none] }) (s.heap.objs.size + 1) s.heap.objs.size 0 .none := by
    have e := Heap.get?_push_size (s.heap.push o) (o := { cls := .type "enumerate", data := .fields #[.none, .bool false, .ref s.heap.objs.size, rawInt 0, .none, .none] }) rfl
    rw [hz] at e
    exact e
  exact ⟨⟨_, he, rfl⟩, h _ he (Heap.get?_push_of_some _ (Heap.get?_push_size _ B.free)) fun b o x => Heap.get?_push_of_some _ (Heap.get?_push_of_some _ x)⟩
end
/-- the tuple at a, each item in a new pair with its index -/
def EnT (K : PySem.W.Frag) (a : Addr) : It :=
  ⟨fun i H => ∃ (xs : List V) (x : V), SqT K H a xs ∧ xs[i]? = some x, fun i H v H' => ∃ T x, v = .ref T ∧ H T = none ∧ H' = upd H T (.tup [.int (i : Nat), x]) ∧ ∀ xs, SqT K H a xs → xs[i]? = some x, fun i H => ∃ xs : List V, SqT K H a xs ∧ xs.length = i⟩
theorem turn_enT {P : Program} {w : World} {K : PySem.W.Frag} {elts : List Expr} {kk : Nat} {tpos : Pos} (a e it : Addr) :
    Turn P w K (.Tuple elts kk tpos) (EnT K a) [e, it] e (fun i h => (∃ old, IsEnum h e it ((i : Nat) : Int) old) ∧ h.IsTupleIter it a i ∧ e ≠ it ∧ it ≠ a ∧ e ≠ a) where
  mem := List.mem_cons_self
  obj := fun i h st b hb => by
    obtain ⟨⟨old, he⟩, ⟨o, ho, hc, hd⟩, _⟩ := st
    rcases List.mem_cons.mp hb with z | z
    · rw [z]
      exact ⟨_, he, fun v q => nomatch q⟩
    · rw [List.mem_singleton.mp z]
      exact ⟨o, ho, fun v q => by rw [hd] at q; cases q⟩
  keep := fun i h h' st k => let ⟨⟨old, he⟩, hi, n1, n2, n3⟩ := st; ⟨⟨old, k e (by simp) _ he⟩, hi.at fun o q => k it (by simp) o q, n1, n2, n3⟩
  item := by
    intro X hP hw hK hc i pins s σ H E I hf st hg
    subst hP hw hK
    obtain ⟨⟨old, he⟩, hit, n1, n2, n3⟩ := st
    obtain ⟨xs, x, hq, hx⟩ := hg
    obtain ⟨its, rv, p, hz⟩ := I.tuple hq
    obtain ⟨u, hu, ru⟩ := rv.get hx
    have hel : e < s.heap.objs.size := Heap.lt_size he
    have hil : it < s.heap.objs.size := by obtain ⟨_, q, _⟩ := hit; exact Heap.lt_size q
    have hlt : i < its.toArray.size := by
      have := (List.getElem?_eq_some_iff.mp hu).1
      simpa using this
    refine wpAny_pyNext_enum_itemD (Draws.tuple (A := X.A.in1) (I.ok.hd hc) it a n2.symm its.toArray) he ⟨hit, p⟩ hlt n1 (by simp [n1, n3]) fun y h' tk hy ho hs' hT hsz hk => ?_
    have ey : y = u := by
      have e1 : its[i]? = some y := by simpa using hy
      rw [hu] at e1
      exact (Option.some.inj e1).symm
    subst ey
    refine ⟨_, rfl, wpAny_letOwnedTupleGo_enum (s := { s with heap := h', toks := tk + 1 }) ho fun h'' he' sb => ?_⟩
    have hT2 : h''.get? s.heap.objs.size = some { cls := .type "tuple", data := .seq #[.int i tk, y] } := (sb.2 _ (Nat.ne_of_gt hel)).trans hT
    have new : ObjOk X.prog X.w (upd H s.heap.objs.size (.tup [.int (i : Nat), x])) h'' s.heap.objs.size (.tup [.int (i : Nat), x]) :=
      ⟨by show 2 ≤ sizeLine; decide, [.int i tk, y], .cons ⟨_, rfl⟩ (.cons ru .nil), ⟨_, hT2, rfl, _, rfl⟩⟩
    have I1 : Inv X pins σ (upd H s.heap.objs.size (.tup [.int (i : Nat), x])) { s with heap := h'', toks := tk + 1 } :=
      I.turnedNew (ch := [e, it]) (fun b ob hb q => (sb.2 b (fun z => hb (by simp [z]))).trans (hk b ob (fun z => hb (by simp [z])) (fun z => hb (by simp [z])) q)) hf (Nat.le_refl _) new
    refine ⟨.ref s.heap.objs.size, _, I1, rfl, ⟨_, x, rfl, I.hok.fresh (Nat.le_refl _), rfl, fun ys hy => by rw [I.tuple_inj hy hq]; exact hx⟩, ⟨⟨y, ?_⟩, hs'.1.at fun o q => (sb.2 it (Ne.symm n1)).trans q, n1, n2, n3⟩, fun b hb => ?_⟩
    · have e1 : ((i + 1 : Nat) : Int) = (i : Int) + 1 := by omega
      rw [e1]
      exact he'
    · have hb' : b < s.heap.objs.size := by
        rcases List.mem_cons.mp hb with z | z
        · rw [z]; exact hel
        · rw [List.mem_singleton.mp z]; exact hil
      rw [upd_ne (Nat.ne_of_lt hb')]
      exact (hf b hb).1
  done := by
    intro X hP hw hK hc i pins s σ H E I hf st hg
    subst hP hw hK
    obtain ⟨⟨old, he⟩, hit, n1, n2, n3⟩ := st
    obtain ⟨xs, hq, hx⟩ := hg
    obtain ⟨its, rv, p, hz⟩ := I.tuple hq
    obtain ⟨f0, f1, f2, f3, f4, f5⟩ := hf it (by simp)
    have hl := rv.length
    have D := Draws.tuple (prog := X.prog) (w := X.w) (A := X.A.in1) (I.ok.hd hc) it a n2.symm its.toArray
    have en : i = its.toArray.size := by
      rw [← hx]
      simpa using hl
    subst en
    exact wpAny_pyNext_enum_endD D he ⟨hit, p⟩ fun h' eb => ⟨rfl, I.turned (t' := s.toks) (fun b o hb e => eb b o hb e) f0 f1 f3 f4 f5⟩
  self := fun A i s Q E st h => let ⟨⟨_, he⟩, _⟩ := st; wpAny_pyIter_enum he h
def iEnT (K : PySem.W.Frag) (ta : TA) : TI := fun σ H R => ta σ H fun vs H1 => ∃ a xs, vs = [.ref a] ∧ SqT K H1 a xs ∧ R (EnT K a) H1
/-- of a list or of a tuple -/
def iEnS (K : PySem.W.Frag) (ta : TA) : TI := fun σ H R => ta σ H fun vs H1 => ∃ a xs, vs = [.ref a] ∧ ((SqT K H1 a xs ∧ R (EnT K a) H1) ∨ (SqL K H1 a xs ∧ R (Ite K a) H1))
section
variable {X : Cx} {e : Expr} {ta : TA} {p pos tpos : Pos} {elts : List Expr} {kk : Nat}
theorem enum_made {pins : List (Addr × Obj)} {σ : L2.St} {H : Hp} {s : Shared} {a : Addr} {xs : List V} {R : It → Hp → Prop} (I : Inv X pins σ H s) (hq : SqT X.K H a xs) (q : R (EnT X.K a) H) :
    wpAny (model X.prog X.w) X.A (call (.type "enumerate") [.ref a]) (fun v s1 => wpAny (model X.prog X.w) X.A (pyIter v) (PIE X pins σ (.Tuple elts kk tpos) R) X.xe s1) X.xe s := by
  obtain ⟨its, rv, p', hz⟩ := I.tuple hq
  obtain ⟨ob, hob, _⟩ := id p'
  have hlt : a < s.heap.objs.size := Heap.lt_size hob
  refine call_enum_one (begins_tuple a its.toArray) p' fun h' he hit hk => wpAny_pyIter_enum he ?_
  have I2 : Inv X pins σ H { s with heap := h' } := I.kept (t' := s.toks) hk
  refine ⟨s.heap.objs.size + 1, [s.heap.objs.size + 1, s.heap.objs.size], _, _, H, rfl, I2, turn_enT a (s.heap.objs.size + 1) s.heap.objs.size, ⟨⟨.none, he⟩, ⟨_, hit, rfl, rfl⟩, Nat.succ_ne_self _, Nat.ne_of_gt hlt, Nat.ne_of_gt (Nat.lt_succ_of_lt hlt)⟩, fun b hb => ?_, q⟩
  have hle : s.heap.objs.size ≤ b := by
    rcases List.mem_cons.mp hb with z | z
    · rw [z]; exact Nat.le_add_right _ _
    · rw [List.mem_singleton.mp z]; exact Nat.le_refl _
  exact I.fpOk hle (I.hok.fresh hle)
theorem pi_enT (hg : Gl X "enumerate") (hm : X.mg "enumerate" = none) (ha : PA X [e] ta) (hs : starEach [e] X.env = [(false, eval e X.env)] := by rfl) :
    PI X (.Tuple elts kk tpos) (.Call (.Name "enumerate" p) [e] [] pos) (iEnT X.K ta) := by
  refine ⟨fun pins s σ H R I h => ?_⟩
  refine Call_ (ld_blt I hg hm boot_enumerate (PyProof.Rows.callWith_type1 (thn (ha.run pos pins s σ H _ I h) fun us s1 ⟨vs, H1, I1, r1, q1⟩ => ?_) hs rfl))
  obtain ⟨a, xs, ex, hq, q⟩ := q1
  subst ex
  cases r1 with
  | cons r rr =>
    cases rr
    cases r
    exact enum_made I1 hq q
theorem pi_enS (hg : Gl X "enumerate") (hm : X.mg "enumerate" = none) (ha : PA X [e] ta) (hs : starEach [e] X.env = [(false, eval e X.env)] := by rfl) :
    PI X (.Tuple elts kk tpos) (.Call (.Name "enumerate" p) [e] [] pos) (iEnS X.K ta) := by
  refine ⟨fun pins s σ H R I h => ?_⟩
  refine Call_ (ld_blt I hg hm boot_enumerate (PyProof.Rows.callWith_type1 (thn (ha.run pos pins s σ H _ I h) fun us s1 ⟨vs, H1, I1, r1, q1⟩ => ?_) hs rfl))
  obtain ⟨a, xs, ex, hq⟩ := q1
  subst ex
  cases r1 with
  | cons r rr =>
    cases rr
    cases r
    rcases hq with ⟨hq, q⟩ | ⟨hq, q⟩
    · exact enum_made I1 hq q
    · obtain ⟨its, rv, p', hz⟩ := I1.list hq
      refine call_enumerate_list p'.isList fun h' he hit hsz hk => wpAny_pyIter_enum he ?_
      have I2 : Inv X pins σ H1 { s1 with heap := h' } := I1.kept (t' := s1.toks) hk
      refine ⟨s1.heap.objs.size + 1, [s1.heap.objs.size + 1, s1.heap.objs.size], _, _, H1, rfl, I2, turn_enum a (s1.heap.objs.size + 1) s1.heap.objs.size, ⟨⟨.none, he⟩, hit, Nat.succ_ne_self _⟩, fun b hb => ?_, q⟩
      have hle : s1.heap.objs.size ≤ b := by
        rcases List.mem_cons.mp hb with z | z
        · rw [z]; exact Nat.le_add_right _ _
        · rw [List.mem_singleton.mp z]; exact Nat.le_refl _
      exact I1.fpOk hle (I1.hok.fresh hle)
end
/-! ### dicts with tuples for keys -/
section
variable {X : Cx}
theorem d_putT {pins : List (Addr × Obj)} {σ : L2.St} {H : Hp} {s : Shared} {E : Value → Shared → Prop} {D b : Addr} {kvs : List (List L2.Key × V)} {k : List L2.Key} {v : V} {r : Value} {Q : Unit → Shared → Prop} {A : Around} (hu : A.units < cLine) (I : Inv X pins σ H s)
    (hD : H D = some (.dT kvs)) (hz : kvs.length < sizeLine) (eb : H b = some (.tup (k.map kV))) (rv : RelV v r) (h : ∀ s', Inv X pins σ (upd H D (.dT (putK kvs k v))) s' → Q () s') : wpAny (model X.prog X.w) A (dictSet D (.ref b) r) Q E s := by
  obtain ⟨z, hd, xs, rel, dd⟩ := dt_of I.hok hD
  have hl : (putK kvs k v).length ≤ sizeLine := by have := length_putK kvs k v; omega
  refine wpAny_dictSet_heap (hsz := by rw [← Paired.length rel]; exact z) (knd := tupleKind (mixKind X.prog X.w)) hu (key_of I.hok eb) dd fun h' dd' hs => h _ ?_
  obtain ⟨q, es, ep, hq, h2, h3, h4, _, h5⟩ := dd'
  refine d_write I (by rw [hD]; exact True.intro) hs ⟨q, hq⟩ ⟨hl, hd, _, (rel.put k eb rv).keeps fun c ys ec => ?_, q, es, ep, hq, h2, h3, h4, h5⟩
  exact (upd_ne (ne_of ec hD (fun z => nomatch z))).trans ec
/-- {t: v} of one tuple: the new dict stands empty while the pair is made -/
def tOneT (tk tv : TE) : TE := fun σ H Q => ∀ p, H p = none → tk σ (upd H p (.dT [])) fun x H1 => tv σ H1 fun y H2 => ∃ b k, x = .ref b ∧ H2 b = some (.tup (List.map kV k)) ∧ H2 p = some (.dT []) ∧ Q (.ref p) (upd H2 p (.dT [(k, y)]))
theorem pe_oneT {ke ve : Expr} {tk tv : TE} {pos : Pos} (hu : X.A.units < cLine) (hk : PE X ke tk) (hv : PE X ve tv) : PE X (.Dict [some ke] [ve] pos) (tOneT tk tv) := by
  refine ⟨fun pins s σ H Q I h => ?_⟩
  have hn := I.hok.fresh (Nat.le_refl s.heap.objs.size)
  have I1 := I.laid (a := s.heap.objs.size) (o := .dT []) (h' := s.heap.push { cls := .type "dict", data := .dict #[] }) (t' := s.toks) (fun _ _ q => Heap.get?_push_of_some _ q) (Nat.le_refl _) (dt_empty s.heap I.big)
  refine wpAny_Dict_any rfl rfl (by simp) (by simp) (pairTrees_cons_walk (thn (hk.run pins _ σ _ _ I1 (h _ hn)) fun u s1 ⟨x, H1, I2, rx, q1⟩ => thn (hv.run pins s1 σ H1 _ I2 q1) fun r s2 ⟨y, H2, I3, ry, b, k, ex, eb, eD, q⟩ => pairTrees_nil_walk ?_))
  subst ex
  cases (show u = Value.ref b from rx)
  unfold storeAll
  rw [List.forIn_cons]
  refine wpAny_bind (wpAny_bind (d_putT hu I3 eD (by rw [sizeLine_eq]; decide) eb ry fun s3 I4 => wpAny_pure ?_))
  show wpAny _ _ (forIn [] _ _) _ _ _
  rw [List.forIn_nil]
  refine wpAny_pure ⟨.ref s.heap.objs.size, _, I4, rfl, ?_⟩
  exact q
/-- {k: v for target in iter}, tuples for keys: D the new dict -/
def tDcT (wi : TI) (g : TG) (tk tv : TE) (vs : List Nat) : TE := fun σ H Q => wi σ H fun J H1 => ∀ D, H1 D = none → ∃ W : Nat → Nat → Hp → Prop, (∃ m, W 0 m (upd H1 D (.dT []))) ∧ ∀ i m H, W i m H →
  (J.stop i H ∧ Q (.ref D) H) ∨ (J.go i H ∧ ∀ x H', J.yld i H x H' → g x (wipe σ vs) H' fun σ2 H2 => wipe σ2 vs = wipe σ vs ∧ tk σ2 H2 fun y H3 => tv σ2 H3 fun z H4 =>
    ∃ kvs k b, y = .ref b ∧ H4 b = some (.tup (List.map kV k)) ∧ H4 D = some (.dT kvs) ∧ kvs.length < sizeLine ∧ ∃ m', m' < m ∧ W (i + 1) m' (upd H4 D (.dT (putK kvs k z))))
theorem pe_dcT {kx vx tg iter : Expr} {scope : Scope} {own : List (Str × Nat)} {pos : Pos} {wi : TI} {g : TG} {tk tv : TE} (hc : X.calm = true) (hu : X.A.units < cLine) (hN : X.N.Nodup) (hi : PI X tg iter wi) (ok : BlkOk X.N X.env.scope scope own)
    (hg : ∀ (s : Shared) (H : Hp) (C : Addr) (cl : List (Str × Addr)) (fp : List Addr), PG (X.blk s H scope (compEnvC scope cl C X.env) fp) tg g)
    (hk : ∀ (s : Shared) (H : Hp) (C : Addr) (cl : List (Str × Addr)) (fp : List Addr), PE (X.blk s H scope (compEnvC scope cl C X.env) fp) kx tk)
    (hv : ∀ (s : Shared) (H : Hp) (C : Addr) (cl : List (Str × Addr)) (fp : List Addr), PE (X.blk s H scope (compEnvC scope cl C X.env) fp) vx tv) (hs : ∀ x, foldedSetIterable iter X.env x = pure x := by intro _; rfl) :
    PE X (.DictComp kx vx [⟨tg, iter, [], 0⟩] scope pos) (tDcT wi g tk tv (own.map (·.2))) := by
  refine ⟨fun pins s σ H Q I h => ?_⟩
  rw [arm_eval_DictComp]
  have hfree : ∀ y ∈ scope.names, y.2 = .free → ∃ c, X.env.cells.lookup y.1 = some c := fun y hy e => (ok.free y hy e).elim (fun k => I.ok.has _ (.inl k)) fun k => I.ok.has _ (.inr k)
  refine wpAny_comprehension_free rfl hs (closure_ok hfree) ok.kind (fun y hy e => by rw [ok.uniq y hy, e]) (thn (hi.run pins s σ H _ I h) fun xv s1 hx => thn hx fun itv s2 ⟨it, fp, tn, J, H2, e, I2, T, st2, f2, q⟩ => ?_)
  subst e
  refine wpAny_newObj_type (newEnv_comp ?_)
  generalize hD : s2.heap.objs.size = D
  have hDn : H2 D = none := I2.hok.fresh (Nat.le_of_eq hD)
  obtain ⟨W, ⟨m0, w0⟩, turn⟩ := q D hDn
  generalize hH3 : upd H2 D (.dT []) = H3 at w0
  generalize h3 : ({ s2 with heap := s2.heap.push { cls := .type "dict", data := .dict #[] } } : Shared) = s3
  have e3 : s3.heap = s2.heap.push { cls := .type "dict", data := .dict #[] } := by rw [← h3]
  have I3 : Inv X pins σ H3 s3 := by
    rw [← h3, ← hH3, ← hD]
    exact I2.laid (t' := s2.toks) (fun b o e => Heap.get?_push_of_some _ e) (Nat.le_refl _) (dt_empty s2.heap I2.big)
  have f3 : ∀ b ∈ fp, FpOk X pins H3 b ∧ b < s3.heap.objs.size := fun b hb => by
    obtain ⟨o, e, _⟩ := T.obj _ _ st2 b hb
    have hlt : b < s2.heap.objs.size := Heap.lt_size e
    refine ⟨⟨?_, (f2 b hb).2⟩, by rw [e3, Heap.size_push]; exact Nat.lt_succ_of_lt hlt⟩
    rw [← hH3, upd_ne (by rw [← hD]; exact Nat.ne_of_lt hlt)]
    exact (f2 b hb).1
  have st3 : tn 0 s3.heap := T.keep _ _ _ st2 fun b _ o e => by rw [e3]; exact Heap.get?_push_of_some _ e
  have I4 := block_start I3 ok hN f3
  generalize hcl : cellsFrom (s3.heap.objs.size + 1) scope.names (cloFrom X.env.cells scope.names []) = cl at I4 ⊢
  have pg := hg s3 H3 s3.heap.objs.size cl fp
  have pk := hk s3 H3 s3.heap.objs.size cl fp
  have pv := hv s3 H3 s3.heap.objs.size cl fp
  show codeAny _ _ (.compStart (.DictComp kx vx [⟨tg, iter, [], 0⟩] scope pos) 0 (.ref it) (.ref D) (compEnvC scope cl s3.heap.objs.size X.env)) _ { s3 with heap := pushCells (s3.heap.push { cls := .type "dict", data := .dict #[] }) scope.names }
  generalize hce : compEnvC scope cl s3.heap.objs.size X.env = ce at I4 pg pk pv ⊢
  have cL : ce.locals = s3.heap.objs.size := by subst hce; rfl
  generalize h4 : ({ s3 with heap := pushCells (s3.heap.push { cls := .type "dict", data := .dict #[] }) scope.names } : Shared) = s4 at I4 ⊢
  have st4 : tn 0 s4.heap := T.keep _ _ _ st3 fun b _ o e => by rw [← h4]; exact pushCells_keeps _ _ _ _ (Heap.get?_push_of_some _ e)
  have stat : ∀ {σ' : L2.St} {H' : Hp} {s' : Shared}, Inv (X.blk s3 H3 scope ce fp) [] σ' H' s' → (∀ b ∈ fp, H' b = none) → ∀ b ∈ fp, FpOk (X.blk s3 H3 scope ce fp) [] H' b := fun {σ' H' s'} I' hn b hb =>
    ⟨hn b hb, (I'.ok.exf b hb).1, I'.ok.exfs b hb, .inl hb, fun x c e => (I'.ok.exf b hb).2 x c e, fun p hp => absurd (show p ∈ ([] : List (Addr × Obj)) ++ [] from hp) (by simp)⟩
  refine codeAny_compStart_dict ?loop (T.self X.A 0 _ _ _ st4 ?loop)
  refine compLoop_anyD (fun n s' => ∃ i H', Inv (X.blk s3 H3 scope ce fp) [] (wipe σ (own.map (·.2))) H' s' ∧ tn i s'.heap ∧ (∀ b ∈ fp, H' b = none) ∧ W i n H') ?_ m0 ⟨0, H3, I4, st4, fun b hb => (f3 b hb).1.1, w0⟩
  rintro n s5 ⟨i, H5, I5, st5, n5, w5⟩
  rcases turn i n H5 w5 with ⟨stop, qq⟩ | ⟨go, step⟩
  · refine thnF (T.done (X.blk s3 H3 scope ce fp) rfl rfl rfl hc i [] s5 _ H5 (fun _ _ => False) I5 (stat I5 n5) st5 stop) fun r s6 ⟨hr, I6⟩ => ?_
    subst hr
    have I7 : Inv X pins σ H5 s6 := I3.call' (ch := fp) I6.os I6.base I6.hok I6.bare fun b hb => ⟨(f3 b hb).1.2.2.2.1, (f3 b hb).1.2.1, (f3 b hb).1.2.2.2.2.1, (f3 b hb).1.2.2.2.2.2⟩
    have nC : H5 s3.heap.objs.size = none := by
      have z : H5 ce.locals = none := I6.free
      rw [cL] at z
      exact z
    obtain ⟨m, hn, _⟩ := I6.loc
    have hn : s6.heap.Ns ce.locals m := hn
    rw [cL] at hn
    obtain ⟨f0, f1, f2', f3', f4, f5⟩ := I3.fpOk (Nat.le_refl _) nC
    exact ⟨m, hn, fun h'' sb => ⟨.ref D, H5, I7.turned (t' := s6.toks) (fun b o hb e => (sb.2 b hb).trans e) nC f1 f3' f4 f5, rfl, qq⟩⟩
  · refine thnF (T.item (X.blk s3 H3 scope ce fp) rfl rfl rfl hc i [] s5 _ H5 (fun _ _ => False) I5 (stat I5 n5) st5 go) fun r s6 ⟨u, hr, h6⟩ => ?_
    subst hr
    refine thnF h6 fun _ s7 ⟨x, H7, I7, r7, y7, st7, n7⟩ => ?_
    have I7' := I7.pinned (stat I7 n7) (T.obj _ _ st7)
    refine thnF (pg.run _ s7 _ H7 x u _ I7' r7 (step x H7 y7)) fun _ s8 ⟨σ8, H8, I8, hw8, q8⟩ => ?_
    rw [List.forIn_nil]
    refine wpAny_pure ?_
    simp only [if_true]
    refine thnF (pk.run _ s8 σ8 H8 _ I8 q8) fun ku s9 ⟨y, H9, I9, r9, q9⟩ => ?_
    refine thnF (pv.run _ s9 σ8 H9 _ I9 q9) fun vu s10 ⟨z, H10, I10, r10, kvs, k, b, ey, eb, hD10, hz, m', hm, w'⟩ => ?_
    subst ey
    cases (show ku = Value.ref b from r9)
    refine d_putT (X := X.blk s3 H3 scope ce fp) hu I10 hD10 hz eb r10 fun s11 I11 => ?_
    have pin' : ∀ b ∈ fp, ∀ o, s7.heap.get? b = some o → s11.heap.get? b = some o ∧ (upd H10 D (.dT (putK kvs k z))) b = none := fun b hb o e =>
      let w := I11.pin (b, o) (List.mem_append_right _ (List.mem_append_right _ (mem_pinsAt hb e)))
      ⟨w.1, w.2.1⟩
    refine ⟨m', hm, i + 1, _, (I11.unpinned (pins := [])).weak (by rw [← hw8, wipe_length]) (fun j v e => ?_), T.keep _ _ _ st7 fun b hb o e => (pin' b hb o e).1, fun b hb => ?_, w'⟩
    · rw [← hw8] at e
      exact (wipe_some e).1
    · obtain ⟨o, e, _⟩ := T.obj _ _ st7 b hb
      exact (pin' b hb o e).2
/-! ### dict(pairs) -/
def mergeT (acc kvs : List (List L2.Key × V)) : List (List L2.Key × V) := kvs.foldl (fun a p => putK a p.1 p.2) acc
theorem mergeT_length : ∀ (kvs acc : List (List L2.Key × V)), (mergeT acc kvs).length ≤ acc.length + kvs.length
  | [], acc => Nat.le_refl _
  | p :: r, acc => by
    have h1 := mergeT_length r (putK acc p.1 p.2)
    have h2 := length_putK acc p.1 p.2
    show (mergeT (putK acc p.1 p.2) r).length ≤ _
    rw [List.length_cons]
    omega
theorem kt_all {H : Hp} : ∀ {kvs : List (List L2.Key × V)} {ps : List (List L2.Key × Addr × Value)} {acc : List (List L2.Key × V)} {xs : List (List L2.Key × Addr × Value)}, KT H kvs ps → KT H acc xs → KT H (mergeT acc kvs) (storedAllH xs ps)
  | _, _, acc, xs, .nil, r => r
  | _, _, acc, xs, .cons (a := p) (b := q) h t, r => by
    have e := r.put p.1 h.2.1 h.2.2
    show KT H (mergeT (putK acc p.1 p.2) _) (storedAllH (storedH xs q.1 q.2.1 q.2.2) _)
    rw [← h.1]
    exact kt_all t e
theorem pairsT_of {pins : List (Addr × Obj)} {σ : L2.St} {H : Hp} {s : Shared} (I : Inv X pins σ H s) : ∀ {ps : List Addr} {prs : List (Addr × List L2.Key × V)}, Paired (fun p q => SqT X.K H p [V.ref q.1, q.2.2] ∧ H q.1 = some (.tup (List.map kV q.2.1))) ps prs →
    ∃ qs : List (List L2.Key × Addr × Value), KT H (prs.map (·.2)) qs ∧ qs.length = ps.length ∧ ∀ (j : Nat) (q : List L2.Key × Addr × Value), qs[j]? = some q → ∃ p, ps[j]? = some p ∧ IsTup s.heap p #[.ref q.2.1, q.2.2]
  | _, _, .nil => ⟨[], .nil, rfl, fun j q e => by simp at e⟩
  | _, _, .cons (a := p) (b := pr) h t => by
    obtain ⟨qs, r, hl, hp⟩ := pairsT_of I t
    obtain ⟨its, rv, ht, _⟩ := I.tuple h.1
    obtain ⟨u, y, ei, ru, ry⟩ := vals2 rv
    subst ei
    cases (show u = Value.ref pr.1 from ru)
    refine ⟨(pr.2.1, pr.1, y) :: qs, .cons ⟨rfl, h.2, ry⟩ r, by rw [List.length_cons, List.length_cons, hl], fun j q e => ?_⟩
    cases j with
    | zero =>
      have e' : (pr.2.1, pr.1, y) = q := Option.some.inj e
      subst e'
      exact ⟨p, rfl, ht⟩
    | succ j =>
      obtain ⟨b, e1, e2⟩ := hp j q (by simpa using e)
      exact ⟨b, by simpa using e1, e2⟩
def rDictT (K : PySem.W.Frag) : List V → Hp → VK → Prop := fun xs H Q => ∃ (a : Addr) (ps : List Addr) (prs : List (Addr × List L2.Key × V)), xs = [.ref a] ∧ SqL K H a (ps.map V.ref) ∧
  Paired (fun p q => SqT K H p [V.ref q.1, q.2.2] ∧ H q.1 = some (.tup (List.map kV q.2.1))) ps prs ∧ ∀ p, H p = none → Q (.ref p) (upd H p (.dT (mergeT [] (prs.map (·.2)))))
theorem call_dictT (hcalm : X.calm = true) (hu : X.A.units + 2 < cLine) : CallR X (.type "dict") (rDictT X.K) := by
  intro pins s σ H xs us Q I r q
  obtain ⟨a, ps, prs, ex, hq, hp, q⟩ := q
  subst ex
  obtain ⟨u, eu, rx⟩ := vals1 r
  subst eu
  cases rx
  obtain ⟨its, rv, pl, hz⟩ := I.list hq
  have ei := refs_at rv
  subst ei
  rw [List.length_map] at hz
  obtain ⟨qs, rel, hl, hpr⟩ := pairsT_of I hp
  have arg := PairArg.list (prog := X.prog) (w := X.w) a (ps.map Value.ref).toArray (fun j => (ps[j]?).getD 0) (qs.map fun q => (Value.ref q.2.1, q.2.2))
  have hitems : PairItems s.heap (ps.map Value.ref).toArray (fun j => (ps[j]?).getD 0) (qs.map fun q => (Value.ref q.2.1, q.2.2)) := by
    refine ⟨by simp [hl], fun j k v e => ?_⟩
    rw [List.getElem?_map] at e
    cases eq : qs[j]? with
    | none => rw [eq] at e; cases e
    | some q =>
      rw [eq] at e
      cases e
      obtain ⟨p, e1, e2⟩ := hpr j q eq
      refine ⟨by simp [e1], .inl ?_⟩
      show s.heap.IsTuple ((ps[j]?).getD 0) _
      rw [e1]
      exact e2
  have hm : (s.heap.objs.size == sysModules) = false := beq_eq_false_iff_ne.mpr (Nat.ne_of_gt I.big)
  have key : ∀ {kvs : List (List L2.Key × V)} {ws : List (List L2.Key × Addr × Value)}, KT H kvs ws → ∀ x ∈ ws, (tupleKind (mixKind X.prog X.w)).is s.heap x.1 x.2.1 := by
    intro kvs ws r
    induction r with
    | nil => exact fun x hx => nomatch hx
    | @cons p q _ _ h t ih =>
      intro x hx
      rcases List.mem_cons.mp hx with e | hx
      · subst e
        rw [← h.1]
        exact key_of I.hok h.2.1
      · exact ih x hx
  refine call_dict_pairsH (knd := tupleKind (mixKind X.prog X.w)) (ps := qs) arg (I.ok.hd hcalm) (show X.A.in1.in1.units < cLine from hu) ⟨pl, hitems⟩ ⟨by simp, fun i k v e => ?_⟩ (fun h' hk x hx => tupleKind_stays.stays (fun b o vs n e _ => hk b o (Nat.ne_of_lt (Heap.lt_size e)) (fun z => nomatch z) e) (key rel x hx)) (by rw [List.length_map, hl]; exact hz) fun h' tk hd' hk => ?_
  · have e : (qs.map fun q => (Value.ref q.2.1, q.2.2))[i]? = some (k, v) := e
    rw [List.getElem?_map] at e
    cases eq : qs[i]? with
    | none => rw [eq] at e; cases e
    | some q =>
      rw [eq] at e
      cases e
      exact ⟨q.1, q.2.1, rfl, rfl⟩
  · have hk' : ∀ b o, s.heap.get? b = some o → h'.get? b = some o := fun b o e => hk b o (fun z => nomatch z) e
    have hlen : (mergeT [] (prs.map (·.2))).length ≤ sizeLine := by
      refine Nat.le_trans (mergeT_length _ _) ?_
      have e : (prs.map (·.2)).length = qs.length := Paired.length rel
      rw [List.length_nil, Nat.zero_add, e, hl]
      exact hz
    obtain ⟨o, es, ep, ho, h2, h3, h4, _, h5⟩ := hd'
    have hn := I.hok.fresh (Nat.le_refl s.heap.objs.size)
    exact ⟨.ref s.heap.objs.size, _, I.laid (t' := tk) hk' (Nat.le_refl _) (show ObjOk X.prog X.w _ _ _ (.dT (mergeT [] (prs.map (·.2)))) from
      ⟨hlen, hm, _, (kt_all rel .nil).keeps fun c ys ec => (upd_ne (ne_of_none ec hn)).trans ec, o, es, ep, ho, h2, h3, h4, h5⟩), rfl, q _ hn⟩
end
end K48
namespace K48
open PySem PySem.Spec PyProof.Rows L2
local macro_rules | `(tactic| walk_at "hg") => `(tactic| first | assumption | exact upd_same | (apply get_keep; assumption; walk_at "hg") | (apply get_same; assumption; walk_at "hg") | (apply get_mut; assumption; walk_at "hg"))
local macro_rules | `(tactic| walk_at "sq") => `(tactic| first | assumption | (apply SqT.of; walk_at "hg") | (apply SqL.of; walk_at "hg") | (apply same_t; assumption; walk_at "sq") | (apply Same.seq; assumption; walk_at "sq"))
local macro_rules | `(tactic| walk_at "sc") => `(tactic| first | omega | decide | assumption | (unfold CMul; omega) | (unfold CDiv; omega))
local macro_rules | `(tactic| walk_at "x1") => `(tactic| first
  | with_reducible refine x_seq ?_
  | with_reducible refine x_var (by with_unfolding_all rfl) ?_
  | with_reducible refine x_c ?_
  | with_reducible refine x_op ?_
  | with_reducible refine x_rI0 ?_
  | with_reducible refine x_bl ?_
  | with_reducible refine x_rEq (by with_unfolding_all rfl) ?_
  | with_reducible refine x_rNe (by with_unfolding_all rfl) ?_
  | with_reducible refine x_asg ?_
  | with_reducible refine x_gname ?_
  | with_reducible refine x_gcons ?_
  | with_reducible refine x_gnil ?_
  | with_reducible refine x_ret ?_
  | with_reducible refine x_drop ?_
  | with_reducible refine x_next ?_
  | with_reducible refine x_cont ?_
  | with_reducible refine x_brk ?_
  | with_reducible refine x_ifS ?_
  | with_reducible refine x_ifE ?_
  | with_reducible refine x_cons ?_
  | with_reducible refine x_nil ?_
  | with_reducible refine x_test ?_
  | with_reducible refine x_tB ?_
  | with_reducible refine x_and ?_
  | with_reducible refine x_or ?_
  | with_reducible refine x_not ?_
  | with_reducible refine x_andV ?_
  | with_reducible refine x_orV ?_
  | with_reducible refine x_notV ?_
  | with_reducible refine x_chain ?_
  | with_reducible refine x_par ?_
  | with_reducible refine x_two ?_
  | with_reducible refine x_un ?_
  | with_reducible refine x_rU ?_
  | with_reducible refine x_cb ?_
  | with_reducible refine x_call ?_
  | with_reducible refine x_sl ?_
  | with_reducible refine x_nopart ?_
  | with_reducible refine x_part ?_
  | with_reducible refine x_int ?_
  | with_reducible refine x_tup ?_
  | with_reducible refine x_lst ?_
  | with_reducible refine x_bm ?_
  | with_reducible refine x_fld ?_
  | with_reducible refine x_chain3 ?_
  | with_reducible refine x_yes ?_
  | with_reducible refine x_lcT ?_
  | with_reducible refine x_lcL ?_
  | with_reducible refine x_for ?_
  | with_reducible refine x_iT ?_
  | with_reducible refine x_iL ?_
  | with_reducible refine x_rng1 ?_
  | with_reducible refine x_rng2 ?_
  | with_reducible refine x_dcT ?_
  | with_reducible refine x_din ?_
  | with_reducible refine x_dni ?_
  | with_reducible refine x_m1 ?_
  | with_reducible refine x_sw ?_
  | with_reducible refine x_ss ?_
  | ((with_reducible apply x_ixT); (focus (walk_at "sq"; done)); (focus (with_unfolding_all rfl; done)))
  | ((with_reducible apply x_ixL); (focus (walk_at "sq"; done)); (focus (with_unfolding_all rfl; done)))
  | ((with_reducible apply x_gtup); (focus (walk_at "sq"; done)); (focus (with_unfolding_all rfl; done)))
  | ((with_reducible apply x_glst); (focus (walk_at "sq"; done)); (focus (with_unfolding_all rfl; done)))
  | with_reducible refine x_F dn_int ?_
  | with_reducible refine x_F dn_ref ?_
  | with_reducible refine x_T dn_non ?_
  | with_reducible refine x_T (by decide +kernel) ?_
  | with_reducible refine x_F (by decide +kernel) ?_)
local macro_rules | `(tactic| walk_at "sz") => `(tactic| first | (exact Nat.le_of_ble_eq_true rfl) | decide | omega)
local macro_rules | `(tactic| walk_at "x") => `(tactic| ((walk_at "x1"); repeat (walk_at "x1")))
/-! ### loops and dicts, step by step -/
def ForIt (J : It) (g : TG) (tb : TS) (D : Ends) (σ : L2.St) (H : Hp) : Prop := ∃ W : Nat → Nat → L2.St → Hp → Prop, (∃ m, W 0 m σ H) ∧ ∀ i m σ H, W i m σ H →
  (J.stop i H ∧ D.nx σ H) ∨ (J.go i H ∧ ∃ N : L2.St → Hp → Prop, (∀ σ' H', N σ' H' → ∃ m', m' < m ∧ W (i + 1) m' σ' H') ∧ ∀ x H', J.yld i H x H' → g x σ H' fun σ2 H2 => tb { D with nx := N, ct := N, bk := D.nx } σ2 H2)
section
variable {K : PySem.W.Frag} {σ : L2.St} {H : Hp} {Q : VK} {D : Ends} {wi : TI} {g : TG} {tb : TS} {tl td ty : TE} {ta : TA} {R : It → Hp → Prop} {vs : List Nat} {j : Nat}
theorem x_for (q : wi σ H fun J H1 => ForIt J g tb D σ H1) : tFor wi g tb D σ H := q
theorem x_iT (q : tl σ H fun x H1 => ∃ a, x = .ref a ∧ (∃ xs, SqT K H1 a xs) ∧ R (Itt K a) H1) : iTup K tl σ H R := q
theorem x_iL (q : tl σ H fun x H1 => ∃ a, x = .ref a ∧ (∃ xs, SqL K H1 a xs) ∧ R (Itl K a) H1) : iList K tl σ H R := q
theorem x_rng2 (q : ta σ H fun vs H1 => ∃ i j : Int, vs = [.int i, .int j] ∧ (-(2 ^ 62) ≤ i ∧ i < 2 ^ 62 ∧ -(2 ^ 62) ≤ j ∧ j < 2 ^ 62) ∧ R (Itr i (j - i).toNat) H1) : iRng2 ta σ H R := q
theorem x_din (q : ty σ H fun y H1 => td σ H1 fun x H2 => ∃ a o, x = .ref a ∧ DGet H2 a y o ∧ Q (.bl o.isSome) H2) : tDIn ty td σ H Q := q
theorem x_dni (q : ty σ H fun y H1 => td σ H1 fun x H2 => ∃ a o, x = .ref a ∧ DGet H2 a y o ∧ Q (.bl (!o.isSome)) H2) : tDNotIn ty td σ H Q := q
end
/-! ### certificates -/
def kS (s : Spot) : List L2.Key := [.inl s.1, .inl s.2.1, .inl s.2.2.1, .inl s.2.2.2]
theorem spV_kS (s : Spot) : spV s = List.map kV (kS s) := rfl
def dictOf (ss : List Spot) : List (List L2.Key × V) := mergeT [] (ss.map fun s => (kS s, V.bl true))
def kin (ss : List Spot) (s : Spot) : Bool := (valV (dictOf ss) (kS s)).isSome
theorem dictOf_snoc {ss : List Spot} {i : Nat} {s : Spot} (h : ss[i]? = some s) : dictOf (ss.take (i + 1)) = putK (dictOf (ss.take i)) (kS s) (.bl true) := by
  rw [take_snoc h]
  unfold dictOf mergeT
  rw [List.map_append, List.foldl_append]
  rfl
theorem dictOf_len (ss : List Spot) : (dictOf ss).length ≤ ss.length := by
  have := mergeT_length (ss.map fun s => (kS s, V.bl true)) []
  rw [List.length_map] at this
  simpa [dictOf] using this
section
variable {K : PySem.W.Frag} {σ : L2.St} {H : Hp} {Q : VK} {tl : TE} {vs : List Nat} {j : Nat}
def DcTup (K : PySem.W.Frag) (j : Nat) (vs : List Nat) (σ : L2.St) (Q : VK) (x : V) (H1 : Hp) : Prop := ∃ a, x = .ref a ∧ (∃ xs, SqT K H1 a xs) ∧ ∀ D, H1 D = none → ∃ W : Nat → Nat → Hp → Prop, (∃ m, W 0 m (upd H1 D (.dT []))) ∧ ∀ i m H, W i m H →
  ((Itt K a).stop i H ∧ Q (.ref D) H) ∨ ((Itt K a).go i H ∧ ∀ x H', (Itt K a).yld i H x H' → gName j x (wipe σ vs) H' fun σ2 H2 => wipe σ2 vs = wipe σ vs ∧ tVar j σ2 H2 fun y H3 => tC (.bl true) σ2 H3 fun z H4 =>
    ∃ kvs k b, y = .ref b ∧ H4 b = some (.tup (List.map kV k)) ∧ H4 D = some (.dT kvs) ∧ kvs.length < sizeLine ∧ ∃ m', m' < m ∧ W (i + 1) m' (upd H4 D (.dT (putK kvs k z))))
theorem x_dcT (q : tl σ H fun x H1 => DcTup K j vs σ Q x H1) : tDcT (iTup K tl) (gName j) (tVar j) (tC (.bl true)) vs σ H Q := q
theorem dcT_go {a : Addr} {xs : List V} {ss : List Spot} {H1 : Hp} (ha : SqT K H1 a xs) (hs : SpotsAt H1 xs ss) (hz : xs.length ≤ 100000) (hj : j < (wipe σ vs).length) (hw : ∀ x, wipe ((wipe σ vs).set j (some x)) vs = wipe σ vs)
    (q : ∀ D, H1 D = none → Q (.ref D) (upd H1 D (.dT (dictOf ss)))) : DcTup K j vs σ Q (.ref a) H1 := by
  refine ⟨a, rfl, ⟨xs, ha⟩, fun D nD => ⟨fun i m H' => m = xs.length - i ∧ i ≤ xs.length ∧ H' = upd H1 D (.dT (dictOf (ss.take i))), ⟨xs.length, rfl, Nat.zero_le _, rfl⟩, ?_⟩⟩
  rintro i m H' ⟨rfl, hi, rfl⟩
  have e : Same H1 (upd H1 D (.dT (dictOf (ss.take i)))) := same_new (Same.refl _) nD
  by_cases hlt : i < xs.length
  · refine .inr ⟨⟨xs, xs[i], same_t e ha, List.getElem?_eq_getElem hlt⟩, fun x H' y => ?_⟩
    obtain ⟨rfl, y⟩ := y
    have hx := y xs (same_t e ha)
    obtain ⟨b, s, rfl, hs2, hb⟩ := hs.getR hx
    refine ⟨hw _, .ref b, by rw [List.getElem?_set_self hj], ?_⟩
    refine ⟨_, kS s, b, rfl, e _ _ hb, upd_same, ?_, xs.length - (i + 1), by omega, rfl, hlt, ?_⟩
    · refine Nat.lt_of_le_of_lt (dictOf_len _) (Nat.lt_of_le_of_lt (by rw [List.length_take]; exact Nat.min_le_left _ _) (Nat.lt_of_lt_of_le (Nat.lt_of_lt_of_le hlt hz) (by decide)))
    · rw [upd_upd, dictOf_snoc hs2]
  · have en : i = xs.length := by omega
    subst en
    refine .inl ⟨⟨xs, same_t e ha, Nat.le_refl _⟩, ?_⟩
    rw [hs.len, List.take_length]
    exact q D nD
end
/-! ### the plain law of a claim of stuck -/
def toSpot : Option (List V) → Spot
  | some [.int a, .int b, .int c, .int d] => (a, b, c, d)
  | _ => (0, 0, 0, 0)
theorem isI_int {x : V} (h : isI x = true) : ∃ i, x = .int i := by
  cases x with
  | int i => exact ⟨i, rfl⟩
  | _ => cases h
theorem spotB_spot {m : Nat} {it : Option (List V)} (h : spotB m it = true) : it = some (spV (toSpot it)) ∧ 0 ≤ (toSpot it).1 ∧ (toSpot it).1 < m := by
  cases it with
  | none => cases h
  | some xs =>
    by_cases hl : xs.length = 4
    · obtain ⟨x0, x1, x2, x3, rfl⟩ : ∃ x0 x1 x2 x3, xs = [x0, x1, x2, x3] := by
        match xs, hl with
        | [x0, x1, x2, x3], _ => exact ⟨x0, x1, x2, x3, rfl⟩
      have h : (btw x0 0 ((m : Int) - 1) && [isI x0, isI x1, isI x2, isI x3].all id) = true := h
      obtain ⟨h0, h1⟩ := Bool.and_eq_true_iff.mp h
      simp only [List.all_cons, List.all_nil, Bool.and_true, Bool.and_eq_true, id] at h1
      obtain ⟨k0, k1, k2, k3⟩ := h1
      obtain ⟨a, rfl⟩ := isI_int k0
      obtain ⟨b, rfl⟩ := isI_int k1
      obtain ⟨c, rfl⟩ := isI_int k2
      obtain ⟨d, rfl⟩ := isI_int k3
      have h0 : (decide (0 ≤ a) && decide (a ≤ (m : Int) - 1)) = true := h0
      simp only [Bool.and_eq_true, decide_eq_true_eq] at h0
      refine ⟨rfl, ?_⟩
      show 0 ≤ a ∧ a < (m : Int)
      omega
    · rw [spotB_len hl] at h
      cases h
theorem room_u1 {k : Nat} {A : Around} (r : Room k A) : A.units + 1 < cLine := by
  have := r.un
  omega
theorem room_u2 {k : Nat} {A : Around} (r : Room k A) : A.units + 2 < cLine := by
  have := r.un
  omega
def lastOf (road : List Int) : Int := (road.getLast?).getD 0
def stayB (rows : List Row) (n : Int) (ss : List Spot) (t : Spot) : Bool := !(rowAt rows t.1).ends && bnd n t.2.1 t.2.2.1 t.2.2.2 && (next (rowAt rows t.1) n t).all (kin ss)
def certB (rows : List Row) (n : Int) (key : Spot) (ss : List Spot) : Bool := !decide ((dictOf ss).length < ss.length) && kin ss key && ss.all (stayB rows n ss)
/-- what a paper holds: none if it is no tuple -/
def stickB (rows : List Row) (n full : Int) (road : List Int) : Option (List (Option (List V))) → Bool
  | none => false
  | some its => match runTo rows n (0, 0, full, full) (road.drop 1) with
    | none => false
    | some s => its.all (spotB rows.length) && certB rows n (lastOf road, s.2) (its.map toSpot)
def PapAt (H : Hp) (v : V) : Option (List (Option (List V))) → Prop
  | none => Kd H v ∧ isT H v = false
  | some its => ∃ a xs, v = .ref a ∧ H a = some (.tup xs) ∧ xs.length < 100000 ∧ Paired (fun x it => PItem H x ∧ tupOf H x = it) xs its
theorem kd_tupOf {H H' : Hp} {v : V} (e : Same H H') (k : Kd H v) : tupOf H' v = tupOf H v := by
  cases v with
  | ref a =>
    show seqT (H' a) = seqT (H a)
    rcases k with ⟨xs, h⟩ | ⟨xs, h⟩ <;> rw [h, e _ _ h]
  | _ => rfl
theorem kd_isT {H H' : Hp} {v : V} (e : Same H H') (k : Kd H v) : isT H' v = isT H v := by rw [isT_tup, isT_tup, kd_tupOf e k]
theorem PItem.same {H H' : Hp} {v : V} (e : Same H H') (h : PItem H v) : PItem H' v := ⟨h.1.same e, fun xs hx => by
  rw [kd_tupOf e h.1] at hx
  obtain ⟨h1, h2⟩ := h.2 xs hx
  exact ⟨h1, fun x hm => (h2 x hm).same e⟩⟩
theorem PapAt.same {H H' : Hp} {v : V} {o : Option (List (Option (List V)))} (e : Same H H') (h : PapAt H v o) : PapAt H' v o := by
  cases o with
  | none => exact ⟨h.1.same e, by rw [kd_isT e h.1]; exact h.2⟩
  | some its =>
    obtain ⟨a, xs, h1, h2, h3, h4⟩ := h
    exact ⟨a, xs, h1, e _ _ h2, h3, Paired.mapP h4 fun x it ⟨h5, h6⟩ => ⟨h5.same e, by rw [kd_tupOf e h5.1]; exact h6⟩⟩
theorem PapAt.kd {H : Hp} {v : V} {o : Option (List (Option (List V)))} (h : PapAt H v o) : Kd H v := by
  cases o with
  | none => exact h.1
  | some its =>
    obtain ⟨a, xs, rfl, h2, _⟩ := h
    exact .inr ⟨xs, h2⟩
/-- all items are stretches -/
theorem items_spots {H : Hp} {m : Nat} : ∀ {xs : List V} {its : List (Option (List V))}, Paired (fun x it => PItem H x ∧ tupOf H x = it) xs its → its.all (spotB m) = true → SpotsAt H xs (its.map toSpot)
  | _, _, .nil, _ => .nil
  | _, _, .cons (a := x) (b := it) h t, hall => by
    rw [List.all_cons, Bool.and_eq_true] at hall
    obtain ⟨e, _, _⟩ := spotB_spot hall.1
    obtain ⟨a, ev, ha⟩ := tupOf_some (h.2.trans e)
    exact .cons ⟨a, ev, ha⟩ (items_spots t hall.2)
theorem paired_getR {α β : Type} {F : α → β → Prop} : ∀ {xs : List α} {ys : List β} {i : Nat} {x : α}, Paired F xs ys → xs[i]? = some x → ∃ y, ys[i]? = some y ∧ F x y
  | _, _, i, y, .nil, h => by simp at h
  | _, _, 0, y, .cons r _, h => by
    simp at h
    subst h
    exact ⟨_, rfl, r⟩
  | _, _, i + 1, y, .cons _ t, h => by
    obtain ⟨x, h1, h2⟩ := paired_getR (i := i) t (by simpa using h)
    exact ⟨x, by simpa using h1, h2⟩
section
variable {σ : L2.St} {H : Hp} {Q : VK} {to te : TE} {r : V → List V → Hp → VK → Prop} {a b z : Str}
theorem x_m1 (q : to σ H fun x H1 => (∃ a, x = .str a) ∧ te σ H1 fun y H2 => r x [y] H2 Q) : tM1 r to te σ H Q := q
theorem x_sw {W : Prop} (q : W) : (∃ a, V.str z = .str a) ∧ W := ⟨⟨z, rfl⟩, q⟩
theorem x_ss {W : Str → Str → Prop} (q : W a b) : ∃ i j, V.str a = .str i ∧ V.str b = .str j ∧ W i j := ⟨a, b, rfl, rfl, q⟩
end
end K48
namespace K48
open PySem PySem.Spec PyProof.Rows L2
local macro_rules | `(tactic| walk_at "hg") => `(tactic| first | assumption | exact upd_same | (apply get_keep; assumption; walk_at "hg") | (apply get_same; assumption; walk_at "hg") | (apply get_mut; assumption; walk_at "hg"))
local macro_rules | `(tactic| walk_at "sq") => `(tactic| first | assumption | (apply SqT.of; walk_at "hg") | (apply SqL.of; walk_at "hg") | (apply same_t; assumption; walk_at "sq") | (apply Same.seq; assumption; walk_at "sq"))
local macro_rules | `(tactic| walk_at "sc") => `(tactic| first | omega | decide | assumption | (unfold CMul; omega) | (unfold CDiv; omega))
local macro_rules | `(tactic| walk_at "x1") => `(tactic| first
  | with_reducible refine x_seq ?_
  | with_reducible refine x_var (by with_unfolding_all rfl) ?_
  | with_reducible refine x_c ?_
  | with_reducible refine x_op ?_
  | with_reducible refine x_rI0 ?_
  | with_reducible refine x_bl ?_
  | with_reducible refine x_rEq (by with_unfolding_all rfl) ?_
  | with_reducible refine x_rNe (by with_unfolding_all rfl) ?_
  | with_reducible refine x_asg ?_
  | with_reducible refine x_gname ?_
  | with_reducible refine x_gcons ?_
  | with_reducible refine x_gnil ?_
  | with_reducible refine x_ret ?_
  | with_reducible refine x_drop ?_
  | with_reducible refine x_next ?_
  | with_reducible refine x_cont ?_
  | with_reducible refine x_brk ?_
  | with_reducible refine x_ifS ?_
  | with_reducible refine x_ifE ?_
  | with_reducible refine x_cons ?_
  | with_reducible refine x_nil ?_
  | with_reducible refine x_test ?_
  | with_reducible refine x_tB ?_
  | with_reducible refine x_and ?_
  | with_reducible refine x_or ?_
  | with_reducible refine x_not ?_
  | with_reducible refine x_andV ?_
  | with_reducible refine x_orV ?_
  | with_reducible refine x_notV ?_
  | with_reducible refine x_chain ?_
  | with_reducible refine x_par ?_
  | with_reducible refine x_two ?_
  | with_reducible refine x_un ?_
  | with_reducible refine x_rU ?_
  | with_reducible refine x_cb ?_
  | with_reducible refine x_call ?_
  | with_reducible refine x_sl ?_
  | with_reducible refine x_nopart ?_
  | with_reducible refine x_part ?_
  | with_reducible refine x_int ?_
  | with_reducible refine x_tup ?_
  | with_reducible refine x_lst ?_
  | with_reducible refine x_bm ?_
  | with_reducible refine x_fld ?_
  | with_reducible refine x_chain3 ?_
  | with_reducible refine x_yes ?_
  | with_reducible refine x_lcT ?_
  | with_reducible refine x_lcL ?_
  | with_reducible refine x_for ?_
  | with_reducible refine x_iT ?_
  | with_reducible refine x_iL ?_
  | with_reducible refine x_rng1 ?_
  | with_reducible refine x_rng2 ?_
  | with_reducible refine x_dcT ?_
  | with_reducible refine x_din ?_
  | with_reducible refine x_dni ?_
  | with_reducible refine x_xch ?_
  | ((with_reducible apply x_ixT); (focus (walk_at "sq"; done)); (focus (with_unfolding_all rfl; done)))
  | ((with_reducible apply x_ixL); (focus (walk_at "sq"; done)); (focus (with_unfolding_all rfl; done)))
  | ((with_reducible apply x_gtup); (focus (walk_at "sq"; done)); (focus (with_unfolding_all rfl; done)))
  | ((with_reducible apply x_glst); (focus (walk_at "sq"; done)); (focus (with_unfolding_all rfl; done)))
  | with_reducible refine x_F dn_int ?_
  | with_reducible refine x_F dn_ref ?_
  | with_reducible refine x_T dn_non ?_
  | with_reducible refine x_T (by decide +kernel) ?_
  | with_reducible refine x_F (by decide +kernel) ?_)
local macro_rules | `(tactic| walk_at "sz") => `(tactic| first | (exact Nat.le_of_ble_eq_true rfl) | decide | omega)
local macro_rules | `(tactic| walk_at "x") => `(tactic| ((walk_at "x1"); repeat (walk_at "x1")))
/-! ### sticks -/
section
variable {P : Program} {w : World} {K : PySem.W.Frag} {mg : Str → Option Value} {base : Heap}
def spSticks (K : PySem.W.Frag) : Sp := fun vs H Q _ => ∃ p pp paper rows n full c road o, vs = [.ref p, .ref pp, paper] ∧ H pp = some (.tup [.int n, .int full, .ref c]) ∧ PrgAt K H p rows ∧ Prg rows ∧ (1 ≤ n ∧ n ≤ 10 ^ 30) ∧ (1 ≤ full ∧ full ≤ 2 * n) ∧
  H c = some (.tup (road.map V.int)) ∧ road.length < 100000 ∧ roadB rows.length road = true ∧ PapAt H paper o ∧ ∀ H', Same H H' → Q (.bl (stickB rows n full road o)) H'
theorem lenV {n : Nat} : (V.int ((n : Nat) : Int)) = V.int ((n : Nat) : Int) := rfl
theorem sc_sticks : FnScope ["program", "parts", "paper", "number", "full", "course", "spot", "value", "known", "step", "later"] ["program", "parts", "paper"] (defScope s_sticks) := ⟨rfl, rfl, rfl, by decide +kernel, rfl, by decide +kernel, by decide +kernel⟩
theorem lastOf_get {road : List Int} (h : road ≠ []) : ∃ j : Nat, j + 1 = road.length ∧ road[j]? = some (lastOf road) := by
  refine ⟨road.length - 1, ?_, ?_⟩
  · have := List.length_pos_iff.mpr h
    omega
  · unfold lastOf
    rw [List.getLast?_eq_getElem?]
    cases e : road[road.length - 1]? with
    | none =>
      have := List.getElem?_eq_none_iff.mp e
      have := List.length_pos_iff.mpr h
      omega
    | some x => rfl
theorem at_last {α : Type} {xs : List α} {j : Nat} {v : α} (hl : j + 1 = xs.length) (h : xs[j]? = some v) : atI xs (-1) = some v := by
  have e : ixN xs.length (-1) = some j := by
    unfold ixN
    rw [if_neg (by decide), if_pos (by omega)]
    congr 1
    omega
  unfold atI
  rw [e]
  exact h
theorem row_first (r : Row) : ∃ t rest, r.step = .str t :: rest ∧ (inV (.str t) [.str "give", .str "again"]) = r.ends := by
  cases r <;> exact ⟨_, _, rfl, by first | rfl | decide +kernel⟩
theorem ok_sticks (T : Tx w K mg) (B : HasDef K mg "sticks" s_sticks ["program", "parts", "paper"]) (D_stretch_of : Def P w K mg base "stretch_of" 4 ["program", "number", "full", "course"] (spStretch K)) (D_is_spot : Def P w K mg base "is_spot" 3 ["program", "value"] (spIsSpot K))
    (D_behind : Def P w K mg base "behind" 3 ["step", "row", "number", "spot"] spBehind) (D_is_bounded : Def P w K mg base "is_bounded" 1 ["number", "spot"] spBnd) :
    Def P w K mg base "sticks" 5 ["program", "parts", "paper"] (spSticks K) := by
  refine Def.mk B sc_sticks (fun vs H Q E h => ?_) (fun f cdv A outer s H vs Q E hr h => ?_)
  · obtain ⟨p, pp, paper, rows, n, full, c, road, o, rfl, _⟩ := h
    rfl
  · obtain ⟨p, pp, paper, rows, n, full, c, road, o, rfl, hpp, hp, pr, hn, hf, hc, hz, hroad, ho, q⟩ := h
    refine ⟨_, (pss_cons (ps_asg (pv 1) (pg_tup rfl (pgs_cons (pg_name (i := 3) sc_sticks.nd rfl (Or.inl rfl)) (pgs_cons (pg_name (i := 4) sc_sticks.nd rfl (Or.inl rfl)) (pgs_cons (pg_name (i := 5) sc_sticks.nd rfl (Or.inl rfl)) pgs_nil)))))
      (pss_cons (ps_set (i := 6) sc_sticks.nd rfl (Or.inl rfl) (pe_d D_stretch_of hr (pa_cons (pv 0) (pa_cons (pv 3) (pa_cons (pv 4) (pa_cons (pv 5) pa_nil))))))
      (pss_cons (ps_if (PW.pt (pw_or (pt_cmpR op_isN (pv 6) pe_non (nomark _)) (pw_or (pt_not (pt_val (pe_callB call_isi (by rfl) T.z_isinstance boot_isinstance' (pa_cons (pv 2) (pa_cons (pe_bltn (by rfl) T.z_tuple boot_tuple' (v := .ty "tuple") rfl) pa_nil))))) (pw_or1 (pt_not (pt_val (pe_callB (cr_all rfl) (by rfl) T.z_all boot_all' (pa_cons (pe_lc (own := [("value", 7)]) (by rfl) sc_sticks.nd (pi_tup (pv 2)) (blkOk_by (N := ["program", "parts", "paper", "number", "full", "course", "spot", "value", "known", "step", "later"]) (sc := defScope s_sticks) (by decide +kernel)) (fun _ _ _ _ _ => (pg_name (i := 7) sc_sticks.nd rfl (Or.inl rfl))) (fun _ _ _ _ _ => pts_nil) (fun _ _ _ _ _ => (pe_d D_is_spot hr (pa_cons (pv 0) (pa_cons (pv 7) pa_nil))))) pa_nil)))))))) (pss_one (ps_ret pe_bl)) pss_nil)
      (pss_cons (ps_set (i := 8) sc_sticks.nd rfl (Or.inr rfl) (pe_dcT (own := [("value", 7)]) (by rfl) hr.units0 sc_sticks.nd (pi_tup (pv 2)) (blkOk_by (N := ["program", "parts", "paper", "number", "full", "course", "spot", "value", "known", "step", "later"]) (sc := defScope s_sticks) (by decide +kernel)) (fun _ _ _ _ _ => (pg_name (i := 7) sc_sticks.nd rfl (Or.inl rfl))) (fun _ _ _ _ _ => (pv 7)) (fun _ _ _ _ _ => pe_bl)))
      (pss_cons (ps_if (PW.pt (pw_or (pt_cmpR op_lt (pe_callB call_len_dT (by rfl) T.z_len boot_len' (pa_cons (pv 8) pa_nil)) (pe_callB call_len_seq (by rfl) T.z_len boot_len' (pa_cons (pv 2) pa_nil)) (nomark _)) (pw_or1 (pt_cmp (pc_dnotin (room_u1 hr) (pe_tup (pa_cons (pe_ix ix_tup (pv 5) (pe_un un_neg pe_int) (fun _ _ => rfl)) (pa_cons (pe_ix ix_tup (pv 6) pe_int (fun _ _ => rfl)) (pa_cons (pe_ix ix_tup (pv 6) pe_int (fun _ _ => rfl)) (pa_cons (pe_ix ix_tup (pv 6) pe_int (fun _ _ => rfl)) pa_nil))))) (pv 8)))))) (pss_one (ps_ret pe_bl)) pss_nil)
      (pss_cons (ps_for PassesOwn.never (by rfl) (pi_tup (pv 2)) (pg_name (i := 7) sc_sticks.nd rfl (Or.inl rfl))
      (pss_cons (ps_set (i := 9) sc_sticks.nd rfl (Or.inl rfl) (pe_ix ix_tup (pe_fld (pv 0) rfl) (pe_ix ix_tup (pv 7) pe_int (fun _ _ => rfl)) (fun _ _ => rfl)))
      (pss_cons (ps_if (PW.pt (pw_or (pt_cmpR op_in_seq (pe_ix ix_tup (pv 9) pe_int (fun _ _ => rfl)) (pe_tup (pa_cons pe_str (pa_cons pe_str pa_nil))) (by rfl)) (pw_or1 (pt_not (pt_val (pe_d D_is_bounded hr (pa_cons (pv 3) (pa_cons (pe_slice sl_tupA (pv 7) (po_some pe_int) po_none) pa_nil)))))))) (pss_one (ps_ret pe_bl)) pss_nil)
      (pss_one (ps_if (pt_not (pt_val (pe_callB (cr_all rfl) (by rfl) T.z_all boot_all' (pa_cons (pe_lc (own := [("later", 10)]) (by rfl) sc_sticks.nd (pi_list (pe_d D_behind hr (pa_cons (pv 9) (pa_cons (pe_ix ix_tup (pv 7) pe_int (fun _ _ => rfl)) (pa_cons (pv 3) (pa_cons (pe_slice sl_tupA (pv 7) (po_some pe_int) po_none) pa_nil)))))) (blkOk_by (N := ["program", "parts", "paper", "number", "full", "course", "spot", "value", "known", "step", "later"]) (sc := defScope s_sticks) (by decide +kernel)) (fun _ _ _ _ _ => (pg_name (i := 10) sc_sticks.nd rfl (Or.inl rfl))) (fun _ _ _ _ _ => pts_nil) (fun _ _ _ _ _ => (pe_cmp (pc_din (room_u1 hr) (pv 10) (pv 8))))) pa_nil)))) (pss_one (ps_ret pe_bl)) pss_nil)))))
      (pss_one (ps_ret pe_bl)))))))), ?_⟩
    walk_at "x"
    refine ⟨p, rows, n, full, c, road, rfl, hp, pr.most, hn, hf, hc, hz, hroad, ?_⟩
    have q : ∀ H', Same H H' → Q (.bl (stickB rows n full road o)) H' := q
    cases hrun : runTo rows n (0, 0, full, full) (road.drop 1) with
    | none =>
      intro H1 e1
      walk_at "x"
      refine ⟨rfl, ?_⟩
      walk_at "x"
      have e : stickB rows n full road o = false := by
        cases o with
        | none => rfl
        | some its =>
          show (match runTo rows n (0, 0, full, full) (road.drop 1) with | none => false | some s => its.all (spotB rows.length) && certB rows n (lastOf road, s.2) (its.map toSpot)) = false
          rw [hrun]
      rw [e] at q
      exact q H1 e1
    | some st =>
      intro t H1 e1 ht
      have ho1 := ho.same e1
      walk_at "x"
      refine ⟨rfl, ?_⟩
      walk_at "x"
      refine x_isTup ho1.kd ?_
      walk_at "x"
      cases o with
      | none =>
        rw [ho1.2]
        walk_at "x"
        exact q H1 e1
      | some its =>
        obtain ⟨pa, xs, rfl, hpa, hxz, hits⟩ := ho1
        have ei : isT H1 (.ref pa) = true := by rw [isT_tup]; show (seqT (H1 pa)).isSome = true; rw [hpa]; rfl
        rw [ei]
        have hq : ∀ H', Same H H' → Q (.bl (its.all (spotB rows.length) && certB rows n (lastOf road, st.2) (its.map toSpot))) H' := by
          intro H' e'
          have := q H' e'
          have ee : stickB rows n full road (some its) = (its.all (spotB rows.length) && certB rows n (lastOf road, st.2) (its.map toSpot)) := by
            show (match runTo rows n (0, 0, full, full) (road.drop 1) with | none => false | some s => its.all (spotB rows.length) && certB rows n (lastOf road, s.2) (its.map toSpot)) = _
            rw [hrun]
          rw [ee] at this
          exact this
        clear q
        have hlen : xs.length = its.length := Paired.length hits
        walk_at "x"
        refine lcT_go (fun i _ l => l = (its.take i).map fun it => V.bl (spotB rows.length it)) (SqT.of hpa) (Nat.lt_of_lt_of_le hxz (by decide)) rfl (fun _ _ _ _ _ h => h) (fun x => rfl) (fun i x H' l hi e hli hG KT KF kT kF => ?_) (fun D H2 l nD e2 hD hG => ?_)
        · obtain ⟨it, hit, hp1, hp2⟩ := paired_getR hits hi
          walk_at "x"
          refine ⟨p, rows, x, rfl, (hp.same e1).same e, pr.most, hp1.same e, fun H3 e3 => ?_⟩
          refine kT _ _ e3 ?_
          rw [hG, take_snoc hit, List.map_append, kd_tupOf e hp1.1, hp2]
          rfl
        · walk_at "x"
          refine ⟨D, its.map (spotB rows.length), rfl, SqL.of (hD.trans (by rw [hG, hlen, List.take_length, List.map_map]; rfl)), ?_⟩
          rw [all_map]
          have e12 := e1.trans e2
          cases hall : its.all (spotB rows.length) with
          | false =>
            rw [hall] at hq
            walk_at "x"
            exact hq H2 e12
          | true =>
            rw [hall] at hq
            have hs := (items_spots hits hall).same e2
            have hin : ∀ s ∈ its.map toSpot, 0 ≤ s.1 ∧ s.1 < rows.length := by
              intro s hs
              obtain ⟨it, h1, rfl⟩ := List.mem_map.mp hs
              exact (spotB_spot (List.all_eq_true.mp hall it h1)).2
            generalize its.map toSpot = ss at hq hs hin
            have hq : ∀ H', Same H H' → Q (.bl (!decide ((dictOf ss).length < ss.length) && kin ss (lastOf road, st.2) && ss.all (stayB rows n ss))) H' := hq
            walk_at "x"
            refine dcT_go (SqT.of (e2 _ _ hpa)) hs (Nat.le_of_lt hxz) (by show 7 < 11; decide) (fun x => rfl) (fun D2 n2 => ?_)
            have e2D := same_new (u := .dT (dictOf ss)) (Same.refl H2) n2
            have e13 := e12.trans e2D
            have nD2 := e12.free n2
            have ht2 := e2D _ _ (e2 _ _ ht)
            walk_at "x"
            refine ⟨D2, dictOf ss, rfl, upd_same, ?_⟩
            walk_at "x"
            refine ⟨pa, xs, rfl, .inr (SqT.of (e2D _ _ (e2 _ _ hpa))), ?_⟩
            walk_at "x"
            have hsl : xs.length = ss.length := hs.len
            have hroad0 : road ≠ [] := by
              intro z
              rw [z] at hroad
              cases hroad
            obtain ⟨jl, hjl, hlast⟩ := lastOf_get hroad0
            refine x_TF (fun h1 => ?_) (fun h1 => ?_)
            · have h2 : decide ((dictOf ss).length < ss.length) = true := decide_eq_true (by have := of_decide_eq_true h1; omega)
              rw [h2] at hq
              walk_at "x"
              exact hq _ e13
            have h2 : decide ((dictOf ss).length < ss.length) = false := decide_eq_false (by have := of_decide_eq_false h1; omega)
            rw [h2] at hq
            walk_at "x"
            refine x_ixT (SqT.of (e13 _ _ hc)) (at_last (j := jl) (by rw [List.length_map]; exact hjl) (by rw [List.getElem?_map, hlast]; rfl)) ?_
            walk_at "x"
            refine ⟨by walk_at "sz", fun p4 n4 => ?_⟩
            walk_at "x"
            have e14 := same_new (u := .tup [.int (lastOf road), .int st.2.1, .int st.2.2.1, .int st.2.2.2]) e13 n4
            have hD4 : upd (upd H2 D2 (.dT (dictOf ss))) p4 (.tup [.int (lastOf road), .int st.2.1, .int st.2.2.1, .int st.2.2.2]) D2 = some (.dT (dictOf ss)) := get_keep n4 upd_same
            refine ⟨D2, _, rfl, DGet.t (k := kS (lastOf road, st.2)) hD4 upd_same, ?_⟩
            have hq : ∀ H', Same H H' → Q (.bl (kin ss (lastOf road, st.2) && ss.all (stayB rows n ss))) H' := hq
            refine x_bl ?_
            show (if (!kin ss (lastOf road, st.2)) = true then _ else _)
            cases hk : kin ss (lastOf road, st.2) with
            | false =>
              rw [hk] at hq
              walk_at "x"
              exact hq _ e14
            | true =>
            rw [hk] at hq
            have hq : ∀ H', Same H H' → Q (.bl (ss.all (stayB rows n ss))) H' := hq
            walk_at "x"
            have hpa4 : upd (upd H2 D2 (.dT (dictOf ss))) p4 (.tup [.int (lastOf road), .int st.2.1, .int st.2.2.1, .int st.2.2.2]) pa = some (.tup xs) := get_keep n4 (e2D _ _ (e2 _ _ hpa))
            have hs4 := hs.same (same_new (u := .tup [.int (lastOf road), .int st.2.1, .int st.2.2.1, .int st.2.2.2]) e2D n4)
            generalize upd (upd H2 D2 (.dT (dictOf ss))) p4 (.tup [.int (lastOf road), .int st.2.1, .int st.2.2.1, .int st.2.2.2]) = H4 at e14 hD4 hpa4 hs4
            refine ⟨pa, rfl, ⟨xs, SqT.of hpa4⟩, ?_⟩
            refine for_tup (xs := xs) (fun i σ H' => ∃ v7 v9 v10 : Option V, σ = [some (.ref p), some (.ref pp), some (.ref pa), some (.int n), some (.int full), some (.ref c), some (.ref t), v7, some (.ref D2), v9, v10] ∧ Same H4 H' ∧ (ss.take i).all (stayB rows n ss) = true) ⟨none, none, none, rfl, Same.refl _, rfl⟩ (fun i σ H' _ ⟨_, _, _, _, e5, _⟩ => SqT.of (e5 _ _ hpa4)) (fun i x σ H' hi hP => ?_) (fun σ H' hP => ?_)
            · obtain ⟨v7, v9, v10, rfl, e5, hst⟩ := hP
              obtain ⟨b, u, rfl, hu, hb⟩ := hs4.getR hi
              have hb5 : H' b = some (.tup [.int u.1, .int u.2.1, .int u.2.2.1, .int u.2.2.2]) := e5 _ _ hb
              obtain ⟨h10, h11⟩ := hin u (List.mem_of_getElem? hu)
              obtain ⟨dx, fs, tt, sts, a, k1, k2, k3, k4, k5⟩ := (hp.same (e14.trans e5)).row h10 h11
              have hall5 : ss.all (stayB rows n ss) = true → stayB rows n ss u = true := fun z => List.all_eq_true.mp z u (List.mem_of_getElem? hu)
              have bad : stayB rows n ss u = false → ∀ H', Same H H' → Q (.bl false) H' := fun z H' e' => by
                have := hq H' e'
                have ee : ss.all (stayB rows n ss) = false := by
                  cases hh : ss.all (stayB rows n ss) with
                  | false => rfl
                  | true => rw [hall5 hh] at z; cases z
                rw [ee] at this
                exact this
              have e15 := e14.trans e5
              walk_at "x"
              refine ⟨p, aP K, dx, fs, .ref tt, rfl, k1, T.clP, T.nS, k2, ?_⟩
              walk_at "x"
              refine x_ixT (SqT.of k3) k4 ?_
              obtain ⟨rt, rrest, hrow, hrowE⟩ := row_first (rowAt rows u.1)
              have k5' := k5
              rw [hrow] at k5'
              walk_at "x"
              refine x_ixT (SqT.of k5') (at_of (j := 0) rfl rfl) ?_
              walk_at "x"
              refine ⟨by walk_at "sz", fun p6 n6 => ?_⟩
              refine x_inU (SqT.of upd_same) rfl rfl ?_
              rw [hrowE]
              have e6 := same_new (u := .tup [.str "give", .str "again"]) (Same.refl H') n6
              walk_at "x"
              cases hends : (rowAt rows u.1).ends with
              | true =>
                walk_at "x"
                exact bad (by unfold stayB; rw [hends]; rfl) _ (e15.trans e6)
              | false =>
              walk_at "x"
              refine x_sl4 (e6 _ _ hb5) fun p7 n7 => ?_
              have e7 := same_new (u := .tup [.int u.2.1, .int u.2.2.1, .int u.2.2.2]) e6 n7
              walk_at "x"
              refine ⟨p7, n, u.2.1, u.2.2.1, u.2.2.2, rfl, upd_same, ?_⟩
              walk_at "x"
              cases hbb : bnd n u.2.1 u.2.2.1 u.2.2.2 with
              | false =>
                walk_at "x"
                exact bad (by unfold stayB; rw [hends, hbb]; rfl) _ (e15.trans e7)
              | true =>
              obtain ⟨o1, o2, o3, o4, o5⟩ := bnd_out hbb
              have hst5 : stayB rows n ss u = (next (rowAt rows u.1) n u).all (kin ss) := by
                unfold stayB
                rw [hends, hbb]
                rfl
              walk_at "x"
              have hb7 := e7 _ _ hb5
              refine x_sl4 hb7 fun p8 n8 => ?_
              have e8 := same_new (u := .tup [.int u.2.1, .int u.2.2.1, .int u.2.2.2]) e7 n8
              walk_at "x"
              refine ⟨a, p8, rowAt rows u.1, u.1, n, u.2.1, u.2.2.1, u.2.2.2, rfl, e8 _ _ k5, upd_same, hn, ⟨o4, o5⟩, fun p9 H9 ys e9 n9 h9 hs9 => ?_⟩
              have hs9 : SpotsAt H9 ys (next (rowAt rows u.1) n u) := hs9
              have hNl : (next (rowAt rows u.1) n u).length ≤ 2 := next_two _ _ _
              have hD9 : H9 D2 = some (.dT (dictOf ss)) := e9 _ _ (e8 _ _ (e5 _ _ hD4))
              refine lcL_go (fun i _ l => l = ((next (rowAt rows u.1) n u).take i).map fun s => V.bl (kin ss s)) (SqL.of h9) (by rw [hs9.len]; exact Nat.lt_of_le_of_lt hNl (by decide)) rfl (fun _ _ _ _ _ h => h) (fun x => rfl) (fun j x H10 l hj e10 hlj hG KT KF kT kF => ?_) (fun D3 H10 l nD3 e10 hD3 hG => ?_)
              · obtain ⟨b2, s2, rfl, hs2, hb2⟩ := hs9.getR hj
                walk_at "x"
                refine ⟨D2, _, rfl, DGet.t (k := kS s2) (e10 _ _ hD9) (e10 _ _ hb2), ?_⟩
                refine kT _ _ (Same.refl _) ?_
                rw [hG, take_snoc hs2, List.map_append]
                rfl
              · walk_at "x"
                refine ⟨D3, (next (rowAt rows u.1) n u).map (kin ss), rfl, SqL.of (hD3.trans (by rw [hG, hs9.len, List.take_length, List.map_map]; rfl)), ?_⟩
                rw [all_map]
                walk_at "x"
                have e11 := (e8.trans e9).trans e10
                cases hall2 : (next (rowAt rows u.1) n u).all (kin ss) with
                | false =>
                  walk_at "x"
                  exact bad (hst5.trans hall2) _ (e15.trans e11)
                | true =>
                  walk_at "x"
                  refine ⟨_, _, _, rfl, e5.trans e11, ?_⟩
                  rw [take_snoc hu, List.all_append, hst, List.all_cons, List.all_nil, hst5, hall2]
                  rfl
            · obtain ⟨v7, v9, v10, rfl, e5, hst⟩ := hP
              rw [hsl, List.take_length] at hst
              rw [hst] at hq
              walk_at "x"
              exact hq _ (e14.trans e5)
end
end K48
namespace K48
open PySem PySem.Spec PyProof.Rows L2
local macro_rules | `(tactic| walk_at "hg") => `(tactic| first | assumption | exact upd_same | (apply get_keep; assumption; walk_at "hg") | (apply get_same; assumption; walk_at "hg") | (apply get_mut; assumption; walk_at "hg"))
local macro_rules | `(tactic| walk_at "sq") => `(tactic| first | assumption | (apply SqT.of; walk_at "hg") | (apply SqL.of; walk_at "hg") | (apply same_t; assumption; walk_at "sq") | (apply Same.seq; assumption; walk_at "sq"))
local macro_rules | `(tactic| walk_at "sc") => `(tactic| first | omega | decide | assumption | (unfold CMul; omega) | (unfold CDiv; omega))
local macro_rules | `(tactic| walk_at "x1") => `(tactic| first
  | with_reducible refine x_seq ?_
  | with_reducible refine x_var (by with_unfolding_all rfl) ?_
  | with_reducible refine x_c ?_
  | with_reducible refine x_op ?_
  | with_reducible refine x_rI0 ?_
  | with_reducible refine x_bl ?_
  | with_reducible refine x_rEq (by with_unfolding_all rfl) ?_
  | with_reducible refine x_rNe (by with_unfolding_all rfl) ?_
  | with_reducible refine x_asg ?_
  | with_reducible refine x_gname ?_
  | with_reducible refine x_gcons ?_
  | with_reducible refine x_gnil ?_
  | with_reducible refine x_ret ?_
  | with_reducible refine x_drop ?_
  | with_reducible refine x_next ?_
  | with_reducible refine x_cont ?_
  | with_reducible refine x_brk ?_
  | with_reducible refine x_ifS ?_
  | with_reducible refine x_ifE ?_
  | with_reducible refine x_cons ?_
  | with_reducible refine x_nil ?_
  | with_reducible refine x_test ?_
  | with_reducible refine x_tB ?_
  | with_reducible refine x_and ?_
  | with_reducible refine x_or ?_
  | with_reducible refine x_not ?_
  | with_reducible refine x_andV ?_
  | with_reducible refine x_orV ?_
  | with_reducible refine x_notV ?_
  | with_reducible refine x_chain ?_
  | with_reducible refine x_par ?_
  | with_reducible refine x_two ?_
  | with_reducible refine x_un ?_
  | with_reducible refine x_rU ?_
  | with_reducible refine x_cb ?_
  | with_reducible refine x_call ?_
  | with_reducible refine x_sl ?_
  | with_reducible refine x_nopart ?_
  | with_reducible refine x_part ?_
  | with_reducible refine x_int ?_
  | with_reducible refine x_tup ?_
  | with_reducible refine x_lst ?_
  | with_reducible refine x_bm ?_
  | with_reducible refine x_fld ?_
  | with_reducible refine x_chain3 ?_
  | with_reducible refine x_yes ?_
  | with_reducible refine x_lcT ?_
  | with_reducible refine x_lcL ?_
  | with_reducible refine x_for ?_
  | with_reducible refine x_iT ?_
  | with_reducible refine x_iL ?_
  | with_reducible refine x_rng1 ?_
  | with_reducible refine x_rng2 ?_
  | with_reducible refine x_dcT ?_
  | with_reducible refine x_din ?_
  | with_reducible refine x_dni ?_
  | with_reducible refine x_xch ?_
  | ((with_reducible apply x_ixT); (focus (walk_at "sq"; done)); (focus (with_unfolding_all rfl; done)))
  | ((with_reducible apply x_ixL); (focus (walk_at "sq"; done)); (focus (with_unfolding_all rfl; done)))
  | ((with_reducible apply x_gtup); (focus (walk_at "sq"; done)); (focus (with_unfolding_all rfl; done)))
  | ((with_reducible apply x_glst); (focus (walk_at "sq"; done)); (focus (with_unfolding_all rfl; done)))
  | with_reducible refine x_F dn_int ?_
  | with_reducible refine x_F dn_ref ?_
  | with_reducible refine x_T dn_non ?_
  | with_reducible refine x_T (by decide +kernel) ?_
  | with_reducible refine x_F (by decide +kernel) ?_)
local macro_rules | `(tactic| walk_at "sz") => `(tactic| first | (exact Nat.le_of_ble_eq_true rfl) | decide | omega)
local macro_rules | `(tactic| walk_at "x") => `(tactic| ((walk_at "x1"); repeat (walk_at "x1")))
/-! ### accepts_course -/
section
variable {X : Cx} {e : Expr}
def tOff : TE := fun _ _ _ => False
theorem pe_off : PE X e tOff := ⟨fun _ _ _ _ _ _ h => h.elim⟩
end
section
variable {K : PySem.W.Frag} {H : Hp} {Q : VK} {a : Addr} {x0 x1 x2 x3 x4 : V}
theorem x_sl5 (h : H a = some (.tup [x0, x1, x2, x3, x4])) (q : ∀ p, H p = none → Q (.ref p) (upd H p (.tup [x2, x3, x4]))) : rSlA K (.ref a) (some 2) none H Q :=
  ⟨a, [x0, x1, x2, x3, x4], rfl, SqT.of h, fun h => absurd (show (2 : Nat) = 0 from h.1) (by decide), fun _ p np => q p np⟩
end
section
variable {P : Program} {w : World} {K : PySem.W.Frag} {mg : Str → Option Value} {base : Heap}
def courseB (rows : List Row) (n full : Int) (road : List Int) (o : Option (List (Option (List V)))) : Bool := btw (.int full) 1 (2 * n) && roadB rows.length road && stickB rows n full road o
def spCourse (K : PySem.W.Frag) : Sp := fun vs H Q _ => ∃ cl p cert xs rows, vs = [.ref cl, .ref p, cert] ∧ H cl = some (.tup xs) ∧ PrgAt K H p rows ∧ Prg rows ∧
  ((xs.length ≠ 5 ∧ xs.length ≤ 10 ∧ ∀ H', Same H H' → Q (.bl false) H') ∨ ∃ h1 h2 n full c road o, xs = [.str h1, .str h2, .int n, .int full, .ref c] ∧ (h1 = "stuck" ∨ h1 = "stick") ∧ (1 ≤ n ∧ n ≤ 10 ^ 30) ∧ H c = some (.tup (road.map V.int)) ∧ road.length < 100000 ∧ PapAt H cert o ∧
    ∀ H', Same H H' → Q (.bl (decide (h1 = "stuck") && courseB rows n full road o)) H')
theorem sc_accepts_course : FnScope ["claim", "program", "certificate"] ["claim", "program", "certificate"] (defScope s_accepts_course) := ⟨rfl, rfl, rfl, by decide +kernel, rfl, by decide +kernel, by decide +kernel⟩
theorem ok_accepts_course (T : Tx w K mg) (B : HasDef K mg "accepts_course" s_accepts_course ["claim", "program", "certificate"]) (D_is_integer : Def P w K mg base "is_integer" 1 ["value"] spIsInt) (D_is_between : Def P w K mg base "is_between" 2 ["value", "least", "most"] spBtw)
    (D_is_course : Def P w K mg base "is_course" 3 ["program", "course"] (spIsCourse K)) (D_sticks : Def P w K mg base "sticks" 5 ["program", "parts", "paper"] (spSticks K)) :
    Def P w K mg base "accepts_course" 6 ["claim", "program", "certificate"] (spCourse K) := by
  refine Def.mk B sc_accepts_course (fun vs H Q E h => ?_) (fun f cdv A outer s H vs Q E hr h => ?_)
  · obtain ⟨cl, p, cert, xs, rows, rfl, _⟩ := h
    rfl
  · obtain ⟨cl, p, cert, xs, rows, rfl, hcl, hp, pr, h⟩ := h
    obtain ⟨esW, nW, dW⟩ := T.kdW
    refine ⟨_, (pss_cons (ps_if (PW.pt (pw_or (pt_cmpR op_ne (pe_callB call_len_seq (by rfl) T.z_len boot_len' (pa_cons (pv 0) pa_nil)) pe_int (nomark _)) (pw_or (pt_not (pt_val (pe_d D_is_integer hr (pa_cons (pe_ix ix_tup (pv 0) pe_int (fun _ _ => rfl)) pa_nil)))) (pw_or1 (pt_cmpR op_lt (pe_ix ix_tup (pv 0) pe_int (fun _ _ => rfl)) pe_int (nomark _)))))) (pss_one (ps_ret pe_bl)) pss_nil)
      (pss_cons (ps_if (PW.pt (pw_or (pt_not (pt_val (pe_d D_is_between hr (pa_cons (pe_ix ix_tup (pv 0) pe_int (fun _ _ => rfl)) (pa_cons pe_int (pa_cons (pe_op op_mul (g_int T.mostFull) (pe_ix ix_tup (pv 0) pe_int (fun _ _ => rfl))) pa_nil)))))) (pw_or1 (pt_not (pt_val (pe_d D_is_course hr (pa_cons (pv 1) (pa_cons (pe_ix ix_tup (pv 0) pe_int (fun _ _ => rfl)) pa_nil)))))))) (pss_one (ps_ret pe_bl)) pss_nil)
      (pss_cons (ps_if (pt_cmpR op_eq (pe_ix ix_tup (pv 0) pe_int (fun _ _ => rfl)) pe_str (nomark _)) (pss_one (ps_ret (pe_d D_sticks hr (pa_cons (pv 1) (pa_cons (pe_slice sl_tupA (pv 0) (po_some pe_int) po_none) (pa_cons (pv 2) pa_nil)))))) pss_nil)
      (pss_one (ps_ret (pe_and (pe_cmpR (op_in_kd dW) (pe_ix ix_tup (pv 0) pe_int (fun _ _ => rfl)) (g_ref T.gW) (by rfl)) (pe_and (pe_cmpR (op_eqD hr.units) (pv 2) (pe_tup pa_nil) (nomark _)) (pe_one pe_off)))))))), ?_⟩
    walk_at "x"
    refine ⟨cl, xs, rfl, .inr (SqT.of hcl), ?_⟩
    walk_at "x"
    rcases h with ⟨hl, hz, q⟩ | ⟨h1, h2, n, full, c, road, o, rfl, hh, hn, hc, hz, ho, q⟩
    · refine x_T ?_ ?_
      · rw [dV_int, decide_eq_false (by omega)]
        rfl
      · walk_at "x"
        exact q H (Same.refl _)
    · refine x_F rfl ?_
      walk_at "x"
      refine ⟨.int n, rfl, trivial, ?_⟩
      walk_at "x"
      refine x_F rfl ?_
      walk_at "x"
      refine x_F (decide_eq_false (by omega)) ?_
      walk_at "x"
      refine x_rI (by walk_at "sc") ?_
      walk_at "x"
      refine ⟨.int full, 1, 2 * n, rfl, trivial, ?_⟩
      walk_at "x"
      have q : ∀ H', Same H H' → Q (.bl (decide (h1 = "stuck") && (btw (.int full) 1 (2 * n) && roadB rows.length road && stickB rows n full road o))) H' := q
      cases hb : btw (.int full) 1 (2 * n) with
      | false =>
        rw [hb, Bool.false_and, Bool.false_and, Bool.and_false] at q
        walk_at "x"
        exact q _ (Same.refl _)
      | true =>
        rw [hb, Bool.true_and] at q
        walk_at "x"
        refine ⟨p, rows, c, road, rfl, hp, pr.most, hc, hz, fun H1 e1 => ?_⟩
        walk_at "x"
        cases hrd : roadB rows.length road with
        | false =>
          rw [hrd, Bool.false_and, Bool.and_false] at q
          walk_at "x"
          exact q _ e1
        | true =>
          rw [hrd, Bool.true_and] at q
          have hcl1 := e1 _ _ hcl
          walk_at "x"
          have hb' : (decide (1 ≤ full) && decide (full ≤ 2 * n)) = true := hb
          simp only [Bool.and_eq_true, decide_eq_true_eq] at hb'
          rcases hh with rfl | rfl
          · walk_at "x"
            refine x_sl5 hcl1 fun p2 n2 => ?_
            have e2 := same_new (u := .tup [.int n, .int full, .ref c]) e1 n2
            walk_at "x"
            refine ⟨p, p2, cert, rows, n, full, c, road, o, rfl, upd_same, hp.same e2, pr, hn, hb', e2 _ _ hc, hz, hrd, ho.same e2, fun H' e' => ?_⟩
            have := q H' (e2.trans e')
            exact this
          · walk_at "x"
            refine ⟨"stick", none, rfl, rfl, T.oW, ?_⟩
            walk_at "x"
            exact q _ e1
end
end K48
namespace K48
open PySem PySem.Spec PyProof.Rows L2
local macro_rules | `(tactic| walk_at "hg") => `(tactic| first | assumption | exact upd_same | (apply get_keep; assumption; walk_at "hg") | (apply get_same; assumption; walk_at "hg") | (apply get_mut; assumption; walk_at "hg"))
local macro_rules | `(tactic| walk_at "sq") => `(tactic| first | assumption | (apply SqT.of; walk_at "hg") | (apply SqL.of; walk_at "hg") | (apply same_t; assumption; walk_at "sq") | (apply Same.seq; assumption; walk_at "sq"))
local macro_rules | `(tactic| walk_at "sc") => `(tactic| first | omega | decide | assumption | (unfold CMul; omega) | (unfold CDiv; omega))
local macro_rules | `(tactic| walk_at "x1") => `(tactic| first
  | with_reducible refine x_seq ?_
  | with_reducible refine x_var (by with_unfolding_all rfl) ?_
  | with_reducible refine x_c ?_
  | with_reducible refine x_op ?_
  | with_reducible refine x_rI0 ?_
  | with_reducible refine x_bl ?_
  | with_reducible refine x_rEq (by with_unfolding_all rfl) ?_
  | with_reducible refine x_rNe (by with_unfolding_all rfl) ?_
  | with_reducible refine x_asg ?_
  | with_reducible refine x_gname ?_
  | with_reducible refine x_gcons ?_
  | with_reducible refine x_gnil ?_
  | with_reducible refine x_ret ?_
  | with_reducible refine x_drop ?_
  | with_reducible refine x_next ?_
  | with_reducible refine x_cont ?_
  | with_reducible refine x_brk ?_
  | with_reducible refine x_ifS ?_
  | with_reducible refine x_ifE ?_
  | with_reducible refine x_cons ?_
  | with_reducible refine x_nil ?_
  | with_reducible refine x_test ?_
  | with_reducible refine x_tB ?_
  | with_reducible refine x_and ?_
  | with_reducible refine x_or ?_
  | with_reducible refine x_not ?_
  | with_reducible refine x_andV ?_
  | with_reducible refine x_orV ?_
  | with_reducible refine x_notV ?_
  | with_reducible refine x_chain ?_
  | with_reducible refine x_par ?_
  | with_reducible refine x_two ?_
  | with_reducible refine x_un ?_
  | with_reducible refine x_rU ?_
  | with_reducible refine x_cb ?_
  | with_reducible refine x_call ?_
  | with_reducible refine x_sl ?_
  | with_reducible refine x_nopart ?_
  | with_reducible refine x_part ?_
  | with_reducible refine x_int ?_
  | with_reducible refine x_tup ?_
  | with_reducible refine x_lst ?_
  | with_reducible refine x_bm ?_
  | with_reducible refine x_fld ?_
  | with_reducible refine x_chain3 ?_
  | with_reducible refine x_yes ?_
  | with_reducible refine x_lcT ?_
  | with_reducible refine x_lcL ?_
  | with_reducible refine x_for ?_
  | with_reducible refine x_iT ?_
  | with_reducible refine x_iL ?_
  | with_reducible refine x_rng1 ?_
  | with_reducible refine x_rng2 ?_
  | with_reducible refine x_dcT ?_
  | with_reducible refine x_din ?_
  | with_reducible refine x_dni ?_
  | with_reducible refine x_m1 ?_
  | with_reducible refine x_sw ?_
  | with_reducible refine x_ss ?_
  | ((with_reducible apply x_ixT); (focus (walk_at "sq"; done)); (focus (with_unfolding_all rfl; done)))
  | ((with_reducible apply x_ixL); (focus (walk_at "sq"; done)); (focus (with_unfolding_all rfl; done)))
  | ((with_reducible apply x_gtup); (focus (walk_at "sq"; done)); (focus (with_unfolding_all rfl; done)))
  | ((with_reducible apply x_glst); (focus (walk_at "sq"; done)); (focus (with_unfolding_all rfl; done)))
  | with_reducible refine x_F dn_int ?_
  | with_reducible refine x_F dn_ref ?_
  | with_reducible refine x_T dn_non ?_
  | with_reducible refine x_T (by decide +kernel) ?_
  | with_reducible refine x_F (by decide +kernel) ?_)
local macro_rules | `(tactic| walk_at "sz") => `(tactic| first | (exact Nat.le_of_ble_eq_true rfl) | decide | omega)
local macro_rules | `(tactic| walk_at "x") => `(tactic| ((walk_at "x1"); repeat (walk_at "x1")))
/-! ### rows as texts -/
section
variable {X : Cx}
/-- x in a tuple of data -/
def rInDT (K : PySem.W.Frag) : R2 := fun x y H Q => ∃ d ds, Dp K H x d ∧ Dp K H y (.tuple ds) ∧ SeqAt.shaped d = true ∧ SeqAt.shaped (.tuple ds) = true ∧ Q (.bl (ds.any fun z => PyData.eqv z d)) H
theorem op_inDT (hu : X.A.units + 65 < cLine) : OpR X (compareOp .In) (rInDT X.K) := by
  intro pins s σ H x y v u Q I rx ry h
  obtain ⟨d, ds, hd, he, sd, se, q⟩ := h
  obtain ⟨as, r1⟩ := Dp.reads I d x v hd rx
  obtain ⟨bs, r2⟩ := Dp.reads I (.tuple ds) y u he ry
  exact SeqAt.in_tuple_reads r2 r1 (SeqAt.canLay_of_shaped se) (SeqAt.canLay_of_shaped sd) (room_in_shaped sd hu) ⟨.bl _, H, I, rfl, q⟩
end
theorem dig_facts : ∀ (r : Fin 8) (m : Fin 9), r.val < m.val → (dig r).length = 1 ∧ PySem.intText? (dig r) = some (r.val : Int) ∧ (!(Builtin.Str.occurrences (cutS "01234567" none (some (m.val : Int))) (dig r) 0 (cutS "01234567" none (some (m.val : Int))).length 1).isEmpty) = true := by decide +kernel
def Row.plain : Row → Bool
  | .iff _ _ _ => false | .less _ _ => false | _ => true
theorem split_go : ∀ r : Fin 8, Txt.split (Row.go r).text (" " : Str) = (Row.go r).words ∧ (Row.go r).text.length ≤ 40 := by decide +kernel
theorem split_iff (c : Bool) (q : Q5) : ∀ r : Fin 8, Txt.split (Row.iff c q r).text (" " : Str) = (Row.iff c q r).words ∧ (Row.iff c q r).text.length ≤ 40 := by
  cases c <;> cases q <;> decide +kernel
theorem split_row (r : Row) : Txt.split r.text (" " : Str) = r.words ∧ r.text.length ≤ 40 := by
  cases r with
  | go r => exact split_go r
  | iff c q r => exact split_iff c q r
  | less s q => cases s <;> cases q <;> decide +kernel
  | _ => decide +kernel
section
variable {P : Program} {w : World} {K : PySem.W.Frag} {mg : Str → Option Value} {base : Heap}
theorem vQ_of (T : Tx w K mg) (q : Q5) : ∃ u, PySem.W.nsIn K (aQ K) q.text = some (some u) ∧ RelV (.int q.times) u := by
  cases q
  · exact T.vQ _ (List.mem_cons_self)
  · exact T.vQ _ (List.mem_cons_of_mem _ List.mem_cons_self)
  · exact T.vQ _ (List.mem_cons_of_mem _ (List.mem_cons_of_mem _ List.mem_cons_self))
  · exact T.vQ _ (List.mem_cons_of_mem _ (List.mem_cons_of_mem _ (List.mem_cons_of_mem _ List.mem_cons_self)))
  · exact T.vQ _ (List.mem_cons_of_mem _ (List.mem_cons_of_mem _ (List.mem_cons_of_mem _ (List.mem_cons_of_mem _ List.mem_cons_self))))
theorem vS_of (T : Tx w K mg) (s : Sb) : ∃ u, PySem.W.nsIn K (aS K) s.head = some (some u) ∧ RelV (.str s.who) u := by
  cases s
  · exact T.vS _ (List.mem_cons_self)
  · exact T.vS _ (List.mem_cons_of_mem _ List.mem_cons_self)
  · exact T.vS _ (List.mem_cons_of_mem _ (List.mem_cons_of_mem _ List.mem_cons_self))
/-! ### place_in -/
def spPlace : Sp := fun vs H Q _ => ∃ (r : Fin 8) (m : Nat), vs = [.str (dig r), .int m] ∧ r.val < m ∧ m ≤ 8 ∧ Q (.int r.val) H
theorem sc_place_in : FnScope ["word", "many"] ["word", "many"] (defScope s_place_in) := ⟨rfl, rfl, rfl, by decide +kernel, rfl, by decide +kernel, by decide +kernel⟩
theorem ok_place_in (T : Tx w K mg) (B : HasDef K mg "place_in" s_place_in ["word", "many"]) : Def P w K mg base "place_in" 1 ["word", "many"] spPlace := by
  refine Def.mk B sc_place_in (fun vs H Q E h => ?_) (fun f cdv A outer s H vs Q E hr h => ?_)
  · obtain ⟨r, m, rfl, _⟩ := h
    rfl
  · obtain ⟨r, m, rfl, hm, h8, q⟩ := h
    obtain ⟨f1, f2, f3⟩ := dig_facts r ⟨m, by omega⟩ hm
    refine ⟨_, (pss_one (ps_ret (pe_ifExp (PW.pt (pw_and (pt_cmpR op_eq (pe_callB call_len_str (by rfl) T.z_len boot_len' (pa_cons (pv 0) pa_nil)) pe_int (nomark _)) (pw_and1 (pt_cmpR op_in_str (pv 0) (pe_slice sl_str (g_str T.figures) po_none (po_some (pv 1))) (by rfl))))) (pe_callTy call_int_str (by rfl) T.z_int boot_int' (pa_cons (pv 0) pa_nil)) pe_non))), ?_⟩
    walk_at "x"
    refine ⟨dig r, rfl, by rw [f1]; decide, ?_⟩
    walk_at "x"
    refine x_T (by rw [dV_int, f1]; rfl) ?_
    walk_at "x"
    refine ⟨"01234567", rfl, by decide +kernel, ?_⟩
    walk_at "x"
    refine x_T f3 ?_
    walk_at "x"
    exact ⟨dig r, r.val, rfl, f2, by rw [f1]; decide, q⟩
/-! ### plain_step_in -/
def spPlain : Sp := fun vs H Q _ => ∃ (r : Row) (wl : Addr) (m i : Nat), vs = [.ref wl, .int m] ∧ H wl = some (.lst (r.words.map V.str)) ∧ r.plain = true ∧ r.ok i m = true ∧ m ≤ 8 ∧ ∀ t H', Same H H' → H' t = some (.tup r.step) → Q (.ref t) H'
theorem sc_plain_step_in : FnScope ["words", "many", "place"] ["words", "many"] (defScope s_plain_step_in) := ⟨rfl, rfl, rfl, by decide +kernel, rfl, by decide +kernel, by decide +kernel⟩
theorem dp_strs {K : PySem.W.Frag} {H : Hp} : ∀ ns : List Str, DpAll K H (ns.map V.str) (ns.map PyData.str)
  | [] => .nil
  | n :: ns => .cons (.str n) (dp_strs ns)
def ends1 : List PyData := [.list [.str "take"], .list [.str "again"]]
theorem shaped_ends1 : SeqAt.shaped (.tuple ends1) = true := by decide +kernel
theorem words_shaped (r : Row) (h : r.plain = true) : SeqAt.shaped (.list (r.words.map PyData.str)) = true ∧ ends1.any (fun z => PyData.eqv z (.list (r.words.map PyData.str))) = decide (r.words.length = 1) := by
  cases r with
  | go r => exact (show ∀ r : Fin 8, SeqAt.shaped (.list ((Row.go r).words.map PyData.str)) = true ∧ ends1.any (fun z => PyData.eqv z (.list ((Row.go r).words.map PyData.str))) = decide ((Row.go r).words.length = 1) by decide +kernel) r
  | iff _ _ _ => cases h
  | less _ _ => cases h
  | _ => decide +kernel
theorem ok_plain_step_in (T : Tx w K mg) (B : HasDef K mg "plain_step_in" s_plain_step_in ["words", "many"]) (D_place_in : Def P w K mg base "place_in" 1 ["word", "many"] spPlace) : Def P w K mg base "plain_step_in" 2 ["words", "many"] spPlain := by
  refine Def.mk B sc_plain_step_in (fun vs H Q E h => ?_) (fun f cdv A outer s H vs Q E hr h => ?_)
  · obtain ⟨r, wl, m, i, rfl, _⟩ := h
    rfl
  · obtain ⟨r, wl, m, i, rfl, hw, hpl, hok, h8, q⟩ := h
    refine ⟨_, (pss_cons (ps_if (pt_cmpR (op_inDT (room65 hr)) (pv 0) (pe_tup (pa_cons (pe_lst (pa_cons pe_str pa_nil)) (pa_cons (pe_lst (pa_cons pe_str pa_nil)) pa_nil))) (by rfl)) (pss_one (ps_ret (pe_tup (pa_cons (pe_ix ix_list (pv 0) pe_int (fun _ _ => rfl)) pa_nil)))) pss_nil)
      (pss_cons (ps_if (pt_cmpR op_ne (pe_callB call_len_seq (by rfl) T.z_len boot_len' (pa_cons (pv 0) pa_nil)) pe_int (nomark _)) (pss_one (ps_ret pe_non)) pss_nil)
      (pss_cons (ps_if (PW.pt (pw_and (pt_cmpR op_eq (pe_ix ix_list (pv 0) pe_int (fun _ _ => rfl)) pe_str (nomark _)) (pw_and1 (pt_cmpR op_in_seq (pe_ix ix_list (pv 0) pe_int (fun _ _ => rfl)) (pe_tup (pa_cons pe_str (pa_cons pe_str pa_nil))) (by rfl))))) (pss_one (ps_ret (pe_tup (pa_cons pe_str (pa_cons (pe_ix ix_list (pv 0) pe_int (fun _ _ => rfl)) pa_nil))))) pss_nil)
      (pss_cons (ps_set (i := 2) sc_plain_step_in.nd rfl (Or.inl rfl) (pe_d D_place_in hr (pa_cons (pe_ix ix_list (pv 0) pe_int (fun _ _ => rfl)) (pa_cons (pv 1) pa_nil))))
      (pss_one (ps_ret (pe_ifExp (PW.pt (pw_and (pt_cmpR op_eq (pe_ix ix_list (pv 0) pe_int (fun _ _ => rfl)) pe_str (nomark _)) (pw_and1 (pt_cmpR op_notN (pv 2) pe_non (nomark _))))) (pe_tup (pa_cons pe_str (pa_cons (pv 2) pa_nil))) pe_non))))))), ?_⟩
    walk_at "x"
    refine ⟨by walk_at "sz", fun p1 n1 => ?_⟩
    walk_at "x"
    refine ⟨by walk_at "sz", fun p2 n2 => ?_⟩
    walk_at "x"
    refine ⟨by walk_at "sz", fun p3 n3 => ?_⟩
    have e3 := same_new (u := .tup [.ref p1, .ref p2]) (same_new (u := .lst [.str "again"]) (same_new (u := .lst [.str "take"]) (Same.refl H) n1) n2) n3
    have hw3 := e3 _ _ hw
    refine ⟨.list (r.words.map PyData.str), [.list [.str "take"], .list [.str "again"]], .lst (SqL.of hw3) (dp_strs _), .tup (SqT.of upd_same) (.cons (.lst (SqL.of (get_keep n3 (get_keep n2 upd_same))) (.cons (.str _) .nil)) (.cons (.lst (SqL.of (get_keep n3 upd_same)) (.cons (.str _) .nil)) .nil)), (words_shaped r hpl).1, shaped_ends1, ?_⟩
    rw [show ([.list [.str "take"], .list [.str "again"]] : List PyData) = ends1 from rfl, (words_shaped r hpl).2]
    cases r with
    | iff c q r => cases hpl
    | less s q => cases hpl
    | take =>
      have hw3 : upd (upd (upd H p1 (.lst [.str "take"])) p2 (.lst [.str "again"])) p3 (.tup [.ref p1, .ref p2]) wl = some (.lst [.str "take"]) := hw3
      walk_at "x"
      exact ⟨by walk_at "sz", fun p4 n4 => q p4 _ (same_new e3 n4) upd_same⟩
    | again =>
      have hw3 : upd (upd (upd H p1 (.lst [.str "take"])) p2 (.lst [.str "again"])) p3 (.tup [.ref p1, .ref p2]) wl = some (.lst [.str "again"]) := hw3
      walk_at "x"
      exact ⟨by walk_at "sz", fun p4 n4 => q p4 _ (same_new e3 n4) upd_same⟩
    | giveC =>
      have hw3 : upd (upd (upd H p1 (.lst [.str "take"])) p2 (.lst [.str "again"])) p3 (.tup [.ref p1, .ref p2]) wl = some (.lst [.str "give", .str "c"]) := hw3
      walk_at "x"
      refine ⟨wl, _, rfl, .inl (SqL.of hw3), ?_⟩
      walk_at "x"
      refine ⟨by walk_at "sz", fun p4 n4 => ?_⟩
      refine x_inU (SqT.of upd_same) rfl rfl ?_
      walk_at "x"
      exact ⟨by walk_at "sz", fun p5 n5 => q p5 _ (same_new (same_new e3 n4) n5) upd_same⟩
    | giveR =>
      have hw3 : upd (upd (upd H p1 (.lst [.str "take"])) p2 (.lst [.str "again"])) p3 (.tup [.ref p1, .ref p2]) wl = some (.lst [.str "give", .str "rest"]) := hw3
      walk_at "x"
      refine ⟨wl, _, rfl, .inl (SqL.of hw3), ?_⟩
      walk_at "x"
      refine ⟨by walk_at "sz", fun p4 n4 => ?_⟩
      refine x_inU (SqT.of upd_same) rfl rfl ?_
      walk_at "x"
      exact ⟨by walk_at "sz", fun p5 n5 => q p5 _ (same_new (same_new e3 n4) n5) upd_same⟩
    | go r =>
      have hw3 : upd (upd (upd H p1 (.lst [.str "take"])) p2 (.lst [.str "again"])) p3 (.tup [.ref p1, .ref p2]) wl = some (.lst [.str "go", .str (dig r)]) := hw3
      have hrm : r.val < m := of_decide_eq_true hok
      refine x_bl ?_
      refine x_F rfl ?_
      walk_at "x"
      refine ⟨wl, _, rfl, .inl (SqL.of hw3), ?_⟩
      walk_at "x"
      refine x_F rfl ?_
      walk_at "x"
      refine ⟨r, m, rfl, hrm, h8, ?_⟩
      walk_at "x"
      refine ⟨rfl, ?_⟩
      walk_at "x"
      refine x_T rfl ?_
      walk_at "x"
      exact ⟨by walk_at "sz", fun p5 n5 => q p5 _ (same_new e3 n5) upd_same⟩
end
end K48
namespace K48
open PySem PySem.Spec PyProof.Rows L2
local macro_rules | `(tactic| walk_at "hg") => `(tactic| first | assumption | exact upd_same | (apply get_keep; assumption; walk_at "hg") | (apply get_same; assumption; walk_at "hg") | (apply get_mut; assumption; walk_at "hg"))
local macro_rules | `(tactic| walk_at "sq") => `(tactic| first | assumption | (apply SqT.of; walk_at "hg") | (apply SqL.of; walk_at "hg") | (apply same_t; assumption; walk_at "sq") | (apply Same.seq; assumption; walk_at "sq"))
local macro_rules | `(tactic| walk_at "sc") => `(tactic| first | omega | decide | assumption | (unfold CMul; omega) | (unfold CDiv; omega))
local macro_rules | `(tactic| walk_at "x1") => `(tactic| first
  | with_reducible refine x_seq ?_
  | with_reducible refine x_var (by with_unfolding_all rfl) ?_
  | with_reducible refine x_c ?_
  | with_reducible refine x_op ?_
  | with_reducible refine x_rI0 ?_
  | with_reducible refine x_bl ?_
  | with_reducible refine x_rEq (by with_unfolding_all rfl) ?_
  | with_reducible refine x_rNe (by with_unfolding_all rfl) ?_
  | with_reducible refine x_asg ?_
  | with_reducible refine x_gname ?_
  | with_reducible refine x_gcons ?_
  | with_reducible refine x_gnil ?_
  | with_reducible refine x_ret ?_
  | with_reducible refine x_drop ?_
  | with_reducible refine x_next ?_
  | with_reducible refine x_cont ?_
  | with_reducible refine x_brk ?_
  | with_reducible refine x_ifS ?_
  | with_reducible refine x_ifE ?_
  | with_reducible refine x_cons ?_
  | with_reducible refine x_nil ?_
  | with_reducible refine x_test ?_
  | with_reducible refine x_tB ?_
  | with_reducible refine x_and ?_
  | with_reducible refine x_or ?_
  | with_reducible refine x_not ?_
  | with_reducible refine x_andV ?_
  | with_reducible refine x_orV ?_
  | with_reducible refine x_notV ?_
  | with_reducible refine x_chain ?_
  | with_reducible refine x_par ?_
  | with_reducible refine x_two ?_
  | with_reducible refine x_un ?_
  | with_reducible refine x_rU ?_
  | with_reducible refine x_cb ?_
  | with_reducible refine x_call ?_
  | with_reducible refine x_sl ?_
  | with_reducible refine x_nopart ?_
  | with_reducible refine x_part ?_
  | with_reducible refine x_int ?_
  | with_reducible refine x_tup ?_
  | with_reducible refine x_lst ?_
  | with_reducible refine x_bm ?_
  | with_reducible refine x_fld ?_
  | with_reducible refine x_chain3 ?_
  | with_reducible refine x_yes ?_
  | with_reducible refine x_lcT ?_
  | with_reducible refine x_lcL ?_
  | with_reducible refine x_for ?_
  | with_reducible refine x_iT ?_
  | with_reducible refine x_iL ?_
  | with_reducible refine x_rng1 ?_
  | with_reducible refine x_rng2 ?_
  | with_reducible refine x_dcT ?_
  | with_reducible refine x_din ?_
  | with_reducible refine x_dni ?_
  | with_reducible refine x_m1 ?_
  | with_reducible refine x_sw ?_
  | with_reducible refine x_ss ?_
  | ((with_reducible apply x_ixT); (focus (walk_at "sq"; done)); (focus (with_unfolding_all rfl; done)))
  | ((with_reducible apply x_ixL); (focus (walk_at "sq"; done)); (focus (with_unfolding_all rfl; done)))
  | ((with_reducible apply x_gtup); (focus (walk_at "sq"; done)); (focus (with_unfolding_all rfl; done)))
  | ((with_reducible apply x_glst); (focus (walk_at "sq"; done)); (focus (with_unfolding_all rfl; done)))
  | with_reducible refine x_F dn_int ?_
  | with_reducible refine x_F dn_ref ?_
  | with_reducible refine x_T dn_non ?_
  | with_reducible refine x_T (by decide +kernel) ?_
  | with_reducible refine x_F (by decide +kernel) ?_)
local macro_rules | `(tactic| walk_at "sz") => `(tactic| first | (exact Nat.le_of_ble_eq_true rfl) | decide | omega)
local macro_rules | `(tactic| walk_at "x") => `(tactic| ((walk_at "x1"); repeat (walk_at "x1")))
/-! ### step_in -/
section
variable {P : Program} {w : World} {K : PySem.W.Frag} {mg : Str → Option Value} {base : Heap}
def spStep : Sp := fun vs H Q _ => ∃ (r : Row) (i m : Nat), vs = [.str r.text, .int i, .int m] ∧ r.ok i m = true ∧ m ≤ 8 ∧ ∀ t H', Same H H' → H' t = some (.tup r.step) → Q (.ref t) H'
theorem sc_step_in : FnScope ["row", "at", "many", "words", "place", "head", "last"] ["row", "at", "many"] (defScope s_step_in) := ⟨rfl, rfl, rfl, by decide +kernel, rfl, by decide +kernel, by decide +kernel⟩
def hd (r : Row) : Str := match r with
  | .less s _ => s.head
  | .take => "" | .again => ""
  | .go _ => "go"
  | _ => "give"
def joinOk (ys : List Str) (z : Str) : Prop := Txt.join (" " : Str) ys = z ∧ (ys.map (·.length)).sum + ys.length * (" " : Str).length ≤ 16777216
instance (ys : List Str) (z : Str) : Decidable (joinOk ys z) := inferInstanceAs (Decidable (_ ∧ _))
theorem hd_eq (r : Row) (h : r.words.length ≠ 6) : joinOk r.words.dropLast (hd r) ∧ cutV (r.words.map V.str) none (some (-1)) = r.words.dropLast.map V.str := by
  cases r with
  | iff c q r => exact absurd rfl h
  | less s q => cases s <;> cases q <;> exact ⟨by decide +kernel, rfl⟩
  | go r => exact ⟨show joinOk ["go"] "go" by decide +kernel, rfl⟩
  | take => exact ⟨by decide +kernel, rfl⟩
  | again => exact ⟨by decide +kernel, rfl⟩
  | giveC => exact ⟨by decide +kernel, rfl⟩
  | giveR => exact ⟨by decide +kernel, rfl⟩
theorem ok_step_in (T : Tx w K mg) (B : HasDef K mg "step_in" s_step_in ["row", "at", "many"]) (D_place_in : Def P w K mg base "place_in" 1 ["word", "many"] spPlace) (D_plain_step_in : Def P w K mg base "plain_step_in" 2 ["words", "many"] spPlain) :
    Def P w K mg base "step_in" 3 ["row", "at", "many"] spStep := by
  refine Def.mk B sc_step_in (fun vs H Q E h => ?_) (fun f cdv A outer s H vs Q E hr h => ?_)
  · obtain ⟨r, i, m, rfl, _⟩ := h
    rfl
  · obtain ⟨r, i, m, rfl, hok, h8, q⟩ := h
    obtain ⟨esQ, nQ, dQ⟩ := T.kdQ
    obtain ⟨esS, nS, dS⟩ := T.kdS
    refine ⟨_, (pss_cons (ps_if (pt_not (pt_val (pe_callB call_isi (by rfl) T.z_isinstance boot_isinstance' (pa_cons (pv 0) (pa_cons (pe_bltn (by rfl) T.z_str boot_str' (v := .ty "str") rfl) pa_nil))))) (pss_one (ps_ret pe_non)) pss_nil)
      (pss_cons (ps_set (i := 3) sc_step_in.nd rfl (Or.inl rfl) (pe_split (pv 0) pe_str))
      (pss_cons (ps_if (PW.pt (pw_and (pt_cmpR op_eq (pe_callB call_len_seq (by rfl) T.z_len boot_len' (pa_cons (pv 3) pa_nil)) pe_int (nomark _)) (pw_and (pt_cmpR op_eq (pe_ix ix_list (pv 3) pe_int (fun _ _ => rfl)) pe_str (nomark _)) (pw_and (pt_cmpR op_eq (pe_ix ix_list (pv 3) pe_int (fun _ _ => rfl)) pe_str (nomark _)) (pw_and1 (pt_cmpR op_eq (pe_ix ix_list (pv 3) pe_int (fun _ _ => rfl)) pe_str (nomark _))))))) (pss_cons (ps_set (i := 4) sc_step_in.nd rfl (Or.inl rfl) (pe_d D_place_in hr (pa_cons (pe_ix ix_list (pv 3) pe_int (fun _ _ => rfl)) (pa_cons (pv 2) pa_nil))))
      (pss_cons (ps_if (PW.pt (pw_or (pt_cmpR op_notIn_seq (pe_ix ix_list (pv 3) pe_int (fun _ _ => rfl)) (pe_tup (pa_cons pe_str (pa_cons pe_str pa_nil))) (by rfl)) (pw_or (pt_cmpR (op_notIn_kd dQ) (pe_ix ix_list (pv 3) pe_int (fun _ _ => rfl)) (g_ref T.gQ) (by rfl)) (pw_or (pt_cmpR op_isN (pv 4) pe_non (nomark _)) (pw_or1 (pt_cmpR op_eq (pv 4) (pe_op op_add (pv 1) pe_int) (nomark _))))))) (pss_one (ps_ret pe_non)) pss_nil)
      (pss_one (ps_ret (pe_tup (pa_cons pe_str (pa_cons (pe_ix ix_list (pv 3) pe_int (fun _ _ => rfl)) (pa_cons (pe_ix ix_kdict (g_ref T.gQ) (pe_ix ix_list (pv 3) pe_int (fun _ _ => rfl)) (fun _ _ => rfl)) (pa_cons (pv 4) pa_nil))))))))) pss_nil)
      (pss_cons (ps_par (i := 5) (j := 6) (by rfl) sc_step_in.nd rfl rfl (by decide) rfl rfl (pa_cons (pe_join pe_str (pe_slice sl_list (pv 3) po_none (po_some (pe_un un_neg pe_int)))) (pa_cons (pe_ix ix_list (pv 3) (pe_un un_neg pe_int) (fun _ _ => rfl)) pa_nil)) (by rfl))
      (pss_cons (ps_if (PW.pt (pw_and (pt_cmpR (op_in_kd dS) (pv 5) (g_ref T.gS) (by rfl)) (pw_and1 (pt_cmpR (op_in_kd dQ) (pv 6) (g_ref T.gQ) (by rfl))))) (pss_one (ps_ret (pe_tup (pa_cons pe_str (pa_cons (pe_ix ix_kdict (g_ref T.gS) (pv 5) (fun _ _ => rfl)) (pa_cons (pe_ix ix_kdict (g_ref T.gQ) (pv 6) (fun _ _ => rfl)) pa_nil)))))) pss_nil)
      (pss_one (ps_ret (pe_d D_plain_step_in hr (pa_cons (pv 3) (pa_cons (pv 2) pa_nil)))))))))), ?_⟩
    obtain ⟨t1, t2⟩ := split_row r
    walk_at "x"
    refine x_isStr trivial ?_
    walk_at "x"
    refine x_F rfl ?_
    walk_at "x"
    refine ⟨r.text, " ", rfl, rfl, by decide +kernel, Nat.le_trans (Nat.add_le_add_right t2 2) (by decide), fun wl nl => ?_⟩
    rw [t1]
    have e1 := same_new (u := .lst (r.words.map V.str)) (Same.refl H) nl
    walk_at "x"
    refine ⟨wl, _, rfl, .inl (SqL.of upd_same), ?_⟩
    walk_at "x"
    by_cases h6 : r.words.length = 6
    · cases r with
      | iff c q5 r =>
        have hrm : r.val < m ∧ r.val ≠ i + 1 := by
          have := Bool.and_eq_true_iff.mp hok
          exact ⟨of_decide_eq_true this.1, of_decide_eq_true this.2⟩
        have hw : upd H wl (.lst ((Row.iff c q5 r).words.map V.str)) wl = some (.lst [.str "if", .str (cvS c), .str "<", .str q5.text, .str "go", .str (dig r)]) := upd_same
        refine x_T rfl ?_
        walk_at "x"
        refine ⟨r, m, rfl, hrm.1, h8, ?_⟩
        walk_at "x"
        refine ⟨by walk_at "sz", fun p2 n2 => ?_⟩
        have hw2 := get_keep (u := .tup [.str "c", .str "v"]) n2 hw
        have e2 := same_new (u := .tup [.str "c", .str "v"]) e1 n2
        refine x_niU (SqT.of upd_same) rfl rfl ?_
        walk_at "x"
        refine x_F (by cases c <;> decide +kernel) ?_
        walk_at "x"
        obtain ⟨u, hu, ru⟩ := vQ_of T q5
        refine ⟨q5.text, some u, rfl, rfl, hu, ?_⟩
        walk_at "x"
        refine x_F rfl ?_
        walk_at "x"
        refine ⟨rfl, ?_⟩
        walk_at "x"
        refine x_F (by rw [dV_int]; exact decide_eq_false (by omega)) ?_
        walk_at "x"
        refine ⟨aQ K, q5.text, .int q5.times, rfl, rfl, ⟨esQ, nQ, u, dQ.at_, dQ.lit, hu, ru⟩, ?_⟩
        walk_at "x"
        exact ⟨by walk_at "sz", fun p5 n5 => q p5 _ (same_new e2 n5) upd_same⟩
      | less s q => cases s <;> cases h6
      | take => cases h6
      | again => cases h6
      | giveC => cases h6
      | giveR => cases h6
      | go r => cases h6
    · refine x_F (by rw [dV_int, List.length_map]; exact decide_eq_false (by omega)) ?_
      walk_at "x"
      refine ⟨wl, _, rfl, SqL.of upd_same, fun w2 n2 => ?_⟩
      obtain ⟨⟨j1, j2⟩, j3⟩ := hd_eq r h6
      rw [j3]
      refine ⟨" ", w2, r.words.dropLast, rfl, rfl, .inl (SqL.of upd_same), j2, ?_⟩
      rw [j1]
      have hw2 := get_keep (u := .lst (r.words.dropLast.map V.str)) n2 (upd_same (H := H) (a := wl) (o := .lst (r.words.map V.str)))
      have e2 := same_new (u := .lst (r.words.dropLast.map V.str)) e1 n2
      generalize upd (upd H wl (.lst (r.words.map V.str))) w2 (.lst (r.words.dropLast.map V.str)) = H2 at hw2 e2
      cases r with
      | iff c q5 r => exact absurd rfl h6
      | less s q5 =>
        obtain ⟨u, hu, ru⟩ := vS_of T s
        obtain ⟨u2, hu2, ru2⟩ := vQ_of T q5
        have hl : atI ((Row.less s q5).words.map V.str) (-1) = some (.str q5.text) := by cases s <;> rfl
        walk_at "x"
        refine x_ixL (SqL.of hw2) hl ?_
        walk_at "x"
        refine ⟨s.head, some u, rfl, rfl, hu, ?_⟩
        walk_at "x"
        refine x_T rfl ?_
        walk_at "x"
        refine ⟨q5.text, some u2, rfl, rfl, hu2, ?_⟩
        walk_at "x"
        refine x_T rfl ?_
        walk_at "x"
        refine ⟨aS K, s.head, .str s.who, rfl, rfl, ⟨esS, nS, u, dS.at_, dS.lit, hu, ru⟩, ?_⟩
        walk_at "x"
        refine ⟨aQ K, q5.text, .int q5.times, rfl, rfl, ⟨esQ, nQ, u2, dQ.at_, dQ.lit, hu2, ru2⟩, ?_⟩
        walk_at "x"
        exact ⟨by walk_at "sz", fun p5 n5 => q p5 _ (same_new e2 n5) upd_same⟩
      | take =>
        have hw2 : H2 wl = some (.lst [.str "take"]) := hw2
        walk_at "x"
        refine ⟨"", none, rfl, rfl, T.oS0, ?_⟩
        walk_at "x"
        exact ⟨.take, wl, m, i, rfl, hw2, rfl, hok, h8, fun t H' e' ht => q t H' (e2.trans e') ht⟩
      | again =>
        have hw2 : H2 wl = some (.lst [.str "again"]) := hw2
        walk_at "x"
        refine ⟨"", none, rfl, rfl, T.oS0, ?_⟩
        walk_at "x"
        exact ⟨.again, wl, m, i, rfl, hw2, rfl, hok, h8, fun t H' e' ht => q t H' (e2.trans e') ht⟩
      | giveC =>
        have hw2 : H2 wl = some (.lst [.str "give", .str "c"]) := hw2
        walk_at "x"
        refine ⟨"give", none, rfl, rfl, T.oS1, ?_⟩
        walk_at "x"
        exact ⟨.giveC, wl, m, i, rfl, hw2, rfl, hok, h8, fun t H' e' ht => q t H' (e2.trans e') ht⟩
      | giveR =>
        have hw2 : H2 wl = some (.lst [.str "give", .str "rest"]) := hw2
        walk_at "x"
        refine ⟨"give", none, rfl, rfl, T.oS1, ?_⟩
        walk_at "x"
        exact ⟨.giveR, wl, m, i, rfl, hw2, rfl, hok, h8, fun t H' e' ht => q t H' (e2.trans e') ht⟩
      | go r =>
        have hw2 : H2 wl = some (.lst [.str "go", .str (dig r)]) := hw2
        walk_at "x"
        refine ⟨"go", none, rfl, rfl, T.oS2, ?_⟩
        walk_at "x"
        exact ⟨.go r, wl, m, i, rfl, hw2, rfl, hok, h8, fun t H' e' ht => q t H' (e2.trans e') ht⟩
end
end K48
namespace K48
open PySem PySem.Spec PyProof.Rows L2
local macro_rules | `(tactic| walk_at "hg") => `(tactic| first | assumption | exact upd_same | (apply get_keep; assumption; walk_at "hg") | (apply get_same; assumption; walk_at "hg") | (apply get_mut; assumption; walk_at "hg"))
local macro_rules | `(tactic| walk_at "sq") => `(tactic| first | assumption | (apply SqT.of; walk_at "hg") | (apply SqL.of; walk_at "hg") | (apply same_t; assumption; walk_at "sq") | (apply Same.seq; assumption; walk_at "sq"))
local macro_rules | `(tactic| walk_at "sc") => `(tactic| first | omega | decide | assumption | (unfold CMul; omega) | (unfold CDiv; omega))
local macro_rules | `(tactic| walk_at "x1") => `(tactic| first
  | with_reducible refine x_seq ?_
  | with_reducible refine x_var (by with_unfolding_all rfl) ?_
  | with_reducible refine x_c ?_
  | with_reducible refine x_op ?_
  | with_reducible refine x_rI0 ?_
  | with_reducible refine x_bl ?_
  | with_reducible refine x_rEq (by with_unfolding_all rfl) ?_
  | with_reducible refine x_rNe (by with_unfolding_all rfl) ?_
  | with_reducible refine x_asg ?_
  | with_reducible refine x_gname ?_
  | with_reducible refine x_gcons ?_
  | with_reducible refine x_gnil ?_
  | with_reducible refine x_ret ?_
  | with_reducible refine x_drop ?_
  | with_reducible refine x_next ?_
  | with_reducible refine x_cont ?_
  | with_reducible refine x_brk ?_
  | with_reducible refine x_ifS ?_
  | with_reducible refine x_ifE ?_
  | with_reducible refine x_cons ?_
  | with_reducible refine x_nil ?_
  | with_reducible refine x_test ?_
  | with_reducible refine x_tB ?_
  | with_reducible refine x_and ?_
  | with_reducible refine x_or ?_
  | with_reducible refine x_not ?_
  | with_reducible refine x_andV ?_
  | with_reducible refine x_orV ?_
  | with_reducible refine x_notV ?_
  | with_reducible refine x_chain ?_
  | with_reducible refine x_par ?_
  | with_reducible refine x_two ?_
  | with_reducible refine x_un ?_
  | with_reducible refine x_rU ?_
  | with_reducible refine x_cb ?_
  | with_reducible refine x_call ?_
  | with_reducible refine x_sl ?_
  | with_reducible refine x_nopart ?_
  | with_reducible refine x_part ?_
  | with_reducible refine x_int ?_
  | with_reducible refine x_tup ?_
  | with_reducible refine x_lst ?_
  | with_reducible refine x_bm ?_
  | with_reducible refine x_fld ?_
  | with_reducible refine x_chain3 ?_
  | with_reducible refine x_yes ?_
  | with_reducible refine x_lcT ?_
  | with_reducible refine x_lcL ?_
  | with_reducible refine x_for ?_
  | with_reducible refine x_iT ?_
  | with_reducible refine x_iL ?_
  | with_reducible refine x_rng1 ?_
  | with_reducible refine x_rng2 ?_
  | with_reducible refine x_dcT ?_
  | with_reducible refine x_din ?_
  | with_reducible refine x_dni ?_
  | with_reducible refine x_m1 ?_
  | with_reducible refine x_sw ?_
  | with_reducible refine x_ss ?_
  | ((with_reducible apply x_ixT); (focus (walk_at "sq"; done)); (focus (with_unfolding_all rfl; done)))
  | ((with_reducible apply x_ixL); (focus (walk_at "sq"; done)); (focus (with_unfolding_all rfl; done)))
  | ((with_reducible apply x_gtup); (focus (walk_at "sq"; done)); (focus (with_unfolding_all rfl; done)))
  | ((with_reducible apply x_glst); (focus (walk_at "sq"; done)); (focus (with_unfolding_all rfl; done)))
  | with_reducible refine x_F dn_int ?_
  | with_reducible refine x_F dn_ref ?_
  | with_reducible refine x_T dn_non ?_
  | with_reducible refine x_T (by decide +kernel) ?_
  | with_reducible refine x_F (by decide +kernel) ?_)
local macro_rules | `(tactic| walk_at "sz") => `(tactic| first | (exact Nat.le_of_ble_eq_true rfl) | decide | omega)
local macro_rules | `(tactic| walk_at "x") => `(tactic| ((walk_at "x1"); repeat (walk_at "x1")))
/-! ### loops over enumerate -/
section
variable {K : PySem.W.Frag} {a : Addr} {xs : List V} {g : TG} {tb : TS} {D : Ends} {σ : L2.St} {H : Hp} {ta : TA} {R : It → Hp → Prop} {Q : VK} {tt : TT} {te : TE} {vs : List Nat}
theorem x_enS (q : ta σ H fun vs H1 => ∃ a xs, vs = [.ref a] ∧ ((SqT K H1 a xs ∧ R (EnT K a) H1) ∨ (SqL K H1 a xs ∧ R (Ite K a) H1))) : iEnS K ta σ H R := q
theorem forEnT (Pv : Nat → L2.St → Hp → Prop) (h0 : Pv 0 σ H) (hl : ∀ i σ H, Pv i σ H → SqT K H a xs)
    (hs : ∀ i x σ H T, xs[i]? = some x → Pv i σ H → H T = none → g (.ref T) σ (upd H T (.tup [.int (i : Nat), x])) fun σ2 H2 => tb { D with nx := Pv (i + 1), ct := Pv (i + 1), bk := D.nx } σ2 H2) (hd : ∀ σ H, Pv xs.length σ H → D.nx σ H) : ForIt (EnT K a) g tb D σ H := by
  refine ⟨fun i m σ H => m = xs.length - i ∧ i ≤ xs.length ∧ Pv i σ H, ⟨xs.length, rfl, Nat.zero_le _, h0⟩, ?_⟩
  rintro i m σ H ⟨rfl, hi, p⟩
  have q := hl i σ H p
  by_cases hlt : i < xs.length
  · refine .inr ⟨⟨xs, xs[i], q, List.getElem?_eq_getElem hlt⟩, Pv (i + 1), fun σ' H' p' => ⟨xs.length - (i + 1), by omega, rfl, hlt, p'⟩, fun x H' y => ?_⟩
    obtain ⟨T, x', rfl, nT, rfl, y⟩ := y
    exact hs i x' σ H T (y xs q) p nT
  · have e : i = xs.length := by omega
    subst e
    exact .inl ⟨⟨xs, q, rfl⟩, hd σ H p⟩
theorem forEnL (Pv : Nat → L2.St → Hp → Prop) (h0 : Pv 0 σ H) (hl : ∀ i σ H, Pv i σ H → SqL K H a xs)
    (hs : ∀ i x σ H T, xs[i]? = some x → Pv i σ H → H T = none → g (.ref T) σ (upd H T (.tup [.int (i : Nat), x])) fun σ2 H2 => tb { D with nx := Pv (i + 1), ct := Pv (i + 1), bk := D.nx } σ2 H2) (hd : ∀ σ H, Pv xs.length σ H → D.nx σ H) : ForIt (Ite K a) g tb D σ H := by
  refine ⟨fun i m σ H => m = xs.length - i ∧ i ≤ xs.length ∧ Pv i σ H, ⟨xs.length, rfl, Nat.zero_le _, h0⟩, ?_⟩
  rintro i m σ H ⟨rfl, hi, p⟩
  have q := hl i σ H p
  by_cases hlt : i < xs.length
  · refine .inr ⟨⟨xs, xs[i], q, List.getElem?_eq_getElem hlt⟩, Pv (i + 1), fun σ' H' p' => ⟨xs.length - (i + 1), by omega, rfl, hlt, p'⟩, fun x H' y => ?_⟩
    obtain ⟨T, x', rfl, nT, rfl, y⟩ := y
    exact hs i x' σ H T (y xs q) p nT
  · have e : i = xs.length := by omega
    subst e
    exact .inl ⟨⟨xs, q, Nat.le_refl _⟩, hd σ H p⟩
theorem forEnS (src : H a = some (.tup xs) ∨ H a = some (.lst xs)) (Pv : Nat → L2.St → Hp → Prop) (h0 : Pv 0 σ H) (hl : ∀ i σ H', Pv i σ H' → Same H H')
    (hs : ∀ i x σ H T, xs[i]? = some x → Pv i σ H → H T = none → g (.ref T) σ (upd H T (.tup [.int (i : Nat), x])) fun σ2 H2 => tb { D with nx := Pv (i + 1), ct := Pv (i + 1), bk := D.nx } σ2 H2) (hd : ∀ σ H, Pv xs.length σ H → D.nx σ H) :
    (SqT K H a xs ∧ ForIt (EnT K a) g tb D σ H) ∨ (SqL K H a xs ∧ ForIt (Ite K a) g tb D σ H) := by
  rcases src with h | h
  · exact .inl ⟨SqT.of h, forEnT Pv h0 (fun i σ H' p => SqT.of (hl i σ H' p _ _ h)) hs hd⟩
  · exact .inr ⟨SqL.of h, forEnL Pv h0 (fun i σ H' p => SqL.of (hl i σ H' p _ _ h)) hs hd⟩
/-- .. in a list comprehension, of a tuple -/
def LcE (K : PySem.W.Frag) (g : TG) (tt : TT) (te : TE) (vs : List Nat) (σ : L2.St) (Q : VK) (ws : List V) (H1 : Hp) : Prop := ∃ a xs, ws = [.ref a] ∧ SqT K H1 a xs ∧ ∀ D, H1 D = none → ∃ W : Nat → Nat → Hp → Prop, (∃ m, W 0 m (upd H1 D (.lst []))) ∧ ∀ i m H, W i m H →
  ((EnT K a).stop i H ∧ Q (.ref D) H) ∨ ((EnT K a).go i H ∧ ∃ Nx : Hp → Prop, (∀ H', Nx H' → ∃ m', m' < m ∧ W (i + 1) m' H') ∧ ∀ x H', (EnT K a).yld i H x H' → g x (wipe σ vs) H' fun σ2 H2 => wipe σ2 vs = wipe σ vs ∧ tt σ2 H2 fun b H3 =>
    if b = true then te σ2 H3 fun y H4 => ∃ acc, H4 D = some (.lst acc) ∧ acc.length < sizeLine ∧ Nx (upd H4 D (.lst (acc ++ [y]))) else Nx H3)
theorem x_lcE (q : ta σ H fun x H1 => LcE K g tt te vs σ Q x H1) : tLc (iEnT K ta) g tt te vs σ H Q := q
theorem lcE_go {j1 j2 : Nat} (G : Nat → Hp → List V → Prop) (h : H a = some (.tup xs)) (hz : xs.length < sizeLine) (g0 : G 0 H []) (mono : ∀ i H H' l, TupSame H H' → G i H l → G i H' l) (hw : ∀ x y, wipe (((wipe σ vs).set j1 (some x)).set j2 (some y)) vs = wipe σ vs)
    (turn : ∀ i x H' l, xs[i]? = some x → Same H H' → G i H' l → ∀ (KT : VK), (∀ y H4, Same H' H4 → G (i + 1) H4 (l ++ [y]) → KT y H4) → te (((wipe σ vs).set j1 (some (.int (i : Nat)))).set j2 (some x)) H' KT)
    (q : ∀ D H' l, H D = none → Same H H' → H' D = some (.lst l) → G xs.length H' l → Q (.ref D) H') : LcE K (gTup K 2 (gCons (gName j1) (gCons (gName j2) gNil))) tYes te vs σ Q [.ref a] H := by
  refine ⟨a, xs, rfl, SqT.of h, fun D nD => ⟨fun i m H' => m = xs.length - i ∧ i ≤ xs.length ∧ Same H H' ∧ ∃ l, l.length ≤ i ∧ H' D = some (.lst l) ∧ G i H' l, ⟨xs.length, rfl, Nat.zero_le _, same_new (Same.refl _) nD, [], Nat.le_refl _, upd_same, mono _ _ _ _ (Same.tups (same_new (Same.refl _) nD)) g0⟩, ?_⟩⟩
  rintro i m H' ⟨rfl, hi, e, l, hl, hD, hG⟩
  by_cases hlt : i < xs.length
  · refine .inr ⟨⟨xs, xs[i], SqT.of (e _ _ h), List.getElem?_eq_getElem hlt⟩, fun H' => Same H H' ∧ ∃ l, l.length ≤ i + 1 ∧ H' D = some (.lst l) ∧ G (i + 1) H' l, fun H' p' => ⟨xs.length - (i + 1), by omega, rfl, hlt, p'⟩, fun x H2 y => ?_⟩
    obtain ⟨T, x', rfl, nT, rfl, y⟩ := y
    have hx := y xs (SqT.of (e _ _ h))
    have e2 := same_new (u := .tup [.int (i : Nat), x']) (Same.refl H') nT
    refine x_gtup (SqT.of upd_same) rfl ?_
    refine x_gcons ?_
    refine x_gname ?_
    refine x_gcons ?_
    refine x_gname ?_
    refine x_gnil ?_
    refine ⟨hw _ _, ?_⟩
    refine x_yes ?_
    refine x_T rfl ?_
    refine turn i x' _ l hx (e.trans e2) (mono _ _ _ _ (Same.tups e2) hG) _ fun y H4 e4 g4 => ?_
    have hD4 := e4 _ _ (e2 _ _ hD)
    have ts : TupSame H4 (upd H4 D (.lst (l ++ [y]))) := fun b zs hb => (upd_ne (fun z => by rw [z, hD4] at hb; cases hb)).trans hb
    exact ⟨l, hD4, by omega, same_mut ((e.trans e2).trans e4) nD, l ++ [y], by rw [List.length_append, List.length_singleton]; omega, upd_same, mono _ _ _ _ ts g4⟩
  · have en : i = xs.length := by omega
    subst en
    exact .inl ⟨⟨xs, SqT.of (e _ _ h), rfl⟩, q D H' l nD e hD hG⟩
end
/-! ### wrong_row -/
section
variable {P : Program} {w : World} {K : PySem.W.Frag} {mg : Str → Option Value} {base : Heap}
def textsV (rows : List Row) : List V := rows.map fun r => V.str r.text
def spWrong : Sp := fun vs H Q _ => ∃ (a : Addr) (rows : List Row), vs = [.ref a] ∧ (H a = some (.tup (textsV rows)) ∨ H a = some (.lst (textsV rows))) ∧ Prg rows ∧ ∀ t H', Same H H' → H' t = some (.tup []) → Q (.ref t) H'
theorem sc_wrong_row : FnScope ["rows", "many", "at", "row", "step"] ["rows"] (defScope s_wrong_row) := ⟨rfl, rfl, rfl, by decide +kernel, rfl, by decide +kernel, by decide +kernel⟩
theorem row_lasts (r : Row) (h : r.lasts = true) : ∃ t rest, r.step = .str t :: rest ∧ inV (.str t) [.str "go", .str "give", .str "again"] = true := by
  cases r with
  | take => cases h
  | iff _ _ _ => cases h
  | less _ _ => cases h
  | _ => exact ⟨_, _, rfl, by decide +kernel⟩
theorem ok_wrong_row (T : Tx w K mg) (B : HasDef K mg "wrong_row" s_wrong_row ["rows"]) (D_step_in : Def P w K mg base "step_in" 3 ["row", "at", "many"] spStep) : Def P w K mg base "wrong_row" 4 ["rows"] spWrong := by
  refine Def.mk B sc_wrong_row (fun vs H Q E h => ?_) (fun f cdv A outer s H vs Q E hr h => ?_)
  · obtain ⟨a, rows, rfl, _⟩ := h
    rfl
  · obtain ⟨a, rows, rfl, ha, pr, q⟩ := h
    refine ⟨_, (pss_cons (ps_set (i := 1) sc_wrong_row.nd rfl (Or.inl rfl) (pe_callB call_len_seq (by rfl) T.z_len boot_len' (pa_cons (pv 0) pa_nil)))
      (pss_cons (ps_if (pt_not (pt_chain op_le op_le pe_int (pv 1) (g_int T.mostRows))) (pss_one (ps_ret (pe_tup (pa_cons pe_non pa_nil)))) pss_nil)
      (pss_cons (ps_for PassesOwn.never (by rfl) (pi_enS (by rfl) T.z_enumerate (pa_cons (pv 0) pa_nil)) (pg_tup rfl (pgs_cons (pg_name (i := 2) sc_wrong_row.nd rfl (Or.inl rfl)) (pgs_cons (pg_name (i := 3) sc_wrong_row.nd rfl (Or.inl rfl)) pgs_nil)))
      (pss_cons (ps_set (i := 4) sc_wrong_row.nd rfl (Or.inl rfl) (pe_d D_step_in hr (pa_cons (pv 3) (pa_cons (pv 2) (pa_cons (pv 1) pa_nil)))))
      (pss_one (ps_if (PW.pt (pw_or (pt_cmpR op_isN (pv 4) pe_non (nomark _)) (pw_or1 (PW.pt (pw_and (pt_cmpR op_eq (pv 2) (pe_op op_sub (pv 1) pe_int) (nomark _)) (pw_and1 (pt_cmpR op_notIn_seq (pe_ix ix_tup (pv 4) pe_int (fun _ _ => rfl)) (pe_tup (pa_cons pe_str (pa_cons pe_str (pa_cons pe_str pa_nil)))) (by rfl)))))))) (pss_one (ps_ret (pe_tup (pa_cons (pv 2) pa_nil)))) pss_nil))))
      (pss_one (ps_ret (pe_tup pa_nil)))))), ?_⟩
    have hlr : (textsV rows).length = rows.length := List.length_map _
    walk_at "x"
    refine ⟨a, textsV rows, rfl, ha.elim (fun h => .inr (SqT.of h)) (fun h => .inl (SqL.of h)), ?_⟩
    rw [hlr]
    walk_at "x"
    refine x_T (by have := pr.pos; exact decide_eq_true (by omega)) ?_
    walk_at "x"
    refine x_F (by have := pr.most; rw [decide_eq_true (by omega)]; rfl) ?_
    walk_at "x"
    refine x_enS ?_
    walk_at "x"
    refine ⟨a, textsV rows, rfl, forEnS ha (fun i σ H' => ∃ v2 v3 v4 : Option V, σ = [some (.ref a), some (.int (rows.length : Nat)), v2, v3, v4] ∧ Same H H') ⟨none, none, none, rfl, Same.refl _⟩ (fun i σ H' p => let ⟨_, _, _, _, e⟩ := p; e) (fun i x σ H' T' hx hP nT => ?_) (fun σ H' hP => ?_)⟩
    · obtain ⟨v2, v3, v4, rfl, e⟩ := hP
      obtain ⟨r, hr2, rfl⟩ := map_get hx
      obtain ⟨ok1, ok2⟩ := pr.ok i r hr2
      have e2 := same_new (u := .tup [.int (i : Nat), .str r.text]) (Same.refl H') nT
      walk_at "x"
      refine ⟨r, i, rows.length, rfl, ok1, pr.most, fun t H3 e3 ht => ?_⟩
      walk_at "x"
      refine ⟨rfl, ?_⟩
      walk_at "x"
      refine x_TF (fun h1 => ?_) (fun h1 => ?_)
      · have hi : i + 1 = rows.length := by
          rw [dV_int] at h1
          have := of_decide_eq_true h1
          omega
        obtain ⟨z, rest, hst, hin⟩ := row_lasts r (ok2 hi)
        rw [hst] at ht
        walk_at "x"
        refine x_ixT (SqT.of ht) (at_of (j := 0) rfl rfl) ?_
        walk_at "x"
        refine ⟨by walk_at "sz", fun p4 n4 => ?_⟩
        refine x_niU (SqT.of upd_same) rfl rfl ?_
        rw [hin]
        walk_at "x"
        exact ⟨_, _, _, rfl, ((e.trans e2).trans e3).trans (same_new (Same.refl _) n4)⟩
      · walk_at "x"
        exact ⟨_, _, _, rfl, (e.trans e2).trans e3⟩
    · obtain ⟨v2, v3, v4, rfl, e⟩ := hP
      walk_at "x"
      exact ⟨Nat.zero_le _, fun p n => q p _ (same_new e n) upd_same⟩
end
end K48
namespace K48
open PySem PySem.Spec PyProof.Rows L2
local macro_rules | `(tactic| walk_at "hg") => `(tactic| first | assumption | exact upd_same | (apply get_keep; assumption; walk_at "hg") | (apply get_same; assumption; walk_at "hg") | (apply get_mut; assumption; walk_at "hg"))
local macro_rules | `(tactic| walk_at "sq") => `(tactic| first | assumption | (apply SqT.of; walk_at "hg") | (apply SqL.of; walk_at "hg") | (apply same_t; assumption; walk_at "sq") | (apply Same.seq; assumption; walk_at "sq"))
local macro_rules | `(tactic| walk_at "sc") => `(tactic| first | omega | decide | assumption | (unfold CMul; omega) | (unfold CDiv; omega))
local macro_rules | `(tactic| walk_at "x1") => `(tactic| first
  | with_reducible refine x_seq ?_
  | with_reducible refine x_var (by with_unfolding_all rfl) ?_
  | with_reducible refine x_c ?_
  | with_reducible refine x_op ?_
  | with_reducible refine x_rI0 ?_
  | with_reducible refine x_bl ?_
  | with_reducible refine x_rEq (by with_unfolding_all rfl) ?_
  | with_reducible refine x_rNe (by with_unfolding_all rfl) ?_
  | with_reducible refine x_asg ?_
  | with_reducible refine x_gname ?_
  | with_reducible refine x_gcons ?_
  | with_reducible refine x_gnil ?_
  | with_reducible refine x_ret ?_
  | with_reducible refine x_drop ?_
  | with_reducible refine x_next ?_
  | with_reducible refine x_cont ?_
  | with_reducible refine x_brk ?_
  | with_reducible refine x_ifS ?_
  | with_reducible refine x_ifE ?_
  | with_reducible refine x_cons ?_
  | with_reducible refine x_nil ?_
  | with_reducible refine x_test ?_
  | with_reducible refine x_tB ?_
  | with_reducible refine x_and ?_
  | with_reducible refine x_or ?_
  | with_reducible refine x_not ?_
  | with_reducible refine x_andV ?_
  | with_reducible refine x_orV ?_
  | with_reducible refine x_notV ?_
  | with_reducible refine x_chain ?_
  | with_reducible refine x_par ?_
  | with_reducible refine x_two ?_
  | with_reducible refine x_un ?_
  | with_reducible refine x_rU ?_
  | with_reducible refine x_cb ?_
  | with_reducible refine x_call ?_
  | with_reducible refine x_sl ?_
  | with_reducible refine x_nopart ?_
  | with_reducible refine x_part ?_
  | with_reducible refine x_int ?_
  | with_reducible refine x_tup ?_
  | with_reducible refine x_lst ?_
  | with_reducible refine x_bm ?_
  | with_reducible refine x_fld ?_
  | with_reducible refine x_chain3 ?_
  | with_reducible refine x_yes ?_
  | with_reducible refine x_lcT ?_
  | with_reducible refine x_lcL ?_
  | with_reducible refine x_for ?_
  | with_reducible refine x_iT ?_
  | with_reducible refine x_iL ?_
  | with_reducible refine x_rng1 ?_
  | with_reducible refine x_rng2 ?_
  | with_reducible refine x_dcT ?_
  | with_reducible refine x_din ?_
  | with_reducible refine x_dni ?_
  | with_reducible refine x_lcE ?_
  | with_reducible refine x_enS ?_
  | with_reducible refine x_m1 ?_
  | with_reducible refine x_sw ?_
  | with_reducible refine x_ss ?_
  | ((with_reducible apply x_ixT); (focus (walk_at "sq"; done)); (focus (with_unfolding_all rfl; done)))
  | ((with_reducible apply x_ixL); (focus (walk_at "sq"; done)); (focus (with_unfolding_all rfl; done)))
  | ((with_reducible apply x_gtup); (focus (walk_at "sq"; done)); (focus (with_unfolding_all rfl; done)))
  | ((with_reducible apply x_glst); (focus (walk_at "sq"; done)); (focus (with_unfolding_all rfl; done)))
  | with_reducible refine x_F dn_int ?_
  | with_reducible refine x_F dn_ref ?_
  | with_reducible refine x_T dn_non ?_
  | with_reducible refine x_T (by decide +kernel) ?_
  | with_reducible refine x_F (by decide +kernel) ?_)
local macro_rules | `(tactic| walk_at "sz") => `(tactic| first | (exact Nat.le_of_ble_eq_true rfl) | decide | omega)
local macro_rules | `(tactic| walk_at "x") => `(tactic| ((walk_at "x1"); repeat (walk_at "x1")))
/-! ### Program(*rows), Program.read, program_of -/
theorem no_nl_iff (c : Bool) (q : Q5) : ∀ r : Fin 8, (10 : Nat) ∉ TL.tl (Row.iff c q r).text := by
  cases c <;> cases q <;> decide +kernel
theorem no_nl (r : Row) : (10 : Nat) ∉ TL.tl r.text := by
  cases r with
  | go r => exact (show ∀ r : Fin 8, (10 : Nat) ∉ TL.tl (Row.go r).text by decide +kernel) r
  | iff c q r => exact no_nl_iff c q r
  | less s q => cases s <;> cases q <;> decide +kernel
  | _ => decide +kernel
def progText (rows : List Row) : Str := Txt.join ("\n" : Str) (rows.map Row.text)
theorem split_prog {rows : List Row} (h : rows ≠ []) : Txt.split (progText rows) ("\n" : Str) = rows.map Row.text := by
  refine TL.split_join (s := 10) (S := []) (by decide +kernel) (by decide +kernel) (fun e => h (List.map_eq_nil_iff.mp e)) fun p hp => ?_
  obtain ⟨r, _, rfl⟩ := List.mem_map.mp hp
  exact no_nl r
theorem joinL_len (y : List Nat) : ∀ xs : List (List Nat), (TL.joinL y xs).length ≤ (xs.map List.length).sum + xs.length * y.length
  | [] => by simp [TL.joinL]
  | [x] => by simp [TL.joinL]
  | x :: z :: r => by
    have := joinL_len y (z :: r)
    simp only [TL.joinL, List.length_append, List.map_cons, List.sum_cons, List.length_cons] at this ⊢
    rw [Nat.add_mul, Nat.one_mul]
    omega
theorem prog_len {rows : List Row} (h : rows.length ≤ 8) : (progText rows).length ≤ 400 := by
  have e : (progText rows).length = (TL.tl (progText rows)).length := by simp [Str.length]
  rw [e]
  unfold progText
  rw [TL.join_eq, TL.tl_join]
  refine Nat.le_trans (joinL_len _ _) ?_
  have hs : ∀ xs : List Row, (((xs.map Row.text).map TL.tl).map List.length).sum ≤ 40 * xs.length := by
    intro xs
    induction xs with
    | nil => simp
    | cons x xs ih =>
      have hx := (split_row x).2
      have e : (TL.tl x.text).length = x.text.length := by simp [Str.length]
      simp only [List.map_cons, List.sum_cons, List.length_cons]
      rw [e]
      omega
  have h1 := hs rows
  have h2 : (TL.tl ("\n" : Str)).length = 1 := by decide +kernel
  rw [h2, List.length_map, List.length_map]
  omega
section
variable {P : Program} {w : World} {K : PySem.W.Frag} {mg : Str → Option Value} {base : Heap}
def rLenQ (K : PySem.W.Frag) : List V → Hp → VK → Prop := fun xs H Q => ∃ p ys, xs = [.ref p] ∧ (SqL K H p ys ∨ SqT K H p ys) ∧ Q (.int ys.length) H
theorem x_setF {K : PySem.W.Frag} {ta tv : TE} {f : Str} {D : Ends} {σ : L2.St} {H : Hp} (q : tv σ H fun y H1 => ta σ H1 fun x H2 => ∃ a C dx fs, x = .ref a ∧ H2 a = some (.ins C dx fs) ∧ Cls K C ∧ NoAttr K C f ∧ fs.length < 1000 ∧ D.nx σ (upd H2 a (.ins C dx (putF f y fs)))) : sFld K ta tv f D σ H := q
theorem paired_snoc {α β : Type} {F : α → β → Prop} : ∀ {xs : List α} {ys : List β} {x : α} {y : β}, Paired F xs ys → F x y → Paired F (xs ++ [x]) (ys ++ [y])
  | _, _, _, _, .nil, h => .cons h .nil
  | _, _, _, _, .cons r t, h => .cons r (paired_snoc t h)
def StepsAt (H : Hp) (l : List V) (rs : List Row) : Prop := Paired (fun v r => ∃ a, v = V.ref a ∧ H a = some (.tup (Row.step r))) l rs
theorem StepsAt.tups {H H' : Hp} {l : List V} {rs : List Row} (ts : TupSame H H') (h : StepsAt H l rs) : StepsAt H' l rs := Paired.mapP h fun v r ⟨a, ev, ha⟩ => ⟨a, ev, ts _ _ ha⟩
/-- with the tuple of the rows -/
def spInit0 (K : PySem.W.Frag) : Sp := fun vs H Q _ => ∃ x dx p rows, vs = [.ref x, .ref p] ∧ H x = some (.ins (aP K) dx []) ∧ H p = some (.tup (textsV rows)) ∧ Prg rows ∧
  ∀ H', (∀ b o, b ≠ x → H b = some o → H' b = some o) → PrgAt K H' x rows → Q .non H'
def spInit (K : PySem.W.Frag) : Sp := fun vs H Q E => ∃ ws rest, vs = ws ++ rest ∧ ws.length = (["self"] : List Str).length ∧ rest.length ≤ sizeLine ∧ ∀ p, H p = none → spInit0 K (ws ++ [V.ref p]) (upd H p (.tup rest)) Q E
theorem sc___init__ : FnScope ["self", "rows", "wrong", "at", "row"] ((["self"] : List Str) ++ ([("rows" : Str)] : List Str)) (defScope s___init__) := ⟨rfl, rfl, rfl, by decide +kernel, rfl, by decide +kernel, by decide +kernel⟩
theorem ok___init__ (T : Tx w K mg) {f : Addr} {fd : FuncData} (F : Fun K "__init__" "Program.__init__" s___init__ f fd) (D_wrong_row : Def P w K mg base "wrong_row" 4 ["rows"] spWrong) (D_step_in : Def P w K mg base "step_in" 3 ["row", "at", "many"] spStep) :
    FnR P w K mg base CX0 5 f (spInit K) := by
  obtain ⟨oc, od, kV, doc, pm, an, cdv, ct, osl, rfl, lk, hcd⟩ := F.ex
  refine StX.fn_star (k := 4) (ps := ["self"]) (pv := "rows") (sp := spInit0 K) lk hcd sc___init__ (fun _ _ _ _ _ _ _ _ _ _ _ z => z) (StX.bind_star1 (B := fun l => bindArgs (PySem.W.fnOf "__init__" "Program.__init__" (defArgs s___init__) (defBody s___init__) (defScope s___init__) .none kV doc pm an cdv ct) ⟨l, []⟩) (fun _ => rfl) (fun _ _ _ => rfl)) (fun A outer s H vs Q E hr h => ?_)
  · obtain ⟨x, dx, p, rows, rfl, hx, hp, pr, q⟩ := h
    suffices h : ∃ t, PSs (cxOf CX0 P w K mg base ["self", "rows", "wrong", "at", "row"] "Program.__init__" (defScope s___init__) f cdv A outer s H E).nox (defBody s___init__) t ∧ t { nx := fun _ H' => Q .non H', rt := Q } (start ["self", "rows", "wrong", "at", "row"] [.ref x, .ref p]) H by
      obtain ⟨t, h1, h2⟩ := h
      exact ⟨t, h1.nox, h2⟩
    refine ⟨_, (pss_cons (ps_set (i := 2) sc___init__.nd rfl (Or.inl rfl) (pe_d D_wrong_row hr (pa_cons (pv 1) pa_nil)))
      (pss_cons (ps_if (pt_truth (pv 2) (by intro _; rfl)) (pss_one ps_never) pss_nil)
      (pss_cons (ps_fld (pv 0) (pv 1) rfl)
      (pss_one (ps_fld (pv 0) (pe_callTy call_tuple_of (by rfl) T.z_tuple boot_tuple' (pa_cons (pe_lc (g := gTup K 2 (gCons (gName 3) (gCons (gName 4) gNil))) (own := [("at", 3), ("row", 4)]) (by rfl) sc___init__.nd (pi_enT (by rfl) T.z_enumerate (pa_cons (pv 1) pa_nil)) (blkOk_by (N := ["self", "rows", "wrong", "at", "row"]) (sc := defScope s___init__) (by decide +kernel)) (fun _ _ _ _ _ => (pg_tup rfl (pgs_cons (pg_name (i := 3) sc___init__.nd rfl (Or.inl rfl) (.inr rfl)) (pgs_cons (pg_name (i := 4) sc___init__.nd rfl (Or.inl rfl) (.inr rfl)) pgs_nil)))) (fun _ _ _ _ _ => pts_nil) (fun _ _ _ _ _ => (pe_d D_step_in hr (pa_cons (pv 4) (pa_cons (pv 3) (pa_cons (pe_callB (r := rLenQ K) call_len_seq (by rfl) T.z_len boot_len' (pa_cons (pv 1) pa_nil)) pa_nil)))))) pa_nil)) rfl))))), ?_⟩
    walk_at "x"
    refine ⟨p, rows, rfl, .inl hp, pr, fun t H1 e1 ht => ?_⟩
    walk_at "x"
    refine ⟨false, .inr (.inl ⟨[], SqT.of ht, rfl⟩), ?_⟩
    walk_at "x"
    have hxp : x ≠ p := ne_of hx hp (fun z => nomatch z)
    have hx1 := e1 _ _ hx
    have hp1 := e1 _ _ hp
    with_reducible refine x_setF ?_
    walk_at "x"
    refine ⟨x, aP K, dx, [], rfl, hx1, T.clP, T.nW, by decide, ?_⟩
    have hp2 : upd H1 x (.ins (aP K) dx [("written", .ref p)]) p = some (.tup (textsV rows)) := get_mut hxp.symm hp1
    with_reducible refine x_setF ?_
    walk_at "x"
    refine lcE_go (fun i H l => StepsAt H l (rows.take i)) hp2 (by rw [show (textsV rows).length = rows.length from List.length_map _]; exact Nat.lt_of_le_of_lt pr.most (by decide)) .nil (fun i H H' l ts h => h.tups ts) (fun x y => rfl) (fun i z H' l hi e hG KT kT => ?_) (fun D H' l nD e hD hG => ?_)
    · obtain ⟨r, hr2, rfl⟩ := map_get hi
      obtain ⟨ok1, ok2⟩ := pr.ok i r hr2
      walk_at "x"
      refine ⟨p, textsV rows, rfl, .inr (SqT.of (e _ _ hp2)), ?_⟩
      rw [show (textsV rows).length = rows.length from List.length_map _]
      refine ⟨r, i, rows.length, rfl, ok1, pr.most, fun t H3 e3 ht => ?_⟩
      refine kT _ _ e3 ?_
      rw [take_snoc hr2]
      exact paired_snoc (StepsAt.tups (Same.tups e3) hG) ⟨t, rfl, ht⟩
    · walk_at "x"
      refine ⟨D, l, rfl, .inl ⟨SqL.of hD, fun t2 n2 => ?_⟩⟩
      walk_at "x"
      have hx2 : H' x = some (.ins (aP K) dx [("written", .ref p)]) := e _ _ upd_same
      refine ⟨x, aP K, dx, [("written", .ref p)], rfl, get_keep n2 hx2, T.clP, T.nS, (show 1 < 1000 by decide), ?_⟩
      have hD0 : ∀ b o, b ≠ x → H b = some o → upd H' t2 (.tup l) b = some o := fun b o hb ho => get_keep n2 (e _ _ ((upd_ne hb).trans (e1 _ _ ho)))
      refine q _ (fun b o hb ho => (upd_ne hb).trans (hD0 b o hb ho)) ?_
      have ht2x : t2 ≠ x := (ne_of_none (hx2) n2).symm
      rw [show (textsV rows).length = rows.length from List.length_map _, List.take_length] at hG
      refine ⟨dx, _, p, t2, l, upd_same, rfl, rfl, (upd_ne hxp.symm).trans (get_keep n2 (e _ _ hp2)), (upd_ne ht2x).trans upd_same, Paired.mapP hG fun v r ⟨a, ev, ha⟩ => ⟨a, ev, (upd_ne (ne_of ha hx2 fun z => nomatch z)).trans (get_keep n2 ha)⟩⟩
end
end K48
namespace K48
open PySem PySem.Spec PyProof.Rows L2
local macro_rules | `(tactic| walk_at "hg") => `(tactic| first | assumption | exact upd_same | (apply get_keep; assumption; walk_at "hg") | (apply get_same; assumption; walk_at "hg") | (apply get_mut; assumption; walk_at "hg"))
local macro_rules | `(tactic| walk_at "sq") => `(tactic| first | assumption | (apply SqT.of; walk_at "hg") | (apply SqL.of; walk_at "hg") | (apply same_t; assumption; walk_at "sq") | (apply Same.seq; assumption; walk_at "sq"))
local macro_rules | `(tactic| walk_at "sc") => `(tactic| first | omega | decide | assumption | (unfold CMul; omega) | (unfold CDiv; omega))
local macro_rules | `(tactic| walk_at "x1") => `(tactic| first
  | with_reducible refine x_seq ?_
  | with_reducible refine x_var (by with_unfolding_all rfl) ?_
  | with_reducible refine x_c ?_
  | with_reducible refine x_op ?_
  | with_reducible refine x_rI0 ?_
  | with_reducible refine x_bl ?_
  | with_reducible refine x_rEq (by with_unfolding_all rfl) ?_
  | with_reducible refine x_rNe (by with_unfolding_all rfl) ?_
  | with_reducible refine x_asg ?_
  | with_reducible refine x_gname ?_
  | with_reducible refine x_gcons ?_
  | with_reducible refine x_gnil ?_
  | with_reducible refine x_ret ?_
  | with_reducible refine x_drop ?_
  | with_reducible refine x_next ?_
  | with_reducible refine x_cont ?_
  | with_reducible refine x_brk ?_
  | with_reducible refine x_ifS ?_
  | with_reducible refine x_ifE ?_
  | with_reducible refine x_cons ?_
  | with_reducible refine x_nil ?_
  | with_reducible refine x_test ?_
  | with_reducible refine x_tB ?_
  | with_reducible refine x_and ?_
  | with_reducible refine x_or ?_
  | with_reducible refine x_not ?_
  | with_reducible refine x_andV ?_
  | with_reducible refine x_orV ?_
  | with_reducible refine x_notV ?_
  | with_reducible refine x_chain ?_
  | with_reducible refine x_par ?_
  | with_reducible refine x_two ?_
  | with_reducible refine x_un ?_
  | with_reducible refine x_rU ?_
  | with_reducible refine x_cb ?_
  | with_reducible refine x_call ?_
  | with_reducible refine x_sl ?_
  | with_reducible refine x_nopart ?_
  | with_reducible refine x_part ?_
  | with_reducible refine x_int ?_
  | with_reducible refine x_tup ?_
  | with_reducible refine x_lst ?_
  | with_reducible refine x_bm ?_
  | with_reducible refine x_fld ?_
  | with_reducible refine x_chain3 ?_
  | with_reducible refine x_yes ?_
  | with_reducible refine x_lcT ?_
  | with_reducible refine x_lcL ?_
  | with_reducible refine x_for ?_
  | with_reducible refine x_iT ?_
  | with_reducible refine x_iL ?_
  | with_reducible refine x_rng1 ?_
  | with_reducible refine x_rng2 ?_
  | with_reducible refine x_dcT ?_
  | with_reducible refine x_din ?_
  | with_reducible refine x_dni ?_
  | with_reducible refine x_lcE ?_
  | with_reducible refine x_enS ?_
  | with_reducible refine x_m1 ?_
  | with_reducible refine x_sw ?_
  | with_reducible refine x_ss ?_
  | ((with_reducible apply x_ixT); (focus (walk_at "sq"; done)); (focus (with_unfolding_all rfl; done)))
  | ((with_reducible apply x_ixL); (focus (walk_at "sq"; done)); (focus (with_unfolding_all rfl; done)))
  | ((with_reducible apply x_gtup); (focus (walk_at "sq"; done)); (focus (with_unfolding_all rfl; done)))
  | ((with_reducible apply x_glst); (focus (walk_at "sq"; done)); (focus (with_unfolding_all rfl; done)))
  | with_reducible refine x_F dn_int ?_
  | with_reducible refine x_F dn_ref ?_
  | with_reducible refine x_T dn_non ?_
  | with_reducible refine x_T (by decide +kernel) ?_
  | with_reducible refine x_F (by decide +kernel) ?_)
local macro_rules | `(tactic| walk_at "sz") => `(tactic| first | (exact Nat.le_of_ble_eq_true rfl) | decide | omega)
local macro_rules | `(tactic| walk_at "x") => `(tactic| ((walk_at "x1"); repeat (walk_at "x1")))
/-! ### Program.read, program_of, accepts -/
section
variable {P : Program} {w : World} {K : PySem.W.Frag} {mg : Str → Option Value} {base : Heap}
theorem x_mkS {C : Addr} {sp : Sp} {te : TE} {σ : L2.St} {H : Hp} {Q : VK} (q : te σ H fun y H1 => ∃ a xs, y = V.ref a ∧ (SqT K H1 a xs ∨ SqL K H1 a xs) ∧ ∀ x dx, H1 x = none → H1 dx = none → dx ≠ x →
  sp (V.ref x :: xs) (upd (upd H1 dx (.own x)) x (.ins C dx [])) (fun v H2 => v = .non ∧ Q (.ref x) H2) E0) : tMakeS K C sp te σ H Q := q
def spRead (K : PySem.W.Frag) : Sp := fun vs H Q _ => ∃ C rows, vs = [.ref C, .str (progText rows)] ∧ Prg rows ∧ ∀ p H', Same H H' → PrgAt K H' p rows → Q (.ref p) H'
theorem sc_read : FnScope ["cls", "text", "rows"] ["cls", "text"] (defScope s_read) := ⟨rfl, rfl, rfl, by decide +kernel, rfl, by decide +kernel, by decide +kernel⟩
theorem ok_read (T : Tx w K mg) {f : Addr} {fd : FuncData} (F : Fun K "read" "Program.read" s_read f fd) (b : Binds K fd ["cls", "text"] []) (D_wrong_row : Def P w K mg base "wrong_row" 4 ["rows"] spWrong) (I : FnR P w K mg base CX0 5 (He.ma K (aP K) "__init__") (spInit K)) :
    FnR P w K mg base CX0 7 f (spRead K) := by
  have ok : FnOk P w K mg base CX0 7 f fd ["cls", "text"] (spRead K) := by
    refine F.ok sc_read (fun vs H Q E h => ?_) (fun cdv A outer s H vs Q E hr h => ?_)
    · obtain ⟨C, rows, rfl, _⟩ := h
      rfl
    · obtain ⟨C, rows, rfl, pr, q⟩ := h
      refine ⟨_, (pss_cons (ps_set (i := 2) sc_read.nd rfl (Or.inl rfl) (pe_ifExp (pt_val (pe_callB call_isi (by rfl) T.z_isinstance boot_isinstance' (pa_cons (pv 1) (pa_cons (pe_bltn (by rfl) T.z_str boot_str' (v := .ty "str") rfl) pa_nil)))) (pe_split (pv 1) pe_str) (pe_lst pa_nil)))
      (pss_cons (ps_if (pt_truth (pe_d D_wrong_row hr (pa_cons (pv 2) pa_nil)) (by intro _; rfl)) (pss_one ps_never) pss_nil)
      (pss_one (ps_ret (pe_makeS T.mkP I hr (by rfl) T.gP (pv 2)))))), ?_⟩
      have hne : rows ≠ [] := fun e => by
        have := pr.pos
        rw [e] at this
        cases this
      walk_at "x"
      refine x_isStr trivial ?_
      walk_at "x"
      refine x_T rfl ?_
      walk_at "x"
      refine ⟨progText rows, "\n", rfl, rfl, by decide +kernel, Nat.le_trans (Nat.add_le_add_right (prog_len pr.most) 2) (by decide), fun wl nl => ?_⟩
      rw [split_prog hne, List.map_map]
      have hwl : upd H wl (.lst (List.map (V.str ∘ Row.text) rows)) wl = some (.lst (textsV rows)) := upd_same
      have e1 := same_new (u := .lst (List.map (V.str ∘ Row.text) rows)) (Same.refl H) nl
      generalize upd H wl (.lst (List.map (V.str ∘ Row.text) rows)) = H1 at hwl e1
      walk_at "x"
      refine ⟨wl, rows, rfl, .inr hwl, pr, fun t H2 e2 ht => ?_⟩
      refine ⟨false, .inr (.inl ⟨[], SqT.of ht, rfl⟩), ?_⟩
      walk_at "x"
      refine x_mkS ?_
      walk_at "x"
      refine ⟨wl, textsV rows, rfl, .inr (SqL.of (e2 _ _ hwl)), fun x dx nx ndx hne => ?_⟩
      refine ⟨[.ref x], textsV rows, rfl, rfl, by rw [show (textsV rows).length = rows.length from List.length_map _]; exact Nat.le_trans pr.most (by decide), fun p np => ?_⟩
      have hxx : upd (upd H2 dx (.own x)) x (.ins (aP K) dx []) x = some (.ins (aP K) dx []) := upd_same
      refine ⟨x, dx, p, rows, rfl, get_keep np hxx, upd_same, pr, fun H' hk hp => ⟨rfl, q x H' (fun b o hb => hk b o ?_ ?_) hp⟩⟩
      · exact ne_of_none (e2 _ _ (e1 _ _ hb)) nx
      · refine get_keep np ?_
        have h2 := e2 _ _ (e1 _ _ hb)
        exact (upd_ne (ne_of_none h2 nx)).trans ((upd_ne (ne_of_none h2 ndx)).trans h2)
  exact FnR.imp (FnOk.raw ok b .nil) fun vs H Q E h => by
    rw [List.append_nil]
    exact h
def spProgOf (K : PySem.W.Frag) : Sp := fun vs H Q _ => ∃ rows, vs = [.str (progText rows)] ∧ Prg rows ∧ ∀ p H', Same H H' → PrgAt K H' p rows → Q (.ref p) H'
theorem sc_program_of : FnScope ["text", "found"] ["text"] (defScope s_program_of) := ⟨rfl, rfl, rfl, by decide +kernel, rfl, by decide +kernel, by decide +kernel⟩
theorem x_cm {C : Addr} {sp : Sp} {E : XK} {ta : TE} {t : TA} {σ : L2.St} {H : Hp} {Q : VK} (q : ta σ H fun x H1 => x = .ref C ∧ t σ H1 fun vs H2 => sp (.ref C :: vs) H2 Q E) : ClX.tCMeth C sp E ta t σ H Q := q
theorem ok_program_of (T : Tx w K mg) (B : HasDef K mg "program_of" s_program_of ["text"]) (R : FnR P w K mg base CX0 7 (He5.wf K (aP K) "classmethod" "read") (spRead K)) : Def P w K mg base "program_of" 8 ["text"] (spProgOf K) := by
  refine Def.mk B sc_program_of (fun vs H Q E h => ?_) (fun f cdv A outer s H vs Q E hr h => ?_)
  · obtain ⟨rows, rfl, _⟩ := h
    rfl
  · obtain ⟨rows, rfl, pr, q⟩ := h
    refine ⟨_, (pss_cons (ps_try_thru0 (pss_one (ps_set (i := 1) sc_program_of.nd rfl (Or.inl rfl) (ClX.pe_cmeth (g_ref T.gP) T.crP T.cmP R hr pass0 (pa_cons (pv 0) pa_nil)))))
      (pss_one (ps_ret (pv 1)))), ?_⟩
    walk_at "x"
    refine x_cm ?_
    walk_at "x"
    refine ⟨rfl, ?_⟩
    walk_at "x"
    refine ⟨aP K, rows, rfl, pr, fun p H' e hp => ?_⟩
    walk_at "x"
    exact q p H' e hp
end
end K48
namespace K48
open PySem PySem.Spec PyProof.Rows L2
local macro_rules | `(tactic| walk_at "hg") => `(tactic| first | assumption | exact upd_same | (apply get_keep; assumption; walk_at "hg") | (apply get_same; assumption; walk_at "hg") | (apply get_mut; assumption; walk_at "hg"))
local macro_rules | `(tactic| walk_at "sq") => `(tactic| first | assumption | (apply SqT.of; walk_at "hg") | (apply SqL.of; walk_at "hg") | (apply same_t; assumption; walk_at "sq") | (apply Same.seq; assumption; walk_at "sq"))
local macro_rules | `(tactic| walk_at "sc") => `(tactic| first | omega | decide | assumption | (unfold CMul; omega) | (unfold CDiv; omega))
local macro_rules | `(tactic| walk_at "x1") => `(tactic| first
  | with_reducible refine x_seq ?_
  | with_reducible refine x_var (by with_unfolding_all rfl) ?_
  | with_reducible refine x_c ?_
  | with_reducible refine x_op ?_
  | with_reducible refine x_rI0 ?_
  | with_reducible refine x_bl ?_
  | with_reducible refine x_rEq (by with_unfolding_all rfl) ?_
  | with_reducible refine x_rNe (by with_unfolding_all rfl) ?_
  | with_reducible refine x_asg ?_
  | with_reducible refine x_gname ?_
  | with_reducible refine x_gcons ?_
  | with_reducible refine x_gnil ?_
  | with_reducible refine x_ret ?_
  | with_reducible refine x_drop ?_
  | with_reducible refine x_next ?_
  | with_reducible refine x_cont ?_
  | with_reducible refine x_brk ?_
  | with_reducible refine x_ifS ?_
  | with_reducible refine x_ifE ?_
  | with_reducible refine x_cons ?_
  | with_reducible refine x_nil ?_
  | with_reducible refine x_test ?_
  | with_reducible refine x_tB ?_
  | with_reducible refine x_and ?_
  | with_reducible refine x_or ?_
  | with_reducible refine x_not ?_
  | with_reducible refine x_andV ?_
  | with_reducible refine x_orV ?_
  | with_reducible refine x_notV ?_
  | with_reducible refine x_chain ?_
  | with_reducible refine x_par ?_
  | with_reducible refine x_two ?_
  | with_reducible refine x_un ?_
  | with_reducible refine x_rU ?_
  | with_reducible refine x_cb ?_
  | with_reducible refine x_call ?_
  | with_reducible refine x_sl ?_
  | with_reducible refine x_nopart ?_
  | with_reducible refine x_part ?_
  | with_reducible refine x_int ?_
  | with_reducible refine x_tup ?_
  | with_reducible refine x_lst ?_
  | with_reducible refine x_bm ?_
  | with_reducible refine x_fld ?_
  | with_reducible refine x_chain3 ?_
  | with_reducible refine x_yes ?_
  | with_reducible refine x_lcT ?_
  | with_reducible refine x_lcL ?_
  | with_reducible refine x_for ?_
  | with_reducible refine x_iT ?_
  | with_reducible refine x_iL ?_
  | with_reducible refine x_rng1 ?_
  | with_reducible refine x_rng2 ?_
  | with_reducible refine x_dcT ?_
  | with_reducible refine x_din ?_
  | with_reducible refine x_dni ?_
  | with_reducible refine x_lcE ?_
  | with_reducible refine x_enS ?_
  | with_reducible refine x_m1 ?_
  | with_reducible refine x_sw ?_
  | with_reducible refine x_ss ?_
  | ((with_reducible apply x_ixT); (focus (walk_at "sq"; done)); (focus (with_unfolding_all rfl; done)))
  | ((with_reducible apply x_ixL); (focus (walk_at "sq"; done)); (focus (with_unfolding_all rfl; done)))
  | ((with_reducible apply x_gtup); (focus (walk_at "sq"; done)); (focus (with_unfolding_all rfl; done)))
  | ((with_reducible apply x_glst); (focus (walk_at "sq"; done)); (focus (with_unfolding_all rfl; done)))
  | with_reducible refine x_F dn_int ?_
  | with_reducible refine x_F dn_ref ?_
  | with_reducible refine x_T dn_non ?_
  | with_reducible refine x_T (by decide +kernel) ?_
  | with_reducible refine x_F (by decide +kernel) ?_)
local macro_rules | `(tactic| walk_at "sz") => `(tactic| first | (exact Nat.le_of_ble_eq_true rfl) | decide | omega)
local macro_rules | `(tactic| walk_at "x") => `(tactic| ((walk_at "x1"); repeat (walk_at "x1")))
/-! ### accepts -/
section
variable {P : Program} {w : World} {K : PySem.W.Frag} {mg : Str → Option Value} {base : Heap}
def spAccepts (K : PySem.W.Frag) : Sp := fun vs H Q _ => ∃ cl cert, vs = [.ref cl, cert] ∧ ((∃ zs, H cl = some (.lst zs) ∧ ∀ H', Same H H' → Q (.bl false) H') ∨
  ∃ rows h1 rest, H cl = some (.tup (.str h1 :: .str (progText rows) :: rest)) ∧ Prg rows ∧ (h1 = "stuck" ∨ h1 = "stick") ∧ ((rest.length ≠ 3 ∧ rest.length ≤ 8 ∧ ∀ H', Same H H' → Q (.bl false) H') ∨
    ∃ n full c road o, rest = [.int n, .int full, .ref c] ∧ (1 ≤ n ∧ n ≤ 10 ^ 30) ∧ H c = some (.tup (road.map V.int)) ∧ road.length < 100000 ∧ PapAt H cert o ∧ ∀ H', Same H H' → Q (.bl (decide (h1 = "stuck") && courseB rows n full road o)) H'))
theorem sc_accepts : FnScope ["claim", "certificate", "program"] ["claim", "certificate"] (defScope s_accepts) := ⟨rfl, rfl, rfl, by decide +kernel, rfl, by decide +kernel, by decide +kernel⟩
theorem ok_accepts (T : Tx w K mg) (B : HasDef K mg "accepts" s_accepts ["claim", "certificate"]) (D_program_of : Def P w K mg base "program_of" 8 ["text"] (spProgOf K)) (D_accepts_course : Def P w K mg base "accepts_course" 6 ["claim", "program", "certificate"] (spCourse K)) :
    Def P w K mg base "accepts" 9 ["claim", "certificate"] (spAccepts K) := by
  refine Def.mk B sc_accepts (fun vs H Q E h => ?_) (fun f cdv A outer s H vs Q E hr h => ?_)
  · obtain ⟨cl, cert, rfl, _⟩ := h
    rfl
  · obtain ⟨cl, cert, rfl, h⟩ := h
    refine ⟨_, (pss_cons (ps_if (PW.pt (pw_or (pt_not (pt_val (pe_callB call_isi (by rfl) T.z_isinstance boot_isinstance' (pa_cons (pv 0) (pa_cons (pe_bltn (by rfl) T.z_tuple boot_tuple' (v := .ty "tuple") rfl) pa_nil))))) (pw_or1 (pt_cmpR op_lt (pe_callB call_len_seq (by rfl) T.z_len boot_len' (pa_cons (pv 0) pa_nil)) pe_int (nomark _))))) (pss_one (ps_ret pe_bl)) pss_nil)
      (pss_cons (ps_if (PW.pt (pw_or (pt_not (pt_val (pe_callB call_isi (by rfl) T.z_isinstance boot_isinstance' (pa_cons (pe_ix ix_tup (pv 0) pe_int (fun _ _ => rfl)) (pa_cons (pe_bltn (by rfl) T.z_str boot_str' (v := .ty "str") rfl) pa_nil))))) (pw_or1 (pt_not (pt_val (pe_callB call_isi (by rfl) T.z_isinstance boot_isinstance' (pa_cons (pe_ix ix_tup (pv 0) pe_int (fun _ _ => rfl)) (pa_cons (pe_bltn (by rfl) T.z_str boot_str' (v := .ty "str") rfl) pa_nil)))))))) (pss_one (ps_ret pe_bl)) pss_nil)
      (pss_cons (ps_set (i := 2) sc_accepts.nd rfl (Or.inl rfl) (pe_d D_program_of hr (pa_cons (pe_ix ix_tup (pv 0) pe_int (fun _ _ => rfl)) pa_nil)))
      (pss_cons (ps_if (pt_cmpR op_isN (pv 2) pe_non (nomark _)) (pss_one (ps_ret pe_bl)) pss_nil)
      (pss_cons (ps_if (pt_cmpR op_in_seq (pe_ix ix_tup (pv 0) pe_int (fun _ _ => rfl)) (g_ref T.gC) (by rfl)) pss_never pss_nil)
      (pss_cons (ps_if (pt_cmpR op_eq (pe_ix ix_tup (pv 0) pe_int (fun _ _ => rfl)) pe_str (nomark _)) pss_never pss_nil)
      (pss_one (ps_ret (pe_d D_accepts_course hr (pa_cons (pv 0) (pa_cons (pv 2) (pa_cons (pv 1) pa_nil)))))))))))), ?_⟩
    walk_at "x"
    rcases h with ⟨zs, hcl, q⟩ | ⟨rows, h1, rest, hcl, pr, hh, h⟩
    · refine x_isTup (.inl ⟨_, hcl⟩) ?_
      have e : isT H (.ref cl) = false := by rw [isT_tup]; show (seqT (H cl)).isSome = false; rw [hcl]; rfl
      rw [e]
      walk_at "x"
      exact q H (Same.refl _)
    · refine x_isTup (.inr ⟨_, hcl⟩) ?_
      have e : isT H (.ref cl) = true := by rw [isT_tup]; show (seqT (H cl)).isSome = true; rw [hcl]; rfl
      rw [e]
      walk_at "x"
      refine ⟨cl, _, rfl, .inr (SqT.of hcl), ?_⟩
      walk_at "x"
      refine x_F (decide_eq_false (by simp only [List.length_cons]; omega)) ?_
      walk_at "x"
      refine x_ixT (SqT.of hcl) (at_of (j := 0) rfl rfl) ?_
      walk_at "x"
      refine x_isStr trivial ?_
      walk_at "x"
      refine x_F rfl ?_
      walk_at "x"
      refine x_ixT (SqT.of hcl) (at_of (j := 1) rfl rfl) ?_
      walk_at "x"
      refine x_isStr trivial ?_
      walk_at "x"
      refine x_F rfl ?_
      walk_at "x"
      refine x_ixT (SqT.of hcl) (at_of (j := 1) rfl rfl) ?_
      walk_at "x"
      refine ⟨rows, rfl, pr, fun p H1 e1 hp => ?_⟩
      walk_at "x"
      refine ⟨rfl, ?_⟩
      have hcl1 := e1 _ _ hcl
      walk_at "x"
      refine x_ixT (SqT.of hcl1) (at_of (j := 0) rfl rfl) ?_
      walk_at "x"
      refine x_inU (T.closed H1) rfl rfl ?_
      refine x_bl ?_
      refine x_F (by rcases hh with rfl | rfl <;> decide +kernel) ?_
      walk_at "x"
      refine x_ixT (SqT.of hcl1) (at_of (j := 0) rfl rfl) ?_
      walk_at "x"
      refine x_F (by rw [dV_str]; rcases hh with rfl | rfl <;> decide +kernel) ?_
      walk_at "x"
      refine ⟨cl, p, cert, _, rows, rfl, hcl1, hp, pr, ?_⟩
      rcases h with ⟨hl, hz, q⟩ | ⟨n, full, c, road, o, rfl, hn, hc, hz, ho, q⟩
      · exact .inl ⟨by simp only [List.length_cons]; omega, by simp only [List.length_cons]; omega, fun H' e' => q H' (e1.trans e')⟩
      · exact .inr ⟨h1, progText rows, n, full, c, road, o, rfl, hh, hn, e1 _ _ hc, hz, ho.same e1, fun H' e' => q H' (e1.trans e')⟩
end
end K48
namespace K48
open PySem PySem.Spec PyProof.Rows L2
local macro_rules | `(tactic| walk_at "hg") => `(tactic| first | assumption | exact upd_same | (apply get_keep; assumption; walk_at "hg") | (apply get_same; assumption; walk_at "hg") | (apply get_mut; assumption; walk_at "hg"))
local macro_rules | `(tactic| walk_at "sq") => `(tactic| first | assumption | (apply SqT.of; walk_at "hg") | (apply SqL.of; walk_at "hg") | (apply same_t; assumption; walk_at "sq") | (apply Same.seq; assumption; walk_at "sq"))
local macro_rules | `(tactic| walk_at "sc") => `(tactic| first | omega | decide | assumption | (unfold CMul; omega) | (unfold CDiv; omega) | (show (0 : Int) < _; omega) | (exact cdivw (by omega) (by omega)) | (exact cdivp (by omega) (by omega)))
local macro_rules | `(tactic| walk_at "x1") => `(tactic| first
  | with_reducible refine x_seq ?_
  | with_reducible refine x_var (by with_unfolding_all rfl) ?_
  | with_reducible refine x_c ?_
  | with_reducible refine x_op ?_
  | with_reducible refine x_rI0 ?_
  | with_reducible refine x_bl ?_
  | with_reducible refine x_rEq (by with_unfolding_all rfl) ?_
  | with_reducible refine x_rNe (by with_unfolding_all rfl) ?_
  | with_reducible refine x_asg ?_
  | with_reducible refine x_gname ?_
  | with_reducible refine x_gcons ?_
  | with_reducible refine x_gnil ?_
  | with_reducible refine x_ret ?_
  | with_reducible refine x_drop ?_
  | with_reducible refine x_next ?_
  | with_reducible refine x_cont ?_
  | with_reducible refine x_brk ?_
  | with_reducible refine x_ifS ?_
  | with_reducible refine x_ifE ?_
  | with_reducible refine x_cons ?_
  | with_reducible refine x_nil ?_
  | with_reducible refine x_test ?_
  | with_reducible refine x_tB ?_
  | with_reducible refine x_and ?_
  | with_reducible refine x_or ?_
  | with_reducible refine x_not ?_
  | with_reducible refine x_andV ?_
  | with_reducible refine x_orV ?_
  | with_reducible refine x_notV ?_
  | with_reducible refine x_chain ?_
  | with_reducible refine x_par ?_
  | with_reducible refine x_two ?_
  | with_reducible refine x_un ?_
  | with_reducible refine x_rU ?_
  | with_reducible refine x_cb ?_
  | with_reducible refine x_call ?_
  | with_reducible refine x_sl ?_
  | with_reducible refine x_nopart ?_
  | with_reducible refine x_part ?_
  | with_reducible refine x_int ?_
  | with_reducible refine x_tup ?_
  | with_reducible refine x_lst ?_
  | with_reducible refine x_bm ?_
  | with_reducible refine x_fld ?_
  | with_reducible refine x_chain3 ?_
  | with_reducible refine x_yes ?_
  | with_reducible refine x_lcT ?_
  | with_reducible refine x_lcL ?_
  | with_reducible refine x_for ?_
  | with_reducible refine x_iT ?_
  | with_reducible refine x_iL ?_
  | with_reducible refine x_rng1 ?_
  | with_reducible refine x_rng2 ?_
  | with_reducible refine x_dcT ?_
  | with_reducible refine x_din ?_
  | with_reducible refine x_dni ?_
  | with_reducible refine x_lcE ?_
  | with_reducible refine x_enS ?_
  | with_reducible refine x_m1 ?_
  | with_reducible refine x_gsub ?_
  | ((with_reducible apply x_setl); (focus (walk_at "hg"; done)); (focus (with_unfolding_all rfl; done)))
  | with_reducible refine x_int1 ?_
  | with_reducible refine x_str2 ?_
  | ((with_reducible apply x_rI); (focus (walk_at "sc"; done)))
  | with_reducible refine x_sw ?_
  | with_reducible refine x_ss ?_
  | ((with_reducible apply x_ixT); (focus (walk_at "sq"; done)); (focus (with_unfolding_all rfl; done)))
  | ((with_reducible apply x_ixL); (focus (walk_at "sq"; done)); (focus (with_unfolding_all rfl; done)))
  | ((with_reducible apply x_gtup); (focus (walk_at "sq"; done)); (focus (with_unfolding_all rfl; done)))
  | ((with_reducible apply x_glst); (focus (walk_at "sq"; done)); (focus (with_unfolding_all rfl; done)))
  | with_reducible refine x_F dn_int ?_
  | with_reducible refine x_F dn_ref ?_
  | with_reducible refine x_T dn_non ?_
  | with_reducible refine x_T (by decide +kernel) ?_
  | with_reducible refine x_F (by decide +kernel) ?_)
local macro_rules | `(tactic| walk_at "sz") => `(tactic| first | (exact Nat.le_of_ble_eq_true rfl) | decide | omega)
local macro_rules | `(tactic| walk_at "x") => `(tactic| ((walk_at "x1"); repeat (walk_at "x1")))
/-! ### the spring of draws -/
def SprAt (sp : Addr) (H : Hp) : Prop := ∃ g m t : Int, H sp = some (.lst [.int g, .int m, .int t]) ∧ 0 ≤ g ∧ 0 ≤ m ∧ m < 2147483647
/-- all but the spring stays -/
def Ex (sp : Addr) (H H' : Hp) : Prop := ∀ a o, a ≠ sp → H a = some o → H' a = some o
theorem Ex.refl {sp : Addr} (H : Hp) : Ex sp H H := fun _ _ _ h => h
theorem Ex.trans {sp : Addr} {H H1 H2 : Hp} (e1 : Ex sp H H1) (e2 : Ex sp H1 H2) : Ex sp H H2 := fun a o n h => e2 a o n (e1 a o n h)
theorem Ex.of {sp : Addr} {H H' : Hp} (e : Same H H') : Ex sp H H' := fun a o _ h => e a o h
theorem Ex.new {sp : Addr} {H H' : Hp} {p : Addr} {u : HO} (e : Ex sp H H') (n : H' p = none) : Ex sp H (upd H' p u) := fun a o ne h => get_keep n (e a o ne h)
theorem SprAt.same {sp : Addr} {H H' : Hp} (e : Same H H') (h : SprAt sp H) : SprAt sp H' := let ⟨g, m, t, h1, h2⟩ := h; ⟨g, m, t, e _ _ h1, h2⟩
theorem SprAt.keep {sp : Addr} {H : Hp} {p : Addr} {u : HO} (n : H p = none) (h : SprAt sp H) : SprAt sp (upd H p u) := let ⟨g, m, t, h1, h2⟩ := h; ⟨g, m, t, get_keep n h1, h2⟩
theorem SprAt.ne {sp p : Addr} {H : Hp} (h : SprAt sp H) (n : H p = none) : p ≠ sp := let ⟨g, m, t, h1, h2⟩ := h; (ne_of_none h1 n).symm
theorem Ex.tups {sp : Addr} {H H' : Hp} (e : Ex sp H H') (s : SprAt sp H) : TupSame H H' := fun b xs h => e _ _ (fun z => by
  obtain ⟨g, m, t, h1, _⟩ := s
  rw [z, h1] at h
  cases h) h
theorem Ex.free {sp : Addr} {H H' : Hp} {p : Addr} (e : Ex sp H H') (s : SprAt sp H') (n : H' p = none) : H p = none := by
  cases h : H p with
  | none => rfl
  | some o =>
    have := e p o (s.ne n) h
    rw [n] at this
    cases this
theorem log2_lt {n : Int} (h1 : 1 ≤ n) (h2 : n ≤ 10 ^ 31) : n.natAbs.log2 < 9000 := by
  have h3 : n.natAbs < 2 ^ 9000 := by
    have : n.natAbs ≤ 10 ^ 31 := by omega
    exact Nat.lt_of_le_of_lt this (by decide +kernel)
  exact (Nat.log2_lt (by omega)).mpr h3
theorem cdivw {i n : Int} (h1 : 1 ≤ n) (h2 : n ≤ 10 ^ 31) : CDivW i n := ⟨by omega, log2_lt h1 h2⟩
theorem cdivp {i n : Int} (h1 : 1 ≤ n) (h2 : n ≤ 10 ^ 31) : CDivP i n := ⟨by omega, PyProof.noPylong_of_log2 (log2_lt h1 h2)⟩
section
variable {td ti : TE} {t : TSet} {v : V} {σ : L2.St} {H : Hp} {QS : L2.St → Hp → Prop} {Q : Hp → Prop} {xs : List V} {k i : Int} {j : Nat} {p : Addr} {a b : Str}
theorem x_gsub (q : td σ H fun o H1 => ti σ H1 fun i H2 => t o i v H2 fun H3 => QS σ H3) : gSub td ti t v σ H QS := q
theorem x_setl (h : H p = some (.lst xs)) (hj : ixN xs.length k = some j) (q : Q (upd H p (.lst (xs.set j v)))) : rSetL (.ref p) (.int k) v H Q := ⟨p, xs, k, j, rfl, rfl, h, hj, q⟩
theorem x_int1 {W : Int → Prop} {R : Bool → Prop} (q : W i) : (∃ j, [V.int i] = [V.int j] ∧ W j) ∨ ∃ k, [V.int i] = [V.bl k] ∧ R k := .inl ⟨i, rfl, q⟩
theorem x_str2 {W : Str → Str → Prop} (q : W a b) : ∃ i j, V.str a = V.str i ∧ V.str b = V.str j ∧ W i j := ⟨a, b, rfl, rfl, q⟩
end
end K48
namespace K48
open PySem PySem.Spec PyProof.Rows L2
local macro_rules | `(tactic| walk_at "hg") => `(tactic| first | assumption | exact upd_same | (apply get_keep; assumption; walk_at "hg") | (apply get_same; assumption; walk_at "hg") | (apply get_mut; assumption; walk_at "hg"))
local macro_rules | `(tactic| walk_at "sq") => `(tactic| first | assumption | (apply SqT.of; walk_at "hg") | (apply SqL.of; walk_at "hg") | (apply same_t; assumption; walk_at "sq") | (apply Same.seq; assumption; walk_at "sq"))
local macro_rules | `(tactic| walk_at "sc") => `(tactic| first | omega | decide | assumption | (unfold CMul; omega) | (unfold CDiv; omega) | (show (0 : Int) < _; omega) | (exact cdivw (by omega) (by omega)) | (exact cdivp (by omega) (by omega)))
local macro_rules | `(tactic| walk_at "x1") => `(tactic| first
  | with_reducible refine x_seq ?_
  | with_reducible refine x_var (by with_unfolding_all rfl) ?_
  | with_reducible refine x_c ?_
  | with_reducible refine x_op ?_
  | with_reducible refine x_rI0 ?_
  | with_reducible refine x_bl ?_
  | with_reducible refine x_rEq (by with_unfolding_all rfl) ?_
  | with_reducible refine x_rNe (by with_unfolding_all rfl) ?_
  | with_reducible refine x_asg ?_
  | with_reducible refine x_gname ?_
  | with_reducible refine x_gcons ?_
  | with_reducible refine x_gnil ?_
  | with_reducible refine x_ret ?_
  | with_reducible refine x_drop ?_
  | with_reducible refine x_next ?_
  | with_reducible refine x_cont ?_
  | with_reducible refine x_brk ?_
  | with_reducible refine x_ifS ?_
  | with_reducible refine x_ifE ?_
  | with_reducible refine x_cons ?_
  | with_reducible refine x_nil ?_
  | with_reducible refine x_test ?_
  | with_reducible refine x_tB ?_
  | with_reducible refine x_and ?_
  | with_reducible refine x_or ?_
  | with_reducible refine x_not ?_
  | with_reducible refine x_andV ?_
  | with_reducible refine x_orV ?_
  | with_reducible refine x_notV ?_
  | with_reducible refine x_chain ?_
  | with_reducible refine x_par ?_
  | with_reducible refine x_two ?_
  | with_reducible refine x_un ?_
  | with_reducible refine x_rU ?_
  | with_reducible refine x_cb ?_
  | with_reducible refine x_call ?_
  | with_reducible refine x_sl ?_
  | with_reducible refine x_nopart ?_
  | with_reducible refine x_part ?_
  | with_reducible refine x_int ?_
  | with_reducible refine x_tup ?_
  | with_reducible refine x_lst ?_
  | with_reducible refine x_bm ?_
  | with_reducible refine x_fld ?_
  | with_reducible refine x_chain3 ?_
  | with_reducible refine x_yes ?_
  | with_reducible refine x_lcT ?_
  | with_reducible refine x_lcL ?_
  | with_reducible refine x_for ?_
  | with_reducible refine x_iT ?_
  | with_reducible refine x_iL ?_
  | with_reducible refine x_rng1 ?_
  | with_reducible refine x_rng2 ?_
  | with_reducible refine x_dcT ?_
  | with_reducible refine x_din ?_
  | with_reducible refine x_dni ?_
  | with_reducible refine x_lcE ?_
  | with_reducible refine x_enS ?_
  | with_reducible refine x_m1 ?_
  | with_reducible refine x_gsub ?_
  | ((with_reducible apply x_setl); (focus (walk_at "hg"; done)); (focus (with_unfolding_all rfl; done)))
  | with_reducible refine x_int1 ?_
  | with_reducible refine x_str2 ?_
  | ((with_reducible apply x_rI); (focus (walk_at "sc"; done)))
  | with_reducible refine x_sw ?_
  | with_reducible refine x_ss ?_
  | ((with_reducible apply x_ixT); (focus (walk_at "sq"; done)); (focus (with_unfolding_all rfl; done)))
  | ((with_reducible apply x_ixL); (focus (walk_at "sq"; done)); (focus (with_unfolding_all rfl; done)))
  | ((with_reducible apply x_gtup); (focus (walk_at "sq"; done)); (focus (with_unfolding_all rfl; done)))
  | ((with_reducible apply x_glst); (focus (walk_at "sq"; done)); (focus (with_unfolding_all rfl; done)))
  | with_reducible refine x_F dn_int ?_
  | with_reducible refine x_F dn_ref ?_
  | with_reducible refine x_T dn_non ?_
  | with_reducible refine x_T (by decide +kernel) ?_
  | with_reducible refine x_F (by decide +kernel) ?_)
local macro_rules | `(tactic| walk_at "sz") => `(tactic| first | (exact Nat.le_of_ble_eq_true rfl) | decide | omega)
local macro_rules | `(tactic| walk_at "x") => `(tactic| ((walk_at "x1"); repeat (walk_at "x1")))
section
variable {P : Program} {w : World} {K : PySem.W.Frag} {mg : Str → Option Value} {base : Heap}
def spDraw : Sp := fun vs H Q _ => ∃ sp n, vs = [.ref sp, .int n] ∧ SprAt sp H ∧ 1 ≤ n ∧ n ≤ 2 * 10 ^ 30 ∧ ∀ d H', Ex sp H H' → SprAt sp H' → 0 ≤ d → d < n → Q (.int d) H'
theorem sc_law_draw : FnScope ["_law_spring_here", "_law_size_here", "_law_digit", "_law_far", "_law_mixed"] ["_law_spring_here", "_law_size_here"] (defScope s__law_draw) := ⟨rfl, rfl, rfl, by decide +kernel, rfl, by decide +kernel, by decide +kernel⟩
theorem ok__law_draw (T : Tx w K mg) (B : HasDef K mg "_law_draw" s__law_draw ["_law_spring_here", "_law_size_here"]) : Def P w K mg base "_law_draw" 1 ["_law_spring_here", "_law_size_here"] spDraw := by
  refine Def.mk B sc_law_draw (fun vs H Q E h => ?_) (fun f cdv A outer s H vs Q E hr h => ?_)
  · obtain ⟨sp, n, rfl, _⟩ := h
    rfl
  · obtain ⟨sp, n, rfl, ⟨g, m, t, hs, hg, hm, hm2⟩, h1, h2, q⟩ := h
    refine ⟨_, (pss_cons (ps_asg (pe_op op_add (pe_ix ix_list (pv 0) pe_int (fun _ _ => rfl)) pe_int) (pg_sub (pv 0) pe_int set_list))
      (pss_cons (ps_asg (pe_op op_mod (pe_callTy call_int1 (by rfl) T.z_int boot_int' (pa_cons (pe_op op_add (pe_op op_add (pe_op op_mul (pe_ix ix_list (pv 0) pe_int (fun _ _ => rfl)) pe_int) (pe_op op_mul pe_int (pe_ix ix_list (pv 0) pe_int (fun _ _ => rfl)))) pe_int) pa_nil)) pe_int) (pg_sub (pv 0) pe_int set_list))
      (pss_cons (ps_if (pt_cmpR op_gt (pe_ix ix_list (pv 0) pe_int (fun _ _ => rfl)) pe_int (nomark _)) (pss_cons (ps_asg (pe_callB call_divmodW (by rfl) T.z_divmod boot_divmod' (pa_cons (pe_ix ix_list (pv 0) pe_int (fun _ _ => rfl)) (pa_cons (pv 1) pa_nil))) (pg_tup rfl (pgs_cons (pg_sub (pv 0) pe_int set_list) (pgs_cons (pg_name (i := 2) sc_law_draw.nd rfl (Or.inl rfl)) pgs_nil))))
      (pss_one (ps_ret (pv 2)))) pss_nil)
      (pss_cons (ps_set (i := 3) sc_law_draw.nd rfl (Or.inl rfl) (pe_op op_add (pe_ix ix_list (pv 0) pe_int (fun _ _ => rfl)) pe_int))
      (pss_cons (ps_set (i := 4) sc_law_draw.nd rfl (Or.inl rfl) (pe_op op_mod (pe_callTy call_int1 (by rfl) T.z_int boot_int' (pa_cons (pe_op op_add (pe_op op_mul (pv 3) (pe_ix ix_list (pv 0) pe_int (fun _ _ => rfl))) (pe_ix ix_list (pv 0) pe_int (fun _ _ => rfl))) pa_nil)) pe_int))
      (pss_one (ps_ret (pe_op op_mod (pe_callTy call_int1 (by rfl) T.z_int boot_int' (pa_cons (pe_op op_fdivW (pv 4) pe_int) pa_nil)) (pv 1))))))))), ?_⟩
    walk_at "x"
    have hm3 : 0 ≤ (m * 69621 + 40503 * (t + 1) + 1) % 2147483647 ∧ (m * 69621 + 40503 * (t + 1) + 1) % 2147483647 < 2147483647 := ⟨Int.emod_nonneg _ (by decide), Int.emod_lt_of_pos _ (by decide)⟩
    generalize (m * 69621 + 40503 * (t + 1) + 1) % 2147483647 = m2 at hm3
    obtain ⟨hm3, hm4⟩ := hm3
    have e0 : Ex sp H (upd (upd H sp (.lst [.int g, .int m, .int (t + 1)])) sp (.lst [.int g, .int m2, .int (t + 1)])) := fun a o ne h => (upd_ne ne).trans ((upd_ne ne).trans h)
    refine x_TF (fun h1 => ?_) (fun h1 => ?_)
    · walk_at "x"
      refine ⟨g, n, rfl, cdivp (by omega) (by omega), fun p np => ?_⟩
      walk_at "x"
      refine q (g % n) _ (fun a o ne h => (upd_ne ne).trans (get_keep np (e0 a o ne h))) ⟨g / n, m2, t + 1, upd_same, Int.ediv_nonneg hg (by omega), hm3, hm4⟩ (Int.emod_nonneg _ (by omega)) (Int.emod_lt_of_pos _ (by omega))
    · walk_at "x"
      exact q _ _ e0 ⟨g, m2, t + 1, upd_same, hg, hm3, hm4⟩ (Int.emod_nonneg _ (by omega)) (Int.emod_lt_of_pos _ (by omega))
theorem sIx_le8 (n : Nat) : HT.sIx n n (some 8) ≤ 8 := by
  rw [show (some (8 : Int)) = some ((8 : Nat) : Int) from rfl, HT.sIx_nat]
  exact Nat.min_le_left _ _
theorem sc_law_spring : FnScope ["_law_cells", "_law_k", "_law_cell", "_law_mixed", "_law_each"] ["_law_cells", "_law_k"] (defScope s__law_spring) := ⟨rfl, rfl, rfl, by decide +kernel, rfl, by decide +kernel, by decide +kernel⟩
end
end K48
namespace K48
open PySem PySem.Spec PyProof.Rows L2
local macro_rules | `(tactic| walk_at "hg") => `(tactic| first | assumption | exact upd_same | (apply get_keep; assumption; walk_at "hg") | (apply get_same; assumption; walk_at "hg") | (apply get_mut; assumption; walk_at "hg"))
local macro_rules | `(tactic| walk_at "sq") => `(tactic| first | assumption | (apply SqT.of; walk_at "hg") | (apply SqL.of; walk_at "hg") | (apply same_t; assumption; walk_at "sq") | (apply Same.seq; assumption; walk_at "sq"))
local macro_rules | `(tactic| walk_at "sc") => `(tactic| first | omega | decide | assumption | (unfold CMul; omega) | (unfold CDiv; omega) | (show (0 : Int) < _; omega) | (exact cdivw (by omega) (by omega)) | (exact cdivp (by omega) (by omega)))
local macro_rules | `(tactic| walk_at "x1") => `(tactic| first
  | with_reducible refine x_seq ?_
  | with_reducible refine x_var (by with_unfolding_all rfl) ?_
  | with_reducible refine x_c ?_
  | with_reducible refine x_op ?_
  | with_reducible refine x_rI0 ?_
  | with_reducible refine x_bl ?_
  | with_reducible refine x_rEq (by with_unfolding_all rfl) ?_
  | with_reducible refine x_rNe (by with_unfolding_all rfl) ?_
  | with_reducible refine x_asg ?_
  | with_reducible refine x_gname ?_
  | with_reducible refine x_gcons ?_
  | with_reducible refine x_gnil ?_
  | with_reducible refine x_ret ?_
  | with_reducible refine x_drop ?_
  | with_reducible refine x_next ?_
  | with_reducible refine x_cont ?_
  | with_reducible refine x_brk ?_
  | with_reducible refine x_ifS ?_
  | with_reducible refine x_ifE ?_
  | with_reducible refine x_cons ?_
  | with_reducible refine x_nil ?_
  | with_reducible refine x_test ?_
  | with_reducible refine x_tB ?_
  | with_reducible refine x_and ?_
  | with_reducible refine x_or ?_
  | with_reducible refine x_not ?_
  | with_reducible refine x_andV ?_
  | with_reducible refine x_orV ?_
  | with_reducible refine x_notV ?_
  | with_reducible refine x_chain ?_
  | with_reducible refine x_par ?_
  | with_reducible refine x_two ?_
  | with_reducible refine x_un ?_
  | with_reducible refine x_rU ?_
  | with_reducible refine x_cb ?_
  | with_reducible refine x_call ?_
  | with_reducible refine x_sl ?_
  | with_reducible refine x_nopart ?_
  | with_reducible refine x_part ?_
  | with_reducible refine x_int ?_
  | with_reducible refine x_tup ?_
  | with_reducible refine x_lst ?_
  | with_reducible refine x_bm ?_
  | with_reducible refine x_fld ?_
  | with_reducible refine x_chain3 ?_
  | with_reducible refine x_yes ?_
  | with_reducible refine x_lcT ?_
  | with_reducible refine x_lcL ?_
  | with_reducible refine x_for ?_
  | with_reducible refine x_iT ?_
  | with_reducible refine x_iL ?_
  | with_reducible refine x_rng1 ?_
  | with_reducible refine x_rng2 ?_
  | with_reducible refine x_dcT ?_
  | with_reducible refine x_din ?_
  | with_reducible refine x_dni ?_
  | with_reducible refine x_lcE ?_
  | with_reducible refine x_enS ?_
  | with_reducible refine x_m1 ?_
  | with_reducible refine x_gsub ?_
  | ((with_reducible apply x_setl); (focus (walk_at "hg"; done)); (focus (with_unfolding_all rfl; done)))
  | with_reducible refine x_int1 ?_
  | with_reducible refine x_str2 ?_
  | ((with_reducible apply x_rI); (focus (walk_at "sc"; done)))
  | with_reducible refine x_sw ?_
  | with_reducible refine x_ss ?_
  | ((with_reducible apply x_ixT); (focus (walk_at "sq"; done)); (focus (with_unfolding_all rfl; done)))
  | ((with_reducible apply x_ixL); (focus (walk_at "sq"; done)); (focus (with_unfolding_all rfl; done)))
  | ((with_reducible apply x_gtup); (focus (walk_at "sq"; done)); (focus (with_unfolding_all rfl; done)))
  | ((with_reducible apply x_glst); (focus (walk_at "sq"; done)); (focus (with_unfolding_all rfl; done)))
  | with_reducible refine x_F dn_int ?_
  | with_reducible refine x_F dn_ref ?_
  | with_reducible refine x_T dn_non ?_
  | with_reducible refine x_T (by decide +kernel) ?_
  | with_reducible refine x_F (by decide +kernel) ?_)
local macro_rules | `(tactic| walk_at "sz") => `(tactic| first | (exact Nat.le_of_ble_eq_true rfl) | decide | omega)
local macro_rules | `(tactic| walk_at "x") => `(tactic| ((walk_at "x1"); repeat (walk_at "x1")))
/-! ### drawn rows -/
theorem menu_at {xs : List V} {d : Int} (h0 : 0 ≤ d) (h1 : d < xs.length) : ∃ x, x ∈ xs ∧ atI xs d = some x := by
  have hl : d.toNat < xs.length := by omega
  refine ⟨xs[d.toNat], List.getElem_mem hl, at_of (j := d.toNat) (by omega) (List.getElem?_eq_getElem hl)⟩
theorem dig_str : ∀ r : Fin 8, toString (r.val : Int) = dig r := by decide +kernel
section
variable {P : Program} {w : World} {K : PySem.W.Frag} {mg : Str → Option Value} {base : Heap}
def spOf : Sp := fun vs H Q _ => ∃ sp ml xs, vs = [.ref sp, .ref ml] ∧ SprAt sp H ∧ H ml = some (.lst xs) ∧ ml ≠ sp ∧ 1 ≤ xs.length ∧ xs.length ≤ 1000 ∧ ∀ x H', Ex sp H H' → SprAt sp H' → x ∈ xs → Q x H'
theorem sc_law_of : FnScope ["_law_spring_here", "_law_menu"] ["_law_spring_here", "_law_menu"] (defScope s__law_of) := ⟨rfl, rfl, rfl, by decide +kernel, rfl, by decide +kernel, by decide +kernel⟩
theorem ok__law_of (T : Tx w K mg) (B : HasDef K mg "_law_of" s__law_of ["_law_spring_here", "_law_menu"]) (D_law_draw : Def P w K mg base "_law_draw" 1 ["_law_spring_here", "_law_size_here"] spDraw) : Def P w K mg base "_law_of" 2 ["_law_spring_here", "_law_menu"] spOf := by
  refine Def.mk B sc_law_of (fun vs H Q E h => ?_) (fun f cdv A outer s H vs Q E hr h => ?_)
  · obtain ⟨sp, ml, xs, rfl, _⟩ := h
    rfl
  · obtain ⟨sp, ml, xs, rfl, hs, hm, ne, h1, h2, q⟩ := h
    refine ⟨_, (pss_one (ps_ret (pe_ix ix_list (pv 1) (pe_d D_law_draw hr (pa_cons (pv 0) (pa_cons (pe_callB call_len_seq (by rfl) T.z_len boot_len' (pa_cons (pv 1) pa_nil)) pa_nil))) (fun _ _ => rfl)))), ?_⟩
    walk_at "x"
    refine ⟨ml, xs, rfl, .inl (SqL.of hm), ?_⟩
    walk_at "x"
    refine ⟨sp, xs.length, rfl, hs, by omega, by omega, fun d H' e s' d0 d1 => ?_⟩
    obtain ⟨x, hx, hat⟩ := menu_at d0 d1
    exact x_ixL (SqL.of (e _ _ ne hm)) hat (q x H' e s' hx)
def spMeasure : Sp := fun vs H Q _ => ∃ sp, vs = [.ref sp] ∧ SprAt sp H ∧ ∀ (q : Q5) H', Ex sp H H' → SprAt sp H' → Q (.str q.text) H'
theorem sc_law_measure : FnScope ["_law_spring_here"] ["_law_spring_here"] (defScope s__law_measure) := ⟨rfl, rfl, rfl, by decide +kernel, rfl, by decide +kernel, by decide +kernel⟩
theorem ok__law_measure (T : Tx w K mg) (B : HasDef K mg "_law_measure" s__law_measure ["_law_spring_here"]) (D_law_of : Def P w K mg base "_law_of" 2 ["_law_spring_here", "_law_menu"] spOf) : Def P w K mg base "_law_measure" 3 ["_law_spring_here"] spMeasure := by
  refine Def.mk B sc_law_measure (fun vs H Q E h => ?_) (fun f cdv A outer s H vs Q E hr h => ?_)
  · obtain ⟨sp, rfl, _⟩ := h
    rfl
  · obtain ⟨sp, rfl, hs, q⟩ := h
    refine ⟨_, (pss_one (ps_ret (pe_d D_law_of hr (pa_cons (pv 0) (pa_cons (pe_lst (pa_cons pe_str (pa_cons pe_str (pa_cons pe_str (pa_cons pe_str (pa_cons pe_str (pa_cons pe_str pa_nil))))))) pa_nil))))), ?_⟩
    walk_at "x"
    refine ⟨by walk_at "sz", fun p np => ?_⟩
    walk_at "x"
    refine ⟨sp, p, _, rfl, hs.keep np, upd_same, hs.ne np, by decide, by decide, fun x H' e s' hx => ?_⟩
    have e2 : Ex sp H H' := ((Ex.refl H).new np).trans e
    have : ∃ q : Q5, x = .str q.text := by
      simp only [List.mem_cons, List.not_mem_nil, or_false] at hx
      rcases hx with rfl | rfl | rfl | rfl | rfl | rfl
      · exact ⟨.n1, rfl⟩
      · exact ⟨.n1, rfl⟩
      · exact ⟨.n2, rfl⟩
      · exact ⟨.n3, rfl⟩
      · exact ⟨.n4, rfl⟩
      · exact ⟨.fit, rfl⟩
    obtain ⟨q5, rfl⟩ := this
    exact q q5 H' e2 s'
def spPlaceL : Sp := fun vs H Q _ => ∃ (sp : Addr) (m : Nat) (b : Int), vs = [.ref sp, .int m, .int b] ∧ SprAt sp H ∧ 1 ≤ m ∧ m ≤ 8 ∧ b ≠ 0 ∧ ∀ (r : Fin 8) H', Ex sp H H' → SprAt sp H' → r.val < m → (r.val : Int) ≠ b → Q (.str (dig r)) H'
theorem sc_law_place : FnScope ["_law_spring_here", "_law_many", "_law_barred", "_law_spots", "_law_place_here"] ["_law_spring_here", "_law_many", "_law_barred"] (defScope s__law_place) := ⟨rfl, rfl, rfl, by decide +kernel, rfl, by decide +kernel, by decide +kernel⟩
/-- a comprehension over a range -/
def LcR (g : TG) (tt : TT) (te : TE) (vs : List Nat) (σ : L2.St) (Q : VK) (ws : List V) (H1 : Hp) : Prop := ∃ j : Int, ws = [.int j] ∧ -(2 ^ 62) ≤ j ∧ j < 2 ^ 62 ∧ ∀ D, H1 D = none → ∃ W : Nat → Nat → Hp → Prop, (∃ m, W 0 m (upd H1 D (.lst []))) ∧ ∀ i m H, W i m H →
  ((Itr 0 j.toNat).stop i H ∧ Q (.ref D) H) ∨ ((Itr 0 j.toNat).go i H ∧ ∃ Nx : Hp → Prop, (∀ H', Nx H' → ∃ m', m' < m ∧ W (i + 1) m' H') ∧ ∀ x H', (Itr 0 j.toNat).yld i H x H' → g x (wipe σ vs) H' fun σ2 H2 => wipe σ2 vs = wipe σ vs ∧ tt σ2 H2 fun b H3 =>
    if b = true then te σ2 H3 fun y H4 => ∃ acc, H4 D = some (.lst acc) ∧ acc.length < sizeLine ∧ Nx (upd H4 D (.lst (acc ++ [y]))) else Nx H3)
theorem x_lcR {ta : TA} {g : TG} {tt : TT} {te : TE} {vs : List Nat} {σ : L2.St} {H : Hp} {Q : VK} (q : ta σ H fun x H1 => LcR g tt te vs σ Q x H1) : tLc (iRng1 ta) g tt te vs σ H Q := q
/-- all but x stays (x: a spring, or nothing) -/
theorem lcR_go {tt : TT} {te : TE} {vs : List Nat} {σ : L2.St} {H : Hp} {Q : VK} {j n : Nat} {sp : Addr} (G : Nat → Hp → List V → Prop) (hn : n < 1000000) (hsp : SprAt sp H) (g0 : G 0 H []) (mono : ∀ i H H' l, TupSame H H' → G i H l → G i H' l) (hw : ∀ x, wipe ((wipe σ vs).set j (some x)) vs = wipe σ vs)
    (turn : ∀ i H' l, i < n → Ex sp H H' → SprAt sp H' → l.length ≤ i → G i H' l → ∀ (KT : VK) (KF : Hp → Prop), (∀ y H4, Ex sp H' H4 → SprAt sp H4 → G (i + 1) H4 (l ++ [y]) → KT y H4) → (∀ H3, Ex sp H' H3 → SprAt sp H3 → G (i + 1) H3 l → KF H3) → tt ((wipe σ vs).set j (some (.int (i : Nat)))) H' fun b H3 => if b = true then te ((wipe σ vs).set j (some (.int (i : Nat)))) H3 KT else KF H3)
    (q : ∀ D H' l, H D = none → Ex sp H H' → SprAt sp H' → H' D = some (.lst l) → G n H' l → Q (.ref D) H') : LcR (gName j) tt te vs σ Q [.int (n : Nat)] H := by
  refine ⟨n, rfl, by omega, by omega, fun D nD => ?_⟩
  have neD := hsp.ne nD
  rw [Int.toNat_natCast]
  refine ⟨fun i m H' => m = n - i ∧ i ≤ n ∧ Ex sp H H' ∧ SprAt sp H' ∧ ∃ l, l.length ≤ i ∧ H' D = some (.lst l) ∧ G i H' l, ⟨n, rfl, Nat.zero_le _, (Ex.refl H).new nD, hsp.keep nD, [], Nat.le_refl _, upd_same, mono _ _ _ _ (Same.tups (same_new (Same.refl _) nD)) g0⟩, ?_⟩
  rintro i m H' ⟨rfl, hi, e, s', l, hl, hD, hG⟩
  by_cases hlt : i < n
  · refine .inr ⟨hlt, fun H' => Ex sp H H' ∧ SprAt sp H' ∧ ∃ l, l.length ≤ i + 1 ∧ H' D = some (.lst l) ∧ G (i + 1) H' l, fun H' p' => ⟨n - (i + 1), by omega, rfl, hlt, p'⟩, fun x H2 y => ?_⟩
    obtain ⟨rfl, rfl⟩ := y
    refine x_gname ⟨hw _, ?_⟩
    rw [Int.zero_add]
    refine turn i H2 l hlt e s' hl hG _ _ (fun y H4 e4 s4 g4 => ?_) (fun H3 e3 s3 g3 => ⟨e.trans e3, s3, l, by omega, e3 _ _ neD hD, g3⟩)
    have hD4 := e4 _ _ neD hD
    have ts : TupSame H4 (upd H4 D (.lst (l ++ [y]))) := fun b zs hb => (upd_ne (fun z => by rw [z, hD4] at hb; cases hb)).trans hb
    refine ⟨l, hD4, Nat.lt_of_le_of_lt hl (Nat.lt_of_lt_of_le (Nat.lt_trans hlt hn) (by decide)), fun a o ne h => ?_, ?_, l ++ [y], by rw [List.length_append, List.length_singleton]; omega, upd_same, mono _ _ _ _ ts g4⟩
    · rw [upd_ne (ne_of_none h nD)]
      exact e4 _ _ ne (e _ _ ne h)
    · obtain ⟨g, m, t, h1, h2⟩ := s4
      exact ⟨g, m, t, (upd_ne neD.symm).trans h1, h2⟩
  · have en : i = n := by omega
    subst en
    exact .inl ⟨Nat.le_refl _, q D H' l nD e s' hD hG⟩
theorem dig_lay : ∀ rs : List (Fin 8), PyData.canLayAll0 ((rs.map dig).map PyData.str) = true
  | [] => by simp [PyData.canLayAll0]
  | r :: rs => by
    have h : PyData.canLay0 (.str (dig r)) = true := (show ∀ r : Fin 8, PyData.canLay0 (.str (dig r)) = true by decide +kernel) r
    simp [PyData.canLayAll0, h]
    simpa using dig_lay rs
theorem depth_strs : ∀ ns : List Str, PyData.depthAll (ns.map PyData.str) ≤ 1
  | [] => by simp [PyData.depthAll]
  | n :: ns => by
    have := depth_strs ns
    simp only [List.map_cons, PyData.depthAll, PyData.depth]
    omega
theorem ok__law_place (T : Tx w K mg) (B : HasDef K mg "_law_place" s__law_place ["_law_spring_here", "_law_many", "_law_barred"]) (D_law_draw : Def P w K mg base "_law_draw" 1 ["_law_spring_here", "_law_size_here"] spDraw) : Def P w K mg base "_law_place" 2 ["_law_spring_here", "_law_many", "_law_barred"] spPlaceL := by
  refine Def.mk B sc_law_place (fun vs H Q E h => ?_) (fun f cdv A outer s H vs Q E hr h => ?_)
  · obtain ⟨sp, m, b, rfl, _⟩ := h
    rfl
  · obtain ⟨sp, m, b, rfl, hs, h1, h8, hb, q⟩ := h
    refine ⟨_, (pss_cons (ps_setLc (i := 3) (own := [("_law_place_here", 4)]) (by rfl) sc_law_place.nd rfl rfl (sw_true rfl rfl rfl (by decide +kernel)) (pi_range1 (by rfl) T.z_range (pa_cons (pv 1) pa_nil)) (blkOk_by (N := ["_law_spring_here", "_law_many", "_law_barred", "_law_spots", "_law_place_here"]) (sc := defScope s__law_place) (by decide +kernel)) (fun _ _ _ _ _ => (pg_name (i := 4) sc_law_place.nd rfl (Or.inl rfl))) (fun _ _ _ _ _ => (pts_one (pt_cmpR op_ne (pv 4) (pv 2) (nomark _)))) (fun _ _ _ _ _ => (pe_callTy call_str_int (by rfl) T.z_str boot_str' (pa_cons (pv 4) pa_nil))))
      (pss_one (ps_ret (pe_ifExp (pt_cmpR (op_neD hr.units) (pv 3) (pe_lst pa_nil) (nomark _)) (pe_ix ix_list (pv 3) (pe_d D_law_draw hr (pa_cons (pv 0) (pa_cons (pe_callB call_len_seq (by rfl) T.z_len boot_len' (pa_cons (pv 3) pa_nil)) pa_nil))) (fun _ _ => rfl)) pe_str)))), ?_⟩
    walk_at "x"
    refine x_lcR ?_
    walk_at "x"
    refine lcR_go (sp := sp) (fun i _ l => ∃ rs : List (Fin 8), l = (rs.map dig).map V.str ∧ (∀ r ∈ rs, r.val < m ∧ (r.val : Int) ≠ b) ∧ (1 ≤ i → rs ≠ []) ∧ rs.length ≤ i) (by omega) hs ⟨[], rfl, fun _ h => (nomatch h), fun h => absurd h (by decide), Nat.le_refl _⟩ (fun _ _ _ _ _ h => h) (fun x => rfl) (fun i H' l hi e s' hli hG KT KF kT kF => ?_) (fun D H' l nD e s' hD hG => ?_)
    · obtain ⟨rs, rfl, hrs, hne, hrl⟩ := hG
      walk_at "x"
      rw [dV_int]
      refine x_TF (fun h2 => ?_) (fun h2 => ?_)
      · have h3 : ¬ (i : Int) = b := fun z => by rw [decide_eq_true z] at h2; cases h2
        walk_at "x"
        refine ⟨i, rfl, ?_, ?_⟩
        · exact Nat.lt_of_le_of_lt (Nat.log2_le_self _) (by omega)
        · rw [show toString (i : Int) = dig ⟨i, by omega⟩ from dig_str ⟨i, by omega⟩]
          refine kT _ _ (Ex.refl _) s' ⟨rs ++ [⟨i, by omega⟩], by simp, fun r hr => ?_, fun _ => by simp, by rw [List.length_append, List.length_singleton]; omega⟩
          rcases List.mem_append.mp hr with hr | hr
          · exact hrs r hr
          · rw [List.mem_singleton.mp hr]
            exact ⟨hi, h3⟩
      · have h3 : (i : Int) = b := by
          by_cases z : (i : Int) = b
          · exact z
          · rw [decide_eq_false z] at h2; cases h2
        exact kF _ (Ex.refl _) s' ⟨rs, rfl, hrs, fun _ => hne (by omega), by omega⟩
    · obtain ⟨rs, rfl, hrs, hne, hrl⟩ := hG
      have hne := hne (by omega)
      have neD := hs.ne nD
      walk_at "x"
      refine ⟨Nat.zero_le _, fun p np => ?_⟩
      refine ⟨.list ((rs.map dig).map PyData.str), .list [], .lst (SqL.of (get_keep np hD)) (dp_strs _), .lst (SqL.of upd_same) .nil, shaped_lst (dig_lay rs) (Nat.le_trans (depth_strs _) (by decide)), shaped_nilL, ?_⟩
      rw [eqv_lst_nil]
      walk_at "x"
      refine x_T (by cases rs with | nil => exact absurd rfl hne | cons r rs => rfl) ?_
      walk_at "x"
      have hD2 : upd H' p (.lst []) D = some (.lst ((rs.map dig).map V.str)) := get_keep np hD
      refine ⟨D, _, rfl, .inl (SqL.of hD2), ?_⟩
      walk_at "x"
      have hl : 1 ≤ ((rs.map dig).map V.str).length := by
        rw [List.length_map, List.length_map]
        exact List.length_pos_iff.mpr hne
      have hl2 : ((rs.map dig).map V.str).length ≤ 1000 := by
        rw [List.length_map, List.length_map]
        omega
      refine ⟨sp, ((rs.map dig).map V.str).length, rfl, s'.keep np, by omega, by omega, fun d H2 e2 s2 d0 d1 => ?_⟩
      obtain ⟨x, hx, hat⟩ := menu_at d0 d1
      refine x_ixL (SqL.of (e2 _ _ neD hD2)) hat ?_
      obtain ⟨y, hy, rfl⟩ := List.mem_map.mp hx
      obtain ⟨r, hr, rfl⟩ := List.mem_map.mp hy
      exact q r H2 ((e.new np).trans e2) s2 (hrs r hr).1 (hrs r hr).2
end
end K48
namespace K48
open PySem PySem.Spec PyProof.Rows L2
local macro_rules | `(tactic| walk_at "hg") => `(tactic| first | assumption | exact upd_same | (apply get_keep; assumption; walk_at "hg") | (apply get_same; assumption; walk_at "hg") | (apply get_mut; assumption; walk_at "hg"))
local macro_rules | `(tactic| walk_at "sq") => `(tactic| first | assumption | (apply SqT.of; walk_at "hg") | (apply SqL.of; walk_at "hg") | (apply same_t; assumption; walk_at "sq") | (apply Same.seq; assumption; walk_at "sq"))
local macro_rules | `(tactic| walk_at "sc") => `(tactic| first | omega | decide | assumption | (unfold CMul; omega) | (unfold CDiv; omega) | (show (0 : Int) < _; omega) | (exact cdivw (by omega) (by omega)) | (exact cdivp (by omega) (by omega)))
local macro_rules | `(tactic| walk_at "x1") => `(tactic| first
  | with_reducible refine x_seq ?_
  | with_reducible refine x_var (by with_unfolding_all rfl) ?_
  | with_reducible refine x_c ?_
  | with_reducible refine x_op ?_
  | with_reducible refine x_rI0 ?_
  | with_reducible refine x_bl ?_
  | with_reducible refine x_rEq (by with_unfolding_all rfl) ?_
  | with_reducible refine x_rNe (by with_unfolding_all rfl) ?_
  | with_reducible refine x_asg ?_
  | with_reducible refine x_gname ?_
  | with_reducible refine x_gcons ?_
  | with_reducible refine x_gnil ?_
  | with_reducible refine x_ret ?_
  | with_reducible refine x_drop ?_
  | with_reducible refine x_next ?_
  | with_reducible refine x_cont ?_
  | with_reducible refine x_brk ?_
  | with_reducible refine x_ifS ?_
  | with_reducible refine x_ifE ?_
  | with_reducible refine x_cons ?_
  | with_reducible refine x_nil ?_
  | with_reducible refine x_test ?_
  | with_reducible refine x_tB ?_
  | with_reducible refine x_and ?_
  | with_reducible refine x_or ?_
  | with_reducible refine x_not ?_
  | with_reducible refine x_andV ?_
  | with_reducible refine x_orV ?_
  | with_reducible refine x_notV ?_
  | with_reducible refine x_chain ?_
  | with_reducible refine x_par ?_
  | with_reducible refine x_two ?_
  | with_reducible refine x_un ?_
  | with_reducible refine x_rU ?_
  | with_reducible refine x_cb ?_
  | with_reducible refine x_call ?_
  | with_reducible refine x_sl ?_
  | with_reducible refine x_nopart ?_
  | with_reducible refine x_part ?_
  | with_reducible refine x_int ?_
  | with_reducible refine x_tup ?_
  | with_reducible refine x_lst ?_
  | with_reducible refine x_bm ?_
  | with_reducible refine x_fld ?_
  | with_reducible refine x_chain3 ?_
  | with_reducible refine x_yes ?_
  | with_reducible refine x_lcT ?_
  | with_reducible refine x_lcL ?_
  | with_reducible refine x_for ?_
  | with_reducible refine x_iT ?_
  | with_reducible refine x_iL ?_
  | with_reducible refine x_rng1 ?_
  | with_reducible refine x_rng2 ?_
  | with_reducible refine x_dcT ?_
  | with_reducible refine x_din ?_
  | with_reducible refine x_dni ?_
  | with_reducible refine x_lcE ?_
  | with_reducible refine x_enS ?_
  | with_reducible refine x_m1 ?_
  | with_reducible refine x_gsub ?_
  | ((with_reducible apply x_setl); (focus (walk_at "hg"; done)); (focus (with_unfolding_all rfl; done)))
  | with_reducible refine x_int1 ?_
  | with_reducible refine x_str2 ?_
  | ((with_reducible apply x_rI); (focus (walk_at "sc"; done)))
  | with_reducible refine x_sw ?_
  | with_reducible refine x_ss ?_
  | ((with_reducible apply x_ixT); (focus (walk_at "sq"; done)); (focus (with_unfolding_all rfl; done)))
  | ((with_reducible apply x_ixL); (focus (walk_at "sq"; done)); (focus (with_unfolding_all rfl; done)))
  | ((with_reducible apply x_gtup); (focus (walk_at "sq"; done)); (focus (with_unfolding_all rfl; done)))
  | ((with_reducible apply x_glst); (focus (walk_at "sq"; done)); (focus (with_unfolding_all rfl; done)))
  | with_reducible refine x_F dn_int ?_
  | with_reducible refine x_F dn_ref ?_
  | with_reducible refine x_T dn_non ?_
  | with_reducible refine x_T (by decide +kernel) ?_
  | with_reducible refine x_F (by decide +kernel) ?_)
local macro_rules | `(tactic| walk_at "sz") => `(tactic| first | (exact Nat.le_of_ble_eq_true rfl) | decide | omega)
local macro_rules | `(tactic| walk_at "x") => `(tactic| ((walk_at "x1"); repeat (walk_at "x1")))
theorem qlen (q : Q5) : q.text.length ≤ 3 := by cases q <;> decide +kernel
theorem clen (c : Bool) : (cvS c).length = 1 := by cases c <;> decide +kernel
theorem dlen (r : Fin 8) : (dig r).length = 1 := (show ∀ r : Fin 8, (dig r).length = 1 by decide +kernel) r
theorem less_head (s : Sb) : ∃ z : Str, z = s.head ++ (" " : Str) ∧ z.length ≤ 8 := ⟨_, rfl, by cases s <;> decide +kernel⟩
theorem szl {a : Nat} (h : a ≤ 1000) : a ≤ sizeLine := Nat.le_trans h (by decide)
theorem l_go : ("go " : Str).length = 3 := by decide +kernel
theorem l_if : ("if " : Str).length = 3 := by decide +kernel
theorem l_lt : (" < " : Str).length = 3 := by decide +kernel
theorem l_sgo : (" go " : Str).length = 4 := by decide +kernel
section
variable {P : Program} {w : World} {K : PySem.W.Frag} {mg : Str → Option Value} {base : Heap}
def spLastRow : Sp := fun vs H Q _ => ∃ (sp : Addr) (m : Nat), vs = [.ref sp, .int m] ∧ SprAt sp H ∧ 1 ≤ m ∧ m ≤ 8 ∧ ∀ (r : Row) H', Ex sp H H' → SprAt sp H' → r.lasts = true → (∀ i, r.ok i m = true) → Q (.str r.text) H'
theorem sc_law_last_row : FnScope ["_law_spring_here", "_law_many"] ["_law_spring_here", "_law_many"] (defScope s__law_last_row) := ⟨rfl, rfl, rfl, by decide +kernel, rfl, by decide +kernel, by decide +kernel⟩
theorem ok__law_last_row (T : Tx w K mg) (B : HasDef K mg "_law_last_row" s__law_last_row ["_law_spring_here", "_law_many"]) (D_law_of : Def P w K mg base "_law_of" 2 ["_law_spring_here", "_law_menu"] spOf) (D_law_place : Def P w K mg base "_law_place" 2 ["_law_spring_here", "_law_many", "_law_barred"] spPlaceL) :
    Def P w K mg base "_law_last_row" 3 ["_law_spring_here", "_law_many"] spLastRow := by
  refine Def.mk B sc_law_last_row (fun vs H Q E h => ?_) (fun f cdv A outer s H vs Q E hr h => ?_)
  · obtain ⟨sp, m, rfl, _⟩ := h
    rfl
  · obtain ⟨sp, m, rfl, hs, h1, h8, q⟩ := h
    refine ⟨_, (pss_one (ps_ret (pe_d D_law_of hr (pa_cons (pv 0) (pa_cons (pe_lst (pa_cons pe_str (pa_cons pe_str (pa_cons pe_str (pa_cons (pe_op op_add_str pe_str (pe_d D_law_place hr (pa_cons (pv 0) (pa_cons (pv 1) (pa_cons (pe_un un_neg pe_int) pa_nil))))) pa_nil))))) pa_nil))))), ?_⟩
    walk_at "x"
    refine ⟨sp, m, -1, rfl, hs, h1, h8, by decide, fun r H1 e1 s1 hr1 _ => ?_⟩
    walk_at "x"
    refine ⟨szl (by rw [l_go, dlen]; decide), ?_⟩
    refine ⟨by walk_at "sz", fun p np => ?_⟩
    walk_at "x"
    refine ⟨sp, p, _, rfl, s1.keep np, upd_same, s1.ne np, by simp, by simp, fun x H' e s' hx => ?_⟩
    have e2 : Ex sp H H' := (e1.new np).trans e
    simp only [List.mem_cons, List.not_mem_nil, or_false] at hx
    rcases hx with rfl | rfl | rfl | rfl
    · exact q .giveC H' e2 s' rfl fun _ => rfl
    · exact q .giveR H' e2 s' rfl fun _ => rfl
    · exact q .again H' e2 s' rfl fun _ => rfl
    · exact q (.go r) H' e2 s' rfl fun _ => decide_eq_true hr1
def spRow : Sp := fun vs H Q _ => ∃ (sp : Addr) (i m : Nat), vs = [.ref sp, .int i, .int m] ∧ SprAt sp H ∧ i < m ∧ m ≤ 8 ∧ ∀ (r : Row) H', Ex sp H H' → SprAt sp H' → r.ok i m = true → (i + 1 = m → r.lasts = true) → Q (.str r.text) H'
theorem sc_law_row : FnScope ["_law_spring_here", "_law_at", "_law_many", "_law_way", "_law_subject"] ["_law_spring_here", "_law_at", "_law_many"] (defScope s__law_row) := ⟨rfl, rfl, rfl, by decide +kernel, rfl, by decide +kernel, by decide +kernel⟩
theorem ok__law_row (T : Tx w K mg) (B : HasDef K mg "_law_row" s__law_row ["_law_spring_here", "_law_at", "_law_many"]) (D_law_draw : Def P w K mg base "_law_draw" 1 ["_law_spring_here", "_law_size_here"] spDraw) (D_law_of : Def P w K mg base "_law_of" 2 ["_law_spring_here", "_law_menu"] spOf)
    (D_law_place : Def P w K mg base "_law_place" 2 ["_law_spring_here", "_law_many", "_law_barred"] spPlaceL) (D_law_measure : Def P w K mg base "_law_measure" 3 ["_law_spring_here"] spMeasure) (D_law_last_row : Def P w K mg base "_law_last_row" 3 ["_law_spring_here", "_law_many"] spLastRow) :
    Def P w K mg base "_law_row" 4 ["_law_spring_here", "_law_at", "_law_many"] spRow := by
  refine Def.mk B sc_law_row (fun vs H Q E h => ?_) (fun f cdv A outer s H vs Q E hr h => ?_)
  · obtain ⟨sp, i, m, rfl, _⟩ := h
    rfl
  · obtain ⟨sp, i, m, rfl, hs, h1, h8, q⟩ := h
    refine ⟨_, (pss_cons (ps_set (i := 3) sc_law_row.nd rfl (Or.inl rfl) (pe_d D_law_draw hr (pa_cons (pv 0) (pa_cons pe_int pa_nil))))
      (pss_cons (ps_if (PW.pt (pw_or (pt_cmpR op_eq (pv 1) (pe_op op_sub (pv 2) pe_int) (nomark _)) (pw_or1 (pt_cmpR op_eq (pv 3) pe_int (nomark _))))) (pss_one (ps_ret (pe_d D_law_last_row hr (pa_cons (pv 0) (pa_cons (pv 2) pa_nil))))) pss_nil)
      (pss_cons (ps_if (pt_cmpR op_eq (pv 3) pe_int (nomark _)) (pss_one (ps_ret pe_str)) pss_nil)
      (pss_cons (ps_if (pt_cmpR op_lt (pv 3) pe_int (nomark _)) (pss_cons (ps_set (i := 4) sc_law_row.nd rfl (Or.inl rfl) (pe_ifExp (pt_cmpR op_eq (pv 3) pe_int (nomark _)) pe_str pe_str))
      (pss_one (ps_ret (pe_op op_add_str (pe_op op_add_str (pe_op op_add_str (pe_op op_add_str (pe_op op_add_str pe_str (pv 4)) pe_str) (pe_d D_law_measure hr (pa_cons (pv 0) pa_nil))) pe_str) (pe_d D_law_place hr (pa_cons (pv 0) (pa_cons (pv 2) (pa_cons (pe_op op_add (pv 1) pe_int) pa_nil)))))))) pss_nil)
      (pss_one (ps_ret (pe_op op_add_str (pe_d D_law_of hr (pa_cons (pv 0) (pa_cons (pe_lst (pa_cons pe_str (pa_cons pe_str (pa_cons pe_str (pa_cons pe_str pa_nil))))) pa_nil))) (pe_d D_law_measure hr (pa_cons (pv 0) pa_nil))))))))), ?_⟩
    walk_at "x"
    refine ⟨sp, 7, rfl, hs, by decide, by decide, fun d H1 e1 s1 d0 d1 => ?_⟩
    walk_at "x"
    refine x_TF (fun g1 => ?_) (fun g1 => ?_)
    · walk_at "x"
      exact ⟨sp, m, rfl, s1, by omega, h8, fun r H' e s' hl ho => q r H' (e1.trans e) s' (ho i) fun _ => hl⟩
    · walk_at "x"
      have hne : ¬ (i + 1 = m) := fun z => by
        rw [dV_int, decide_eq_true (by omega)] at g1
        cases g1
      refine x_TF (fun g2 => ?_) (fun g2 => ?_)
      · walk_at "x"
        exact ⟨sp, m, rfl, s1, by omega, h8, fun r H' e s' hl ho => q r H' (e1.trans e) s' (ho i) fun _ => hl⟩
      · walk_at "x"
        refine x_TF (fun g3 => ?_) (fun g3 => ?_)
        · walk_at "x"
          exact q .take H1 e1 s1 rfl fun z => absurd z hne
        · walk_at "x"
          refine x_TF (fun g4 => ?_) (fun g4 => ?_)
          · walk_at "x"
            refine x_TF (fun g5 => ?wayA) (fun g5 => ?wayB)
            case' wayA =>
              walk_at "x"
              have hcv : ("v" : Str) = cvS false := rfl
              rw [hcv]
              generalize false = c
            case' wayB =>
              walk_at "x"
              have hcv : ("c" : Str) = cvS true := rfl
              rw [hcv]
              generalize true = c
            all_goals
              refine ⟨szl (by rw [l_if, clen]; decide), ?_⟩
              walk_at "x"
              refine ⟨szl (by rw [PySem.Str.length_append, l_if, clen, l_lt]; decide), ?_⟩
              walk_at "x"
              refine ⟨sp, rfl, s1, fun q5 H2 e2 s2 => ?_⟩
              have hq := qlen q5
              walk_at "x"
              refine ⟨szl (by rw [PySem.Str.length_append, PySem.Str.length_append, l_if, clen, l_lt]; omega), ?_⟩
              walk_at "x"
              refine ⟨szl (by rw [PySem.Str.length_append, PySem.Str.length_append, PySem.Str.length_append, l_if, clen, l_lt, l_sgo]; omega), ?_⟩
              walk_at "x"
              refine ⟨sp, m, i + 1, rfl, s2, by omega, h8, by omega, fun r H3 e3 s3 r1 r2 => ?_⟩
              walk_at "x"
              refine ⟨szl (by rw [PySem.Str.length_append, PySem.Str.length_append, PySem.Str.length_append, PySem.Str.length_append, l_if, clen, l_lt, l_sgo, dlen]; omega), ?_⟩
              exact q (.iff c q5 r) H3 ((e1.trans e2).trans e3) s3 (by
                show (decide (r.val < m) && decide (r.val ≠ i + 1)) = true
                rw [decide_eq_true r1, decide_eq_true (by omega)]
                rfl) fun z => absurd z hne
          · walk_at "x"
            refine ⟨by walk_at "sz", fun p np => ?_⟩
            walk_at "x"
            refine ⟨sp, p, _, rfl, s1.keep np, upd_same, s1.ne np, by decide, by decide, fun x H2 e2 s2 hx => ?_⟩
            have e12 : Ex sp H H2 := (e1.new np).trans e2
            have : ∃ s : Sb, x = .str (s.head ++ (" " : Str)) := by
              simp only [List.mem_cons, List.not_mem_nil, or_false] at hx
              rcases hx with rfl | rfl | rfl | rfl
              · exact ⟨.cv, congrArg V.str (by decide +kernel)⟩
              · exact ⟨.c, congrArg V.str (by decide +kernel)⟩
              · exact ⟨.v, congrArg V.str (by decide +kernel)⟩
              · exact ⟨.cv, congrArg V.str (by decide +kernel)⟩
            obtain ⟨sb, rfl⟩ := this
            walk_at "x"
            refine ⟨sp, rfl, s2, fun q5 H3 e3 s3 => ?_⟩
            have hq := qlen q5
            obtain ⟨z, hz1, hz2⟩ := less_head sb
            walk_at "x"
            refine ⟨szl (by rw [← hz1]; omega), ?_⟩
            exact q (.less sb q5) H3 (e12.trans e3) s3 rfl fun z => absurd z hne
end
end K48
namespace K48
open PySem PySem.Spec PyProof.Rows L2
local macro_rules | `(tactic| walk_at "hg") => `(tactic| first | assumption | exact upd_same | (apply get_keep; assumption; walk_at "hg") | (apply get_same; assumption; walk_at "hg") | (apply get_mut; assumption; walk_at "hg"))
local macro_rules | `(tactic| walk_at "sq") => `(tactic| first | assumption | (apply SqT.of; walk_at "hg") | (apply SqL.of; walk_at "hg") | (apply same_t; assumption; walk_at "sq") | (apply Same.seq; assumption; walk_at "sq"))
local macro_rules | `(tactic| walk_at "sc") => `(tactic| first | omega | decide | assumption | (unfold CMul; omega) | (unfold CDiv; omega) | (show (0 : Int) < _; omega) | (exact cdivw (by omega) (by omega)) | (exact cdivp (by omega) (by omega)))
local macro_rules | `(tactic| walk_at "x1") => `(tactic| first
  | with_reducible refine x_seq ?_
  | with_reducible refine x_var (by with_unfolding_all rfl) ?_
  | with_reducible refine x_c ?_
  | with_reducible refine x_op ?_
  | with_reducible refine x_rI0 ?_
  | with_reducible refine x_bl ?_
  | with_reducible refine x_rEq (by with_unfolding_all rfl) ?_
  | with_reducible refine x_rNe (by with_unfolding_all rfl) ?_
  | with_reducible refine x_asg ?_
  | with_reducible refine x_gname ?_
  | with_reducible refine x_gcons ?_
  | with_reducible refine x_gnil ?_
  | with_reducible refine x_ret ?_
  | with_reducible refine x_drop ?_
  | with_reducible refine x_next ?_
  | with_reducible refine x_cont ?_
  | with_reducible refine x_brk ?_
  | with_reducible refine x_ifS ?_
  | with_reducible refine x_ifE ?_
  | with_reducible refine x_cons ?_
  | with_reducible refine x_nil ?_
  | with_reducible refine x_test ?_
  | with_reducible refine x_tB ?_
  | with_reducible refine x_and ?_
  | with_reducible refine x_or ?_
  | with_reducible refine x_not ?_
  | with_reducible refine x_andV ?_
  | with_reducible refine x_orV ?_
  | with_reducible refine x_notV ?_
  | with_reducible refine x_chain ?_
  | with_reducible refine x_par ?_
  | with_reducible refine x_two ?_
  | with_reducible refine x_un ?_
  | with_reducible refine x_rU ?_
  | with_reducible refine x_cb ?_
  | with_reducible refine x_call ?_
  | with_reducible refine x_sl ?_
  | with_reducible refine x_nopart ?_
  | with_reducible refine x_part ?_
  | with_reducible refine x_int ?_
  | with_reducible refine x_tup ?_
  | with_reducible refine x_lst ?_
  | with_reducible refine x_bm ?_
  | with_reducible refine x_fld ?_
  | with_reducible refine x_chain3 ?_
  | with_reducible refine x_yes ?_
  | with_reducible refine x_lcT ?_
  | with_reducible refine x_lcL ?_
  | with_reducible refine x_for ?_
  | with_reducible refine x_iT ?_
  | with_reducible refine x_iL ?_
  | with_reducible refine x_rng1 ?_
  | with_reducible refine x_rng2 ?_
  | with_reducible refine x_dcT ?_
  | with_reducible refine x_din ?_
  | with_reducible refine x_dni ?_
  | with_reducible refine x_lcE ?_
  | with_reducible refine x_enS ?_
  | with_reducible refine x_m1 ?_
  | with_reducible refine x_gsub ?_
  | ((with_reducible apply x_setl); (focus (walk_at "hg"; done)); (focus (with_unfolding_all rfl; done)))
  | with_reducible refine x_int1 ?_
  | with_reducible refine x_str2 ?_
  | ((with_reducible apply x_rI); (focus (walk_at "sc"; done)))
  | with_reducible refine x_sw ?_
  | with_reducible refine x_ss ?_
  | ((with_reducible apply x_ixT); (focus (walk_at "sq"; done)); (focus (with_unfolding_all rfl; done)))
  | ((with_reducible apply x_ixL); (focus (walk_at "sq"; done)); (focus (with_unfolding_all rfl; done)))
  | ((with_reducible apply x_gtup); (focus (walk_at "sq"; done)); (focus (with_unfolding_all rfl; done)))
  | ((with_reducible apply x_glst); (focus (walk_at "sq"; done)); (focus (with_unfolding_all rfl; done)))
  | with_reducible refine x_F dn_int ?_
  | with_reducible refine x_F dn_ref ?_
  | with_reducible refine x_T dn_non ?_
  | with_reducible refine x_T (by decide +kernel) ?_
  | with_reducible refine x_F (by decide +kernel) ?_)
local macro_rules | `(tactic| walk_at "sz") => `(tactic| first | (exact Nat.le_of_ble_eq_true rfl) | decide | omega)
local macro_rules | `(tactic| walk_at "x") => `(tactic| ((walk_at "x1"); repeat (walk_at "x1")))
/-! ### drawn programs -/
def prgB (rows : List Row) : Bool := decide (1 ≤ rows.length) && decide (rows.length ≤ 8) && (List.range rows.length).all fun i => match rows[i]? with
  | some r => r.ok i rows.length && (!decide (i + 1 = rows.length) || r.lasts)
  | none => true
theorem prg_of {rows : List Row} (h : prgB rows = true) : Prg rows := by
  unfold prgB at h
  simp only [Bool.and_eq_true, decide_eq_true_eq] at h
  obtain ⟨⟨h1, h2⟩, h3⟩ := h
  refine ⟨h1, h2, fun i r hi => ?_⟩
  have hl := (List.getElem?_eq_some_iff.mp hi).1
  have := List.all_eq_true.mp h3 i (List.mem_range.mpr hl)
  rw [hi] at this
  simp only [Bool.and_eq_true, Bool.or_eq_true, Bool.not_eq_true', decide_eq_false_iff_not] at this
  exact ⟨this.1, fun z => this.2.elim (fun n => absurd z n) id⟩
def baseRows (q : Q5) : Nat → List Row
  | 0 => [.iff false .n1 3, .iff true .n1 5, .less .cv .n1, .take, .go 0, .giveC]
  | 1 => [.iff false .n1 3, .iff true .n1 5, .again, .take, .go 0, .giveC]
  | 2 => [.iff false q 4, .iff true .fit 6, .less .cv .fit, .go 0, .take, .go 0, .giveR]
  | 3 => [.iff false q 2, .giveR, .take, .go 0]
  | 4 => [.take, .iff false q 0, .iff true .fit 5, .less .cv .fit, .go 1, .giveR]
  | 5 => [.iff false q 4, .iff true q 6, .less .cv q, .go 0, .take, .go 0, .giveR]
  | 6 => [.go 4, .take, .giveC, .less .cv .n1, .iff false .n1 6, .iff true .n1 2, .iff false .n1 1, .go 3]
  | 7 => [.iff false .n2 2, .go 4, .take, .go 0, .iff true .n1 6, .less .cv .n1, .giveC]
  | _ => [.iff false .n1 2, .giveC, .take, .go 0]
theorem base_prg (q : Q5) (i : Nat) : Prg (baseRows q i) := by
  refine prg_of ?_
  match i with
  | 0 | 1 | 2 | 3 | 4 | 5 | 6 | 7 => cases q <;> decide +kernel
  | n + 8 => exact (show prgB [.iff false .n1 2, .giveC, .take, .go 0] = true by decide +kernel)
theorem texts_eq {ys : List Str} {rows : List Row} (h : ys = rows.map Row.text) : ys.map V.str = textsV rows := by
  rw [h, List.map_map]
  rfl
section
variable {P : Program} {w : World} {K : PySem.W.Frag} {mg : Str → Option Value} {base : Heap}
def spRows : Sp := fun vs H Q _ => ∃ sp, vs = [.ref sp] ∧ SprAt sp H ∧ ∀ p rows H', Ex sp H H' → SprAt sp H' → H p = none → H' p = some (.lst (textsV rows)) → Prg rows → Q (.ref p) H'
theorem sc_law_base : FnScope ["_law_spring_here", "_law_way", "_law_size_here", "_law_head"] ["_law_spring_here"] (defScope s__law_base) := ⟨rfl, rfl, rfl, by decide +kernel, rfl, by decide +kernel, by decide +kernel⟩
theorem ok__law_base (T : Tx w K mg) (B : HasDef K mg "_law_base" s__law_base ["_law_spring_here"]) (D_law_draw : Def P w K mg base "_law_draw" 1 ["_law_spring_here", "_law_size_here"] spDraw) (D_law_of : Def P w K mg base "_law_of" 2 ["_law_spring_here", "_law_menu"] spOf) :
    Def P w K mg base "_law_base" 3 ["_law_spring_here"] spRows := by
  refine Def.mk B sc_law_base (fun vs H Q E h => ?_) (fun f cdv A outer s H vs Q E hr h => ?_)
  · obtain ⟨sp, rfl, _⟩ := h
    rfl
  · obtain ⟨sp, rfl, hs, q⟩ := h
    refine ⟨_, (pss_cons (ps_par (i := 1) (j := 2) (by rfl) sc_law_base.nd rfl rfl (by decide) rfl rfl (pa_cons (pe_d D_law_draw hr (pa_cons (pv 0) (pa_cons pe_int pa_nil))) (pa_cons (pe_d D_law_of hr (pa_cons (pv 0) (pa_cons (pe_lst (pa_cons pe_str (pa_cons pe_str (pa_cons pe_str (pa_cons pe_str pa_nil))))) pa_nil))) pa_nil)) (by rfl))
      (pss_cons (ps_if (pt_cmpR op_eq (pv 1) pe_int (nomark _)) (pss_one (ps_ret (pe_lst (pa_cons pe_str (pa_cons pe_str (pa_cons pe_str (pa_cons pe_str (pa_cons pe_str (pa_cons pe_str pa_nil))))))))) pss_nil)
      (pss_cons (ps_if (pt_cmpR op_eq (pv 1) pe_int (nomark _)) (pss_one (ps_ret (pe_lst (pa_cons pe_str (pa_cons pe_str (pa_cons pe_str (pa_cons pe_str (pa_cons pe_str (pa_cons pe_str pa_nil))))))))) pss_nil)
      (pss_cons (ps_if (pt_cmpR op_eq (pv 1) pe_int (nomark _)) (pss_one (ps_ret (pe_lst (pa_cons (pe_op op_add_str (pe_op op_add_str pe_str (pv 2)) pe_str) (pa_cons pe_str (pa_cons pe_str (pa_cons pe_str (pa_cons pe_str (pa_cons pe_str (pa_cons pe_str pa_nil)))))))))) pss_nil)
      (pss_cons (ps_if (pt_cmpR op_eq (pv 1) pe_int (nomark _)) (pss_one (ps_ret (pe_lst (pa_cons (pe_op op_add_str (pe_op op_add_str pe_str (pv 2)) pe_str) (pa_cons pe_str (pa_cons pe_str (pa_cons pe_str pa_nil))))))) pss_nil)
      (pss_cons (ps_if (pt_cmpR op_eq (pv 1) pe_int (nomark _)) (pss_one (ps_ret (pe_lst (pa_cons pe_str (pa_cons (pe_op op_add_str (pe_op op_add_str pe_str (pv 2)) pe_str) (pa_cons pe_str (pa_cons pe_str (pa_cons pe_str (pa_cons pe_str pa_nil))))))))) pss_nil)
      (pss_cons (ps_if (pt_cmpR op_eq (pv 1) pe_int (nomark _)) (pss_cons (ps_set (i := 3) sc_law_base.nd rfl (Or.inl rfl) (pe_lst (pa_cons (pe_op op_add_str (pe_op op_add_str pe_str (pv 2)) pe_str) (pa_cons (pe_op op_add_str (pe_op op_add_str pe_str (pv 2)) pe_str) (pa_cons (pe_op op_add_str pe_str (pv 2)) pa_nil)))))
      (pss_one (ps_ret (pe_op op_cat (pv 3) (pe_lst (pa_cons pe_str (pa_cons pe_str (pa_cons pe_str (pa_cons pe_str pa_nil))))))))) pss_nil)
      (pss_cons (ps_if (pt_cmpR op_eq (pv 1) pe_int (nomark _)) (pss_one (ps_ret (pe_lst (pa_cons pe_str (pa_cons pe_str (pa_cons pe_str (pa_cons pe_str (pa_cons pe_str (pa_cons pe_str (pa_cons pe_str (pa_cons pe_str pa_nil))))))))))) pss_nil)
      (pss_cons (ps_if (pt_cmpR op_eq (pv 1) pe_int (nomark _)) (pss_one (ps_ret (pe_lst (pa_cons pe_str (pa_cons pe_str (pa_cons pe_str (pa_cons pe_str (pa_cons pe_str (pa_cons pe_str (pa_cons pe_str pa_nil)))))))))) pss_nil)
      (pss_one (ps_ret (pe_lst (pa_cons pe_str (pa_cons pe_str (pa_cons pe_str (pa_cons pe_str pa_nil)))))))))))))))), ?_⟩
    walk_at "x"
    refine ⟨sp, 9, rfl, hs, by decide, by decide, fun d H1 e1 s1 d0 d1 => ?_⟩
    walk_at "x"
    refine ⟨by walk_at "sz", fun p np => ?_⟩
    walk_at "x"
    refine ⟨sp, p, _, rfl, s1.keep np, upd_same, s1.ne np, by decide, by decide, fun x H2 e2 s2 hx => ?_⟩
    have e12 : Ex sp H H2 := (e1.new np).trans e2
    have : ∃ q5 : Q5, x = .str q5.text := by
      simp only [List.mem_cons, List.not_mem_nil, or_false] at hx
      rcases hx with rfl | rfl | rfl | rfl
      · exact ⟨.n1, rfl⟩
      · exact ⟨.n2, rfl⟩
      · exact ⟨.n3, rfl⟩
      · exact ⟨.n4, rfl⟩
    obtain ⟨q5, rfl⟩ := this
    have hql := qlen q5
    have fin : ∀ (i : Nat) (xs : List V) (D : Addr) (H3 : Hp), Ex sp H2 H3 → SprAt sp H3 → H3 D = none → xs = textsV (baseRows q5 i) → Q (.ref D) (upd H3 D (.lst xs)) := fun i xs D H3 e3 s3 nD ex =>
      q D (baseRows q5 i) _ ((e12.trans e3).new nD) (s3.keep nD) ((e12.trans e3).free s3 nD) (by rw [ex]; exact upd_same) (base_prg q5 i)
    have hd : d = 0 ∨ d = 1 ∨ d = 2 ∨ d = 3 ∨ d = 4 ∨ d = 5 ∨ d = 6 ∨ d = 7 ∨ d = 8 := by omega
    have l1 : ("if v < " : Str).length = 7 := by decide +kernel
    have l2 : ("if c < " : Str).length = 7 := by decide +kernel
    have l3 : (" go 4" : Str).length = 5 := by decide +kernel
    have l4 : (" go 2" : Str).length = 5 := by decide +kernel
    have l5 : (" go 0" : Str).length = 5 := by decide +kernel
    have l6 : (" go 6" : Str).length = 5 := by decide +kernel
    have l7 : ("less " : Str).length = 5 := by decide +kernel
    rcases hd with rfl | rfl | rfl | rfl | rfl | rfl | rfl | rfl | rfl
    · walk_at "x"
      exact ⟨by walk_at "sz", fun D nD => fin 0 _ D _ (Ex.refl _) s2 nD (texts_eq (ys := ["if v < n go 3", "if c < n go 5", "less n", "take", "go 0", "give c"]) (by cases q5 <;> decide +kernel))⟩
    · walk_at "x"
      exact ⟨by walk_at "sz", fun D nD => fin 1 _ D _ (Ex.refl _) s2 nD (texts_eq (ys := ["if v < n go 3", "if c < n go 5", "again", "take", "go 0", "give c"]) (by cases q5 <;> decide +kernel))⟩
    · walk_at "x"
      refine ⟨szl (by rw [l1]; omega), ?_⟩
      walk_at "x"
      refine ⟨szl (by rw [PySem.Str.length_append, l1, l3]; omega), ?_⟩
      exact ⟨by walk_at "sz", fun D nD => fin 2 _ D _ (Ex.refl _) s2 nD (texts_eq (ys := [("if v < " : Str) ++ q5.text ++ (" go 4" : Str), "if c < fit go 6", "less fit", "go 0", "take", "go 0", "give rest"]) (by cases q5 <;> decide +kernel))⟩
    · walk_at "x"
      refine ⟨szl (by rw [l1]; omega), ?_⟩
      walk_at "x"
      refine ⟨szl (by rw [PySem.Str.length_append, l1, l4]; omega), ?_⟩
      exact ⟨by walk_at "sz", fun D nD => fin 3 _ D _ (Ex.refl _) s2 nD (texts_eq (ys := [("if v < " : Str) ++ q5.text ++ (" go 2" : Str), "give rest", "take", "go 0"]) (by cases q5 <;> decide +kernel))⟩
    · walk_at "x"
      refine ⟨szl (by rw [l1]; omega), ?_⟩
      walk_at "x"
      refine ⟨szl (by rw [PySem.Str.length_append, l1, l5]; omega), ?_⟩
      exact ⟨by walk_at "sz", fun D nD => fin 4 _ D _ (Ex.refl _) s2 nD (texts_eq (ys := ["take", ("if v < " : Str) ++ q5.text ++ (" go 0" : Str), "if c < fit go 5", "less fit", "go 1", "give rest"]) (by cases q5 <;> decide +kernel))⟩
    · walk_at "x"
      refine ⟨szl (by rw [l1]; omega), ?_⟩
      walk_at "x"
      refine ⟨szl (by rw [PySem.Str.length_append, l1, l3]; omega), ?_⟩
      walk_at "x"
      refine ⟨szl (by rw [l2]; omega), ?_⟩
      walk_at "x"
      refine ⟨szl (by rw [PySem.Str.length_append, l2, l6]; omega), ?_⟩
      walk_at "x"
      refine ⟨szl (by rw [l7]; omega), ?_⟩
      refine ⟨by walk_at "sz", fun p5 n5 => ?_⟩
      walk_at "x"
      refine ⟨by walk_at "sz", fun p6 n6 => ?_⟩
      refine ⟨p5, p6, _, _, rfl, rfl, get_keep n6 upd_same, upd_same, by walk_at "sz", fun D nD => ?_⟩
      exact fin 5 _ D _ (((Ex.refl _).new n5).new n6) ((s2.keep n5).keep n6) nD (texts_eq (ys := [("if v < " : Str) ++ q5.text ++ (" go 4" : Str), ("if c < " : Str) ++ q5.text ++ (" go 6" : Str), ("less " : Str) ++ q5.text, "go 0", "take", "go 0", "give rest"]) (by cases q5 <;> decide +kernel))
    · walk_at "x"
      exact ⟨by walk_at "sz", fun D nD => fin 6 _ D _ (Ex.refl _) s2 nD (texts_eq (ys := ["go 4", "take", "give c", "less n", "if v < n go 6", "if c < n go 2", "if v < n go 1", "go 3"]) (by cases q5 <;> decide +kernel))⟩
    · walk_at "x"
      exact ⟨by walk_at "sz", fun D nD => fin 7 _ D _ (Ex.refl _) s2 nD (texts_eq (ys := ["if v < 2n go 2", "go 4", "take", "go 0", "if c < n go 6", "less n", "give c"]) (by cases q5 <;> decide +kernel))⟩
    · walk_at "x"
      exact ⟨by walk_at "sz", fun D nD => fin 8 _ D _ (Ex.refl _) s2 nD (texts_eq (ys := ["if v < n go 2", "give c", "take", "go 0"]) (by cases q5 <;> decide +kernel))⟩
end
end K48
namespace K48
open PySem PySem.Spec PyProof.Rows L2
local macro_rules | `(tactic| walk_at "hg") => `(tactic| first | assumption | exact upd_same | (apply get_keep; assumption; walk_at "hg") | (apply get_same; assumption; walk_at "hg") | (apply get_mut; assumption; walk_at "hg"))
local macro_rules | `(tactic| walk_at "sq") => `(tactic| first | assumption | (apply SqT.of; walk_at "hg") | (apply SqL.of; walk_at "hg") | (apply same_t; assumption; walk_at "sq") | (apply Same.seq; assumption; walk_at "sq"))
local macro_rules | `(tactic| walk_at "sc") => `(tactic| first | omega | decide | assumption | (unfold CMul; omega) | (unfold CDiv; omega) | (show (0 : Int) < _; omega) | (exact cdivw (by omega) (by omega)) | (exact cdivp (by omega) (by omega)))
local macro_rules | `(tactic| walk_at "x1") => `(tactic| first
  | with_reducible refine x_seq ?_
  | with_reducible refine x_var (by with_unfolding_all rfl) ?_
  | with_reducible refine x_c ?_
  | with_reducible refine x_op ?_
  | with_reducible refine x_rI0 ?_
  | with_reducible refine x_bl ?_
  | with_reducible refine x_rEq (by with_unfolding_all rfl) ?_
  | with_reducible refine x_rNe (by with_unfolding_all rfl) ?_
  | with_reducible refine x_asg ?_
  | with_reducible refine x_gname ?_
  | with_reducible refine x_gcons ?_
  | with_reducible refine x_gnil ?_
  | with_reducible refine x_ret ?_
  | with_reducible refine x_drop ?_
  | with_reducible refine x_next ?_
  | with_reducible refine x_cont ?_
  | with_reducible refine x_brk ?_
  | with_reducible refine x_ifS ?_
  | with_reducible refine x_ifE ?_
  | with_reducible refine x_cons ?_
  | with_reducible refine x_nil ?_
  | with_reducible refine x_test ?_
  | with_reducible refine x_tB ?_
  | with_reducible refine x_and ?_
  | with_reducible refine x_or ?_
  | with_reducible refine x_not ?_
  | with_reducible refine x_andV ?_
  | with_reducible refine x_orV ?_
  | with_reducible refine x_notV ?_
  | with_reducible refine x_chain ?_
  | with_reducible refine x_par ?_
  | with_reducible refine x_two ?_
  | with_reducible refine x_un ?_
  | with_reducible refine x_rU ?_
  | with_reducible refine x_cb ?_
  | with_reducible refine x_call ?_
  | with_reducible refine x_sl ?_
  | with_reducible refine x_nopart ?_
  | with_reducible refine x_part ?_
  | with_reducible refine x_int ?_
  | with_reducible refine x_tup ?_
  | with_reducible refine x_lst ?_
  | with_reducible refine x_bm ?_
  | with_reducible refine x_fld ?_
  | with_reducible refine x_chain3 ?_
  | with_reducible refine x_yes ?_
  | with_reducible refine x_lcT ?_
  | with_reducible refine x_lcL ?_
  | with_reducible refine x_for ?_
  | with_reducible refine x_iT ?_
  | with_reducible refine x_iL ?_
  | with_reducible refine x_rng1 ?_
  | with_reducible refine x_rng2 ?_
  | with_reducible refine x_dcT ?_
  | with_reducible refine x_din ?_
  | with_reducible refine x_dni ?_
  | with_reducible refine x_lcE ?_
  | with_reducible refine x_enS ?_
  | with_reducible refine x_m1 ?_
  | with_reducible refine x_gsub ?_
  | ((with_reducible apply x_setl); (focus (walk_at "hg"; done)); (focus (with_unfolding_all rfl; done)))
  | with_reducible refine x_int1 ?_
  | with_reducible refine x_str2 ?_
  | ((with_reducible apply x_rI); (focus (walk_at "sc"; done)))
  | with_reducible refine x_sw ?_
  | with_reducible refine x_ss ?_
  | ((with_reducible apply x_ixT); (focus (walk_at "sq"; done)); (focus (with_unfolding_all rfl; done)))
  | ((with_reducible apply x_ixL); (focus (walk_at "sq"; done)); (focus (with_unfolding_all rfl; done)))
  | ((with_reducible apply x_gtup); (focus (walk_at "sq"; done)); (focus (with_unfolding_all rfl; done)))
  | ((with_reducible apply x_glst); (focus (walk_at "sq"; done)); (focus (with_unfolding_all rfl; done)))
  | with_reducible refine x_F dn_int ?_
  | with_reducible refine x_F dn_ref ?_
  | with_reducible refine x_T dn_non ?_
  | with_reducible refine x_T (by decide +kernel) ?_
  | with_reducible refine x_F (by decide +kernel) ?_)
local macro_rules | `(tactic| walk_at "sz") => `(tactic| first | (exact Nat.le_of_ble_eq_true rfl) | decide | omega)
local macro_rules | `(tactic| walk_at "x") => `(tactic| ((walk_at "x1"); repeat (walk_at "x1")))
theorem cut_to {xs : List V} {i : Nat} (h : i ≤ xs.length) : cutV xs none (some (i : Int)) = xs.take i := by
  unfold cutV
  rw [HT.sIx_nat, HT.sIx_none, Nat.sub_zero, List.drop_zero, Nat.min_eq_left h]
theorem cut_from {xs : List V} {i : Nat} (h : i ≤ xs.length) : cutV xs (some (i : Int)) none = xs.drop i := by
  unfold cutV
  rw [HT.sIx_nat, HT.sIx_none, Nat.min_eq_left h, List.take_of_length_le (by rw [List.length_drop]; exact Nat.le_refl _)]
theorem cut_set {xs : List V} {i : Nat} {x : V} (h : i < xs.length) : xs.take i ++ [x] ++ xs.drop (i + 1) = xs.set i x := by
  rw [List.set_eq_take_append_cons_drop, if_pos h, List.append_assoc]
  rfl
section
variable {K : PySem.W.Frag} {σ : L2.St} {H : Hp} {Q : VK} {sp l : Addr} {xs : List V} {i vl va : Nat} {te : TE}
/-- xs[:i] + [e] + xs[i + 1:] -/
theorem splice_go (OK : V → Hp → Prop) (okm : ∀ x H H', Same H H' → OK x H → OK x H') (hl : σ[vl]? = some (some (.ref l))) (ha : σ[va]? = some (some (.int i))) (h : H l = some (.lst xs)) (nl : l ≠ sp) (hs : SprAt sp H) (hi : i < xs.length) (hz : xs.length ≤ 100000)
    (elt : ∀ (p1 : Addr) (QE : VK), H p1 = none → (∀ x H2, Ex sp (upd H p1 (.lst (xs.take i))) H2 → SprAt sp H2 → OK x H2 → QE x H2) → te σ (upd H p1 (.lst (xs.take i))) QE)
    (q : ∀ x p H', Ex sp H H' → SprAt sp H' → H p = none → H' p = some (.lst (xs.set i x)) → OK x H' → Q (.ref p) H') :
    tOp rCat (tOp rCat (tSl (rSlL K) (tVar vl) tNoPart (tPart (tVar va))) (tLst (tCons te tNil))) (tSl (rSlL K) (tVar vl) (tPart (tOp (rI0 fun i j => .int (i + j)) (tVar va) (tC (.int 1)))) tNoPart) σ H Q := by
  refine x_op (x_op (x_sl (x_var hl (x_nopart (x_part (x_var ha (x_int ?_)))))))
  refine ⟨l, xs, rfl, SqL.of h, fun p1 n1 => ?_⟩
  rw [cut_to (Nat.le_of_lt hi)]
  refine x_lst (x_cons (elt p1 _ n1 fun x H2 e2 s2 ok2 => x_nil ⟨szl (by show 1 ≤ 1000; decide), fun p2 n2 => ?_⟩))
  have e1 : Ex sp H (upd H p1 (.lst (xs.take i))) := (Ex.refl H).new n1
  have h1 : H2 p1 = some (.lst (xs.take i)) := e2 _ _ (hs.ne n1) upd_same
  refine ⟨p1, p2, xs.take i, [x], rfl, rfl, get_keep n2 h1, upd_same, ?_, fun p3 n3 => ?_⟩
  · rw [List.length_take, List.length_singleton]
    exact Nat.le_trans (Nat.add_le_add_right (Nat.le_trans (Nat.min_le_left _ _) (Nat.le_trans (Nat.le_of_lt hi) hz)) 1) (by decide)
  have e3 : Same H2 (upd (upd H2 p2 (.lst [x])) p3 (.lst (xs.take i ++ [x]))) := same_new (same_new (Same.refl _) n2) n3
  have hl3 := e3 _ _ (e2 _ _ nl (e1 _ _ nl h))
  refine x_sl (x_var hl (x_part (x_op (x_var ha (x_c (x_rI0 (x_int (x_nopart ?_))))))))
  refine ⟨l, xs, rfl, SqL.of hl3, fun p4 n4 => ?_⟩
  rw [show (i : Int) + 1 = ((i + 1 : Nat) : Int) by omega, cut_from hi]
  refine ⟨p3, p4, _, _, rfl, rfl, get_keep n4 upd_same, upd_same, ?_, fun p5 n5 => ?_⟩
  · rw [List.length_append, List.length_take, List.length_singleton, List.length_drop]
    refine Nat.le_trans ?_ (show 100000 + 1 ≤ sizeLine by decide)
    have := Nat.min_le_left i xs.length
    omega
  · have e5 : Same H2 (upd (upd (upd (upd H2 p2 (.lst [x])) p3 (.lst (xs.take i ++ [x]))) p4 (.lst (xs.drop (i + 1)))) p5 (.lst (xs.take i ++ [x] ++ xs.drop (i + 1)))) := same_new (same_new e3 n4) n5
    have s5 := s2.same e5
    have e : Ex sp H (upd (upd (upd (upd H2 p2 (.lst [x])) p3 (.lst (xs.take i ++ [x]))) p4 (.lst (xs.drop (i + 1)))) p5 (.lst (xs.take i ++ [x] ++ xs.drop (i + 1)))) := (e1.trans e2).trans (Ex.of e5)
    have n5' : H p5 = none := ((e1.trans e2).trans (Ex.of (same_new e3 n4))).free (s2.same (same_new e3 n4)) n5
    exact q x p5 _ e s5 n5' (by rw [cut_set hi]; exact upd_same) (okm _ _ _ e5 ok2)
end
theorem prg_set {rows : List Row} {i : Nat} {r : Row} (pr : Prg rows) (h1 : r.ok i rows.length = true) (h2 : i + 1 = rows.length → r.lasts = true) : Prg (rows.set i r) := by
  refine ⟨by rw [List.length_set]; exact pr.pos, by rw [List.length_set]; exact pr.most, fun j s hj => ?_⟩
  rw [List.length_set]
  rw [List.getElem?_set] at hj
  by_cases e : i = j
  · subst e
    rw [if_pos rfl] at hj
    split at hj
    · cases hj
      exact ⟨h1, h2⟩
    · cases hj
  · rw [if_neg e] at hj
    exact pr.ok j s hj
theorem texts_set {rows : List Row} {i : Nat} {r : Row} : (textsV rows).set i (.str r.text) = textsV (rows.set i r) := by
  unfold textsV
  rw [List.map_set]
section
variable {P : Program} {w : World} {K : PySem.W.Frag} {mg : Str → Option Value} {base : Heap}
theorem sc_law_rows : FnScope ["_law_spring_here", "_law_many", "_law_at", "_law_lines", "_law_k"] ["_law_spring_here"] (defScope s__law_rows) := ⟨rfl, rfl, rfl, by decide +kernel, rfl, by decide +kernel, by decide +kernel⟩
theorem ok__law_rows (T : Tx w K mg) (B : HasDef K mg "_law_rows" s__law_rows ["_law_spring_here"]) (D_law_draw : Def P w K mg base "_law_draw" 1 ["_law_spring_here", "_law_size_here"] spDraw) (D_law_of : Def P w K mg base "_law_of" 2 ["_law_spring_here", "_law_menu"] spOf)
    (D_law_row : Def P w K mg base "_law_row" 4 ["_law_spring_here", "_law_at", "_law_many"] spRow) (D_law_base : Def P w K mg base "_law_base" 3 ["_law_spring_here"] spRows) :
    Def P w K mg base "_law_rows" 5 ["_law_spring_here"] spRows := by
  refine Def.mk B sc_law_rows (fun vs H Q E h => ?_) (fun f cdv A outer s H vs Q E hr h => ?_)
  · obtain ⟨sp, rfl, _⟩ := h
    rfl
  · obtain ⟨sp, rfl, hs, q⟩ := h
    refine ⟨_, (pss_cons (ps_if (pt_cmpR op_eq (pe_d D_law_draw hr (pa_cons (pv 0) (pa_cons pe_int pa_nil))) pe_int (nomark _)) (pss_cons (ps_set (i := 1) sc_law_rows.nd rfl (Or.inr rfl) (pe_op op_add pe_int (pe_d D_law_draw hr (pa_cons (pv 0) (pa_cons pe_int pa_nil)))))
      (pss_one (ps_ret (pe_lc (own := [("_law_at", 2)]) (by rfl) sc_law_rows.nd (pi_range1 (by rfl) T.z_range (pa_cons (pv 1) pa_nil)) (blkOk_by (N := ["_law_spring_here", "_law_many", "_law_at", "_law_lines", "_law_k"]) (sc := defScope s__law_rows) (by decide +kernel)) (fun _ _ _ _ _ => (pg_name (i := 2) sc_law_rows.nd rfl (Or.inl rfl))) (fun _ _ _ _ _ => pts_nil) (fun _ _ _ _ _ => (pe_d D_law_row hr (pa_cons (pv 0) (pa_cons (pv 2) (pa_cons (pv 1) pa_nil))))))))) pss_nil)
      (pss_cons (ps_set (i := 3) sc_law_rows.nd rfl (Or.inl rfl) (pe_d D_law_base hr (pa_cons (pv 0) pa_nil)))
      (pss_cons (ps_for PassesOwn.never (by rfl) (pi_range1 (by rfl) T.z_range (pa_cons (pe_d D_law_of hr (pa_cons (pv 0) (pa_cons (pe_lst (pa_cons pe_int (pa_cons pe_int (pa_cons pe_int (pa_cons pe_int pa_nil))))) pa_nil))) pa_nil)) (pg_name (i := 4) sc_law_rows.nd rfl (Or.inl rfl))
      (pss_cons (ps_set (i := 2) sc_law_rows.nd rfl (Or.inl rfl) (pe_d D_law_draw hr (pa_cons (pv 0) (pa_cons (pe_callB call_len_seq (by rfl) T.z_len boot_len' (pa_cons (pv 3) pa_nil)) pa_nil))))
      (pss_one (ps_set (i := 3) sc_law_rows.nd rfl (Or.inl rfl) (pe_op op_cat (pe_op op_cat (pe_slice sl_list (pv 3) po_none (po_some (pv 2))) (pe_lst (pa_cons (pe_d D_law_row hr (pa_cons (pv 0) (pa_cons (pv 2) (pa_cons (pe_callB call_len_seq (by rfl) T.z_len boot_len' (pa_cons (pv 3) pa_nil)) pa_nil)))) pa_nil))) (pe_slice sl_list (pv 3) (po_some (pe_op op_add (pv 2) pe_int)) po_none))))))
      (pss_one (ps_ret (pv 3)))))), ?_⟩
    walk_at "x"
    refine ⟨sp, 7, rfl, hs, by decide, by decide, fun d H1 e1 s1 d0 d1 => ?_⟩
    walk_at "x"
    refine x_TF (fun g1 => ?_) (fun g1 => ?_)
    · walk_at "x"
      refine ⟨sp, 8, rfl, s1, by decide, by decide, fun d2 H2 e2 s2 d20 d21 => ?_⟩
      walk_at "x"
      obtain ⟨m, hm⟩ : ∃ m : Nat, 1 + d2 = (m : Int) := ⟨(1 + d2).toNat, by omega⟩
      rw [hm]
      have hm1 : 1 ≤ m ∧ m ≤ 8 := by omega
      refine x_lcR ?_
      walk_at "x"
      refine lcR_go (sp := sp) (fun i _ l => ∃ rows : List Row, l = textsV rows ∧ rows.length = i ∧ ∀ (j : Nat) (r : Row), rows[j]? = some r → r.ok j m = true ∧ (j + 1 = m → r.lasts = true)) (by omega) s2 ⟨[], rfl, rfl, fun j r h => by simp at h⟩ (fun _ _ _ _ _ h => h) (fun x => rfl) (fun i H' l hi e s' hli hG KT KF kT kF => ?_) (fun D H' l nD e s' hD hG => ?_)
      · obtain ⟨rows, rfl, hlen, hrows⟩ := hG
        walk_at "x"
        refine ⟨sp, i, m, rfl, s', hi, hm1.2, fun r H3 e3 s3 r1 r2 => ?_⟩
        refine kT _ _ e3 s3 ⟨rows ++ [r], by unfold textsV; rw [List.map_append]; rfl, by rw [List.length_append, hlen]; rfl, fun j t hj => ?_⟩
        rw [List.getElem?_append] at hj
        split at hj
        · exact hrows j t hj
        · have : j - rows.length = 0 := by
            cases e : j - rows.length with
            | zero => rfl
            | succ n => rw [e] at hj; cases hj
          rw [this] at hj
          cases hj
          have : j = i := by omega
          subst this
          exact ⟨r1, r2⟩
      · obtain ⟨rows, rfl, hlen, hrows⟩ := hG
        have e12 := e1.trans e2
        have e123 := e12.trans e
        exact q D rows H' e123 s' (e12.free s2 nD) hD ⟨by omega, by omega, fun j r hj => by rw [hlen]; exact hrows j r hj⟩
    · walk_at "x"
      refine ⟨sp, rfl, s1, fun p rows H2 e2 s2 np hp pr => ?_⟩
      walk_at "x"
      refine ⟨by walk_at "sz", fun p3 n3 => ?_⟩
      walk_at "x"
      refine ⟨sp, p3, _, rfl, s2.keep n3, upd_same, s2.ne n3, by simp, by simp, fun x H3 e3 s3 hx => ?_⟩
      obtain ⟨k, rfl, hk⟩ : ∃ k : Nat, x = .int (k : Int) ∧ k ≤ 2 := by
        simp only [List.mem_cons, List.not_mem_nil, or_false] at hx
        rcases hx with rfl | rfl | rfl | rfl
        · exact ⟨0, rfl, by decide⟩
        · exact ⟨1, rfl, by decide⟩
        · exact ⟨1, rfl, by decide⟩
        · exact ⟨2, rfl, by decide⟩
      walk_at "x"
      refine ⟨k, rfl, by omega, by omega, ?_⟩
      rw [Int.toNat_natCast]
      have e12 := e1.trans e2
      have e123 : Ex sp H H3 := (e12.new n3).trans e3
      have nsp : p ≠ sp := s1.ne np
      refine for_range (lo := 0) (n := k) (fun i σ H' => ∃ (p : Addr) (rows : List Row) (v1 v2 v4 : Option V), σ = [some (.ref sp), v1, v2, some (.ref p), v4] ∧ Ex sp H H' ∧ SprAt sp H' ∧ p ≠ sp ∧ H p = none ∧ H' p = some (.lst (textsV rows)) ∧ Prg rows)
        ⟨p, rows, none, none, none, rfl, e123, s3, nsp, e1.free s1 np, ((Ex.refl H2).new n3 |>.trans e3) _ _ nsp hp, pr⟩ (fun i σ H' hi hP => ?_) (fun σ H' hP => ?_)
      · obtain ⟨p, rows, v1, v2, v4, rfl, e, s', nsp, np, hp, pr⟩ := hP
        have hlr : (textsV rows).length = rows.length := List.length_map _
        walk_at "x"
        refine ⟨p, _, rfl, .inl (SqL.of hp), ?_⟩
        rw [hlr]
        have h1 := pr.pos
        have h8 := pr.most
        walk_at "x"
        refine ⟨sp, rows.length, rfl, s', by omega, by omega, fun d4 H4 e4 s4 d40 d41 => ?_⟩
        obtain ⟨a, rfl⟩ : ∃ a : Nat, d4 = (a : Int) := ⟨d4.toNat, by omega⟩
        have hp4 := e4 _ _ nsp hp
        with_reducible refine x_gname ?_
        with_reducible refine x_asg ?_
        refine splice_go (sp := sp) (i := a) (fun x _ => ∃ r : Row, x = .str r.text ∧ r.ok a rows.length = true ∧ (a + 1 = rows.length → r.lasts = true)) (fun _ _ _ _ h => h) (by with_unfolding_all rfl) (by with_unfolding_all rfl) hp4 nsp s4 (by omega) (by omega) (fun p1 QE n1 hQ => ?_) (fun x p5 H5 e5 s5 n5 h5 hx => ?_)
        · have hp5 : upd H4 p1 (.lst ((textsV rows).take a)) p = some (.lst (textsV rows)) := get_keep n1 hp4
          walk_at "x"
          refine ⟨p, _, rfl, .inl (SqL.of hp5), ?_⟩
          rw [hlr]
          refine ⟨sp, a, rows.length, rfl, s4.keep n1, by omega, h8, fun r H5 e5 s5 r1 r2 => ?_⟩
          exact hQ _ _ e5 s5 ⟨r, rfl, r1, r2⟩
        · obtain ⟨r, rfl, r1, r2⟩ := hx
          rw [texts_set] at h5
          have e45 := (e.trans e4).trans e5
          have e44 := e.trans e4
          walk_at "x"
          exact ⟨p5, rows.set a r, v1, _, _, rfl, e45, s5, s4.ne n5, e44.free s4 n5, h5, prg_set pr r1 r2⟩
      · obtain ⟨p, rows, v1, v2, v4, rfl, e, s', nsp, np, hp, pr⟩ := hP
        walk_at "x"
        exact q p rows H' e s' np hp pr
end
end K48
namespace K48
open PySem PySem.Spec PyProof.Rows L2
local macro_rules | `(tactic| walk_at "hg") => `(tactic| first | assumption | exact upd_same | (apply get_keep; assumption; walk_at "hg") | (apply get_same; assumption; walk_at "hg") | (apply get_mut; assumption; walk_at "hg"))
local macro_rules | `(tactic| walk_at "sq") => `(tactic| first | assumption | (apply SqT.of; walk_at "hg") | (apply SqL.of; walk_at "hg") | (apply same_t; assumption; walk_at "sq") | (apply Same.seq; assumption; walk_at "sq"))
local macro_rules | `(tactic| walk_at "sc") => `(tactic| first | omega | decide | assumption | (unfold CMul; omega) | (unfold CDiv; omega) | (show (0 : Int) < _; omega) | (exact cdivw (by omega) (by omega)) | (exact cdivp (by omega) (by omega)))
local macro_rules | `(tactic| walk_at "x1") => `(tactic| first
  | with_reducible refine x_seq ?_
  | with_reducible refine x_var (by with_unfolding_all rfl) ?_
  | with_reducible refine x_c ?_
  | with_reducible refine x_op ?_
  | with_reducible refine x_rI0 ?_
  | with_reducible refine x_bl ?_
  | with_reducible refine x_rEq (by with_unfolding_all rfl) ?_
  | with_reducible refine x_rNe (by with_unfolding_all rfl) ?_
  | with_reducible refine x_asg ?_
  | with_reducible refine x_gname ?_
  | with_reducible refine x_gcons ?_
  | with_reducible refine x_gnil ?_
  | with_reducible refine x_ret ?_
  | with_reducible refine x_drop ?_
  | with_reducible refine x_next ?_
  | with_reducible refine x_cont ?_
  | with_reducible refine x_brk ?_
  | with_reducible refine x_ifS ?_
  | with_reducible refine x_ifE ?_
  | with_reducible refine x_cons ?_
  | with_reducible refine x_nil ?_
  | with_reducible refine x_test ?_
  | with_reducible refine x_tB ?_
  | with_reducible refine x_and ?_
  | with_reducible refine x_or ?_
  | with_reducible refine x_not ?_
  | with_reducible refine x_andV ?_
  | with_reducible refine x_orV ?_
  | with_reducible refine x_notV ?_
  | with_reducible refine x_chain ?_
  | with_reducible refine x_par ?_
  | with_reducible refine x_two ?_
  | with_reducible refine x_un ?_
  | with_reducible refine x_rU ?_
  | with_reducible refine x_cb ?_
  | with_reducible refine x_call ?_
  | with_reducible refine x_sl ?_
  | with_reducible refine x_nopart ?_
  | with_reducible refine x_part ?_
  | with_reducible refine x_int ?_
  | with_reducible refine x_tup ?_
  | with_reducible refine x_lst ?_
  | with_reducible refine x_bm ?_
  | with_reducible refine x_fld ?_
  | with_reducible refine x_chain3 ?_
  | with_reducible refine x_yes ?_
  | with_reducible refine x_lcT ?_
  | with_reducible refine x_lcL ?_
  | with_reducible refine x_for ?_
  | with_reducible refine x_iT ?_
  | with_reducible refine x_iL ?_
  | with_reducible refine x_rng1 ?_
  | with_reducible refine x_rng2 ?_
  | with_reducible refine x_dcT ?_
  | with_reducible refine x_din ?_
  | with_reducible refine x_dni ?_
  | with_reducible refine x_lcE ?_
  | with_reducible refine x_enS ?_
  | with_reducible refine x_m1 ?_
  | with_reducible refine x_gsub ?_
  | ((with_reducible apply x_setl); (focus (walk_at "hg"; done)); (focus (with_unfolding_all rfl; done)))
  | with_reducible refine x_int1 ?_
  | with_reducible refine x_str2 ?_
  | ((with_reducible apply x_rI); (focus (walk_at "sc"; done)))
  | with_reducible refine x_sw ?_
  | with_reducible refine x_ss ?_
  | ((with_reducible apply x_ixT); (focus (walk_at "sq"; done)); (focus (with_unfolding_all rfl; done)))
  | ((with_reducible apply x_ixL); (focus (walk_at "sq"; done)); (focus (with_unfolding_all rfl; done)))
  | ((with_reducible apply x_gtup); (focus (walk_at "sq"; done)); (focus (with_unfolding_all rfl; done)))
  | ((with_reducible apply x_glst); (focus (walk_at "sq"; done)); (focus (with_unfolding_all rfl; done)))
  | with_reducible refine x_F dn_int ?_
  | with_reducible refine x_F dn_ref ?_
  | with_reducible refine x_T dn_non ?_
  | with_reducible refine x_T (by decide +kernel) ?_
  | with_reducible refine x_F (by decide +kernel) ?_)
local macro_rules | `(tactic| walk_at "sz") => `(tactic| first | (exact Nat.le_of_ble_eq_true rfl) | decide | omega)
local macro_rules | `(tactic| walk_at "x") => `(tactic| ((walk_at "x1"); repeat (walk_at "x1")))
section
variable {P : Program} {w : World} {K : PySem.W.Frag} {mg : Str → Option Value} {base : Heap}
theorem sc_law_looped_rows : FnScope ["_law_spring_here", "_law_lines", "_law_at"] ["_law_spring_here"] (defScope s__law_looped_rows) := ⟨rfl, rfl, rfl, by decide +kernel, rfl, by decide +kernel, by decide +kernel⟩
theorem ok__law_looped_rows (T : Tx w K mg) (B : HasDef K mg "_law_looped_rows" s__law_looped_rows ["_law_spring_here"]) (D_law_draw : Def P w K mg base "_law_draw" 1 ["_law_spring_here", "_law_size_here"] spDraw) (D_law_rows : Def P w K mg base "_law_rows" 5 ["_law_spring_here"] spRows) :
    Def P w K mg base "_law_looped_rows" 6 ["_law_spring_here"] spRows := by
  refine Def.mk B sc_law_looped_rows (fun vs H Q E h => ?_) (fun f cdv A outer s H vs Q E hr h => ?_)
  · obtain ⟨sp, rfl, _⟩ := h
    rfl
  · obtain ⟨sp, rfl, hs, q⟩ := h
    refine ⟨_, (pss_cons (ps_set (i := 1) sc_law_looped_rows.nd rfl (Or.inl rfl) (pe_d D_law_rows hr (pa_cons (pv 0) pa_nil)))
      (pss_cons (ps_for PassesOwn.never (by rfl) (pi_range1 (by rfl) T.z_range (pa_cons (pe_callB call_len_seq (by rfl) T.z_len boot_len' (pa_cons (pv 1) pa_nil)) pa_nil)) (pg_name (i := 2) sc_law_looped_rows.nd rfl (Or.inl rfl))
      (pss_one (ps_if (PW.pt (pw_and (pt_cmpR op_in_seq (pe_ix ix_list (pv 1) (pv 2) (fun _ _ => rfl)) (pe_lst (pa_cons pe_str (pa_cons pe_str (pa_cons pe_str pa_nil)))) (by rfl)) (pw_and1 (pt_cmpR op_gt (pe_d D_law_draw hr (pa_cons (pv 0) (pa_cons pe_int pa_nil))) pe_int (nomark _))))) (pss_one (ps_set (i := 1) sc_law_looped_rows.nd rfl (Or.inl rfl) (pe_op op_cat (pe_op op_cat (pe_slice sl_list (pv 1) po_none (po_some (pv 2))) (pe_lst (pa_cons (pe_op op_add_str pe_str (pe_callTy call_str_int (by rfl) T.z_str boot_str' (pa_cons (pe_d D_law_draw hr (pa_cons (pv 0) (pa_cons (pe_callB call_len_seq (by rfl) T.z_len boot_len' (pa_cons (pv 1) pa_nil)) pa_nil))) pa_nil))) pa_nil))) (pe_slice sl_list (pv 1) (po_some (pe_op op_add (pv 2) pe_int)) po_none)))) pss_nil)))
      (pss_one (ps_ret (pv 1))))), ?_⟩
    walk_at "x"
    refine ⟨sp, rfl, hs, fun p rows H1 e1 s1 np hp pr => ?_⟩
    have hlr : (textsV rows).length = rows.length := List.length_map _
    have h8 := pr.most
    walk_at "x"
    refine ⟨p, _, rfl, .inl (SqL.of hp), ?_⟩
    rw [hlr]
    walk_at "x"
    refine ⟨rows.length, rfl, by omega, by omega, ?_⟩
    rw [Int.toNat_natCast]
    refine for_range (lo := 0) (n := rows.length) (fun i σ H' => ∃ (p : Addr) (rs : List Row) (v2 : Option V), σ = [some (.ref sp), some (.ref p), v2] ∧ Ex sp H H' ∧ SprAt sp H' ∧ p ≠ sp ∧ H p = none ∧ H' p = some (.lst (textsV rs)) ∧ Prg rs ∧ rs.length = rows.length)
      ⟨p, rows, none, rfl, e1, s1, hs.ne np, np, hp, pr, rfl⟩ (fun i σ H' hi hP => ?_) (fun σ H' hP => ?_)
    · obtain ⟨p, rs, v2, rfl, e, s', nsp, np, hp, pr, hrl⟩ := hP
      have hlr : (textsV rs).length = rs.length := List.length_map _
      have h8 := pr.most
      have hi2 : i < rs.length := by omega
      rw [Int.zero_add]
      have hget : (textsV rs)[i]? = some (.str (rs[i]).text) := by
        unfold textsV
        rw [List.getElem?_map, List.getElem?_eq_getElem hi2]
        rfl
      walk_at "x"
      refine x_ixL (SqL.of hp) (atI_nat hget) ?_
      walk_at "x"
      refine ⟨by walk_at "sz", fun p2 n2 => ?_⟩
      refine x_inL (SqL.of upd_same) rfl rfl ?_
      have e2 : Ex sp H (upd H' p2 (.lst [.str "give c", .str "give rest", .str "again"])) := e.new n2
      have s2 : SprAt sp (upd H' p2 (.lst [.str "give c", .str "give rest", .str "again"])) := s'.keep n2
      have hp2 := get_keep (u := .lst [.str "give c", .str "give rest", .str "again"]) n2 hp
      generalize upd H' p2 (.lst [.str "give c", .str "give rest", .str "again"]) = H2 at e2 s2 hp2
      refine x_bl ?_
      refine x_TF (fun g1 => ?_) (fun g1 => ?_)
      · walk_at "x"
        refine ⟨sp, 3, rfl, s2, by decide, by decide, fun d3 H3 e3 s3 d30 d31 => ?_⟩
        have hp3 := e3 _ _ nsp hp2
        have e23 := e2.trans e3
        walk_at "x"
        refine x_TF (fun g2 => ?_) (fun g2 => ?_)
        · with_reducible refine x_asg ?_
          refine splice_go (sp := sp) (i := i) (fun x _ => ∃ r : Row, x = .str r.text ∧ r.ok i rs.length = true ∧ (i + 1 = rs.length → r.lasts = true)) (fun _ _ _ _ h => h) (by with_unfolding_all rfl) (by with_unfolding_all rfl) hp3 nsp s3 (by omega) (by omega) (fun p1 QE n1 hQ => ?_) (fun x p5 H5 e5 s5 n5 h5 hx => ?_)
          · have hp5 : upd H3 p1 (.lst ((textsV rs).take i)) p = some (.lst (textsV rs)) := get_keep n1 hp3
            walk_at "x"
            refine ⟨p, _, rfl, .inl (SqL.of hp5), ?_⟩
            rw [hlr]
            refine ⟨sp, rs.length, rfl, s3.keep n1, by omega, by omega, fun d4 H5 e5 s5 d40 d41 => ?_⟩
            obtain ⟨a, rfl⟩ : ∃ a : Nat, d4 = (a : Int) := ⟨d4.toNat, by omega⟩
            walk_at "x"
            refine ⟨a, rfl, Nat.lt_of_le_of_lt (Nat.log2_le_self _) (by omega), ?_⟩
            rw [show toString (a : Int) = dig ⟨a, by omega⟩ from dig_str ⟨a, by omega⟩]
            walk_at "x"
            refine ⟨szl (by rw [l_go, dlen]; decide), ?_⟩
            exact hQ _ _ e5 s5 ⟨.go ⟨a, by omega⟩, rfl, decide_eq_true (by show a < rs.length; omega), fun _ => rfl⟩
          · obtain ⟨r, rfl, r1, r2⟩ := hx
            rw [texts_set] at h5
            walk_at "x"
            exact ⟨p5, rs.set i r, _, rfl, e23.trans e5, s5, s3.ne n5, e23.free s3 n5, h5, prg_set pr r1 r2, by rw [List.length_set]; exact hrl⟩
        · walk_at "x"
          exact ⟨p, rs, _, rfl, e23, s3, nsp, np, hp3, pr, hrl⟩
      · walk_at "x"
        exact ⟨p, rs, _, rfl, e2, s2, nsp, np, hp2, pr, hrl⟩
    · obtain ⟨p, rs, v2, rfl, e, s', nsp, np, hp, pr, hrl⟩ := hP
      walk_at "x"
      exact q p rs H' e s' np hp pr
end
end K48
namespace K48
open PySem PySem.Spec PyProof.Rows L2
local macro_rules | `(tactic| walk_at "hg") => `(tactic| first | assumption | exact upd_same | (apply get_keep; assumption; walk_at "hg") | (apply get_same; assumption; walk_at "hg") | (apply get_mut; assumption; walk_at "hg"))
local macro_rules | `(tactic| walk_at "sq") => `(tactic| first | assumption | (apply SqT.of; walk_at "hg") | (apply SqL.of; walk_at "hg") | (apply same_t; assumption; walk_at "sq") | (apply Same.seq; assumption; walk_at "sq"))
local macro_rules | `(tactic| walk_at "sc") => `(tactic| first | omega | decide | assumption | (unfold CMul; omega) | (unfold CDiv; omega) | (show (0 : Int) < _; omega) | (exact cdivw (by omega) (by omega)) | (exact cdivp (by omega) (by omega)))
local macro_rules | `(tactic| walk_at "x1") => `(tactic| first
  | with_reducible refine x_seq ?_
  | with_reducible refine x_var (by with_unfolding_all rfl) ?_
  | with_reducible refine x_c ?_
  | with_reducible refine x_op ?_
  | with_reducible refine x_rI0 ?_
  | with_reducible refine x_bl ?_
  | with_reducible refine x_rEq (by with_unfolding_all rfl) ?_
  | with_reducible refine x_rNe (by with_unfolding_all rfl) ?_
  | with_reducible refine x_asg ?_
  | with_reducible refine x_gname ?_
  | with_reducible refine x_gcons ?_
  | with_reducible refine x_gnil ?_
  | with_reducible refine x_ret ?_
  | with_reducible refine x_drop ?_
  | with_reducible refine x_next ?_
  | with_reducible refine x_cont ?_
  | with_reducible refine x_brk ?_
  | with_reducible refine x_ifS ?_
  | with_reducible refine x_ifE ?_
  | with_reducible refine x_cons ?_
  | with_reducible refine x_nil ?_
  | with_reducible refine x_test ?_
  | with_reducible refine x_tB ?_
  | with_reducible refine x_and ?_
  | with_reducible refine x_or ?_
  | with_reducible refine x_not ?_
  | with_reducible refine x_andV ?_
  | with_reducible refine x_orV ?_
  | with_reducible refine x_notV ?_
  | with_reducible refine x_chain ?_
  | with_reducible refine x_par ?_
  | with_reducible refine x_two ?_
  | with_reducible refine x_un ?_
  | with_reducible refine x_rU ?_
  | with_reducible refine x_cb ?_
  | with_reducible refine x_call ?_
  | with_reducible refine x_sl ?_
  | with_reducible refine x_nopart ?_
  | with_reducible refine x_part ?_
  | with_reducible refine x_int ?_
  | with_reducible refine x_tup ?_
  | with_reducible refine x_lst ?_
  | with_reducible refine x_bm ?_
  | with_reducible refine x_fld ?_
  | with_reducible refine x_chain3 ?_
  | with_reducible refine x_yes ?_
  | with_reducible refine x_lcT ?_
  | with_reducible refine x_lcL ?_
  | with_reducible refine x_for ?_
  | with_reducible refine x_iT ?_
  | with_reducible refine x_iL ?_
  | with_reducible refine x_rng1 ?_
  | with_reducible refine x_rng2 ?_
  | with_reducible refine x_dcT ?_
  | with_reducible refine x_din ?_
  | with_reducible refine x_dni ?_
  | with_reducible refine x_lcE ?_
  | with_reducible refine x_enS ?_
  | with_reducible refine x_m1 ?_
  | with_reducible refine x_gsub ?_
  | ((with_reducible apply x_setl); (focus (walk_at "hg"; done)); (focus (with_unfolding_all rfl; done)))
  | with_reducible refine x_int1 ?_
  | with_reducible refine x_str2 ?_
  | ((with_reducible apply x_rI); (focus (walk_at "sc"; done)))
  | with_reducible refine x_sw ?_
  | with_reducible refine x_ss ?_
  | ((with_reducible apply x_ixT); (focus (walk_at "sq"; done)); (focus (with_unfolding_all rfl; done)))
  | ((with_reducible apply x_ixL); (focus (walk_at "sq"; done)); (focus (with_unfolding_all rfl; done)))
  | ((with_reducible apply x_gtup); (focus (walk_at "sq"; done)); (focus (with_unfolding_all rfl; done)))
  | ((with_reducible apply x_glst); (focus (walk_at "sq"; done)); (focus (with_unfolding_all rfl; done)))
  | with_reducible refine x_F dn_int ?_
  | with_reducible refine x_F dn_ref ?_
  | with_reducible refine x_T dn_non ?_
  | with_reducible refine x_T (by decide +kernel) ?_
  | with_reducible refine x_F (by decide +kernel) ?_)
local macro_rules | `(tactic| walk_at "sz") => `(tactic| first | (exact Nat.le_of_ble_eq_true rfl) | decide | omega)
local macro_rules | `(tactic| walk_at "x") => `(tactic| ((walk_at "x1"); repeat (walk_at "x1")))
/-! ### the law's own steps -/
theorem q_first (q : Q5) (h : q ≠ .fit) (h1 : q ≠ .n1) : ∃ c : Nat, q.text.cps.toList[0]? = some c ∧ PySem.intText? ⟨#[c]⟩ = some q.times := by
  cases q with
  | n1 => exact absurd rfl h1
  | fit => exact absurd rfl h
  | n2 => exact ⟨50, by decide +kernel, by decide +kernel⟩
  | n3 => exact ⟨51, by decide +kernel, by decide +kernel⟩
  | n4 => exact ⟨52, by decide +kernel, by decide +kernel⟩
section
variable {P : Program} {w : World} {K : PySem.W.Frag} {mg : Str → Option Value} {base : Heap}
def spSize : Sp := fun vs H Q _ => ∃ (q5 : Q5) (n z : Int), vs = [.str q5.text, .int n, .int z] ∧ (1 ≤ n ∧ n ≤ 10 ^ 30) ∧ (-(8 * n) ≤ z ∧ z ≤ 8 * n) ∧ Q (.int (amt q5.times n z)) H
theorem sc_law_size : FnScope ["_law_word", "_law_number_here", "_law_full"] ["_law_word", "_law_number_here", "_law_full"] (defScope s__law_size) := ⟨rfl, rfl, rfl, by decide +kernel, rfl, by decide +kernel, by decide +kernel⟩
theorem fdiv8 {n z : Int} (hn : 1 ≤ n) (h : -(8 * n) ≤ z ∧ z ≤ 8 * n) : -8 ≤ z / n ∧ z / n ≤ 8 := by
  constructor
  · exact Int.le_ediv_of_mul_le (by omega) (by omega)
  · exact Int.ediv_le_of_le_mul (by omega) (by omega)
theorem ok__law_size (T : Tx w K mg) (B : HasDef K mg "_law_size" s__law_size ["_law_word", "_law_number_here", "_law_full"]) : Def P w K mg base "_law_size" 1 ["_law_word", "_law_number_here", "_law_full"] spSize := by
  refine Def.mk B sc_law_size (fun vs H Q E h => ?_) (fun f cdv A outer s H vs Q E hr h => ?_)
  · obtain ⟨q5, n, z, rfl, _⟩ := h
    rfl
  · obtain ⟨q5, n, z, rfl, hn, hz, q⟩ := h
    refine ⟨_, (pss_cons (ps_if (pt_cmpR op_eq (pv 0) pe_str (nomark _)) (pss_one (ps_ret (pe_op op_mul (pv 1) (pe_callTy call_int1 (by rfl) T.z_int boot_int' (pa_cons (pe_op op_fdivW (pv 2) (pv 1)) pa_nil))))) pss_nil)
      (pss_one (ps_ret (pe_op op_mul (pv 1) (pe_ifExp (pt_cmpR op_eq (pv 0) pe_str (nomark _)) pe_int (pe_callTy call_int_str (by rfl) T.z_int boot_int' (pa_cons (pe_ix ix_str (pv 0) pe_int (fun _ _ => rfl)) pa_nil))))))), ?_⟩
    have h8 := fdiv8 hn.1 hz
    walk_at "x"
    rw [dV_str]
    have tm : ∀ t : Int, amt t n z = if t = 0 then n * (z / n) else n * t := fun t => by
      unfold amt
      split
      · rfl
      · exact Int.mul_comm t n
    rw [tm] at q
    cases q5 with
    | fit =>
      walk_at "x"
      exact q
    | n1 =>
      walk_at "x"
      exact q
    | n2 =>
      walk_at "x"
      refine ⟨_, 0, 50, rfl, rfl, by decide +kernel, by decide +kernel, ?_⟩
      walk_at "x"
      refine ⟨_, 2, rfl, by decide +kernel, by decide +kernel, ?_⟩
      refine x_rI (.inr (by decide)) ?_
      exact q
    | n3 =>
      walk_at "x"
      refine ⟨_, 0, 51, rfl, rfl, by decide +kernel, by decide +kernel, ?_⟩
      walk_at "x"
      refine ⟨_, 3, rfl, by decide +kernel, by decide +kernel, ?_⟩
      refine x_rI (.inr (by decide)) ?_
      exact q
    | n4 =>
      walk_at "x"
      refine ⟨_, 0, 52, rfl, rfl, by decide +kernel, by decide +kernel, ?_⟩
      walk_at "x"
      refine ⟨_, 4, rfl, by decide +kernel, by decide +kernel, ?_⟩
      refine x_rI (.inr (by decide)) ?_
      exact q
def spFar : Sp := fun vs H Q _ => ∃ n c z : Int, vs = [.int n, .int c, .int z] ∧ Q (.bl (isFar n c z)) H
theorem sc_law_is_far : FnScope ["_law_number_here", "_law_low", "_law_full"] ["_law_number_here", "_law_low", "_law_full"] (defScope s__law_is_far) := ⟨rfl, rfl, rfl, by decide +kernel, rfl, by decide +kernel, by decide +kernel⟩
theorem ok__law_is_far (T : Tx w K mg) (B : HasDef K mg "_law_is_far" s__law_is_far ["_law_number_here", "_law_low", "_law_full"]) : Def P w K mg base "_law_is_far" 1 ["_law_number_here", "_law_low", "_law_full"] spFar := by
  refine Def.mk B sc_law_is_far (fun vs H Q E h => ?_) (fun f cdv A outer s H vs Q E hr h => ?_)
  · obtain ⟨n, c, z, rfl, _⟩ := h
    rfl
  · obtain ⟨n, c, z, rfl, q⟩ := h
    refine ⟨_, (pss_one (ps_ret (pe_or (pe_cmpR op_lt (pv 1) (pe_op op_mul (pe_un un_neg pe_int) (pv 0)) (nomark _)) (pe_or (pe_cmpR op_gt (pv 1) (pe_op op_mul pe_int (pv 0)) (nomark _)) (pe_or (pe_cmpR op_lt (pv 2) (pe_op op_mul (pe_un un_neg pe_int) (pv 0)) (nomark _)) (pe_one (pe_cmpR op_gt (pv 2) (pe_op op_mul pe_int (pv 0)) (nomark _)))))))), ?_⟩
    walk_at "x"
    have q : Q (.bl (decide (c < -8 * n) || decide (c > 8 * n) || decide (z < -8 * n) || decide (z > 8 * n))) H := q
    refine x_TF (fun g1 => ?_) (fun g1 => ?_)
    · rw [g1, Bool.true_or, Bool.true_or, Bool.true_or] at q
      exact q
    · rw [g1, Bool.false_or] at q
      walk_at "x"
      refine x_TF (fun g2 => ?_) (fun g2 => ?_)
      · rw [show decide (c > 8 * n) = true from g2, Bool.true_or, Bool.true_or] at q
        exact q
      · rw [show decide (c > 8 * n) = false from g2, Bool.false_or] at q
        walk_at "x"
        refine x_TF (fun g3 => ?_) (fun g3 => ?_)
        · rw [g3, Bool.true_or] at q
          exact q
        · rw [g3, Bool.false_or] at q
          walk_at "x"
          exact q
def spWide : Sp := fun vs H Q _ => ∃ n a t, vs = [.int n, .ref a] ∧ H a = some (.tup (spV t)) ∧ Q (.bl (wide n t)) H
theorem sc_law_is_wide_spot : FnScope ["_law_number_here", "_law_spot"] ["_law_number_here", "_law_spot"] (defScope s__law_is_wide_spot) := ⟨rfl, rfl, rfl, by decide +kernel, rfl, by decide +kernel, by decide +kernel⟩
theorem ok__law_is_wide_spot (T : Tx w K mg) (B : HasDef K mg "_law_is_wide_spot" s__law_is_wide_spot ["_law_number_here", "_law_spot"]) (D_law_is_far : Def P w K mg base "_law_is_far" 1 ["_law_number_here", "_law_low", "_law_full"] spFar) : Def P w K mg base "_law_is_wide_spot" 2 ["_law_number_here", "_law_spot"] spWide := by
  refine Def.mk B sc_law_is_wide_spot (fun vs H Q E h => ?_) (fun f cdv A outer s H vs Q E hr h => ?_)
  · obtain ⟨n, a, t, rfl, _⟩ := h
    rfl
  · obtain ⟨n, a, t, rfl, ha, q⟩ := h
    have ha : H a = some (.tup [.int t.1, .int t.2.1, .int t.2.2.1, .int t.2.2.2]) := ha
    refine ⟨_, (pss_cons (ps_if (pt_val (pe_d D_law_is_far hr (pa_cons (pv 0) (pa_cons (pe_ix ix_tup (pv 1) pe_int (fun _ _ => rfl)) (pa_cons (pe_ix ix_tup (pv 1) pe_int (fun _ _ => rfl)) pa_nil))))) (pss_one (ps_ret pe_bl)) pss_nil)
      (pss_one (ps_ret (pe_d D_law_is_far hr (pa_cons (pv 0) (pa_cons (pe_op op_sub (pe_ix ix_tup (pv 1) pe_int (fun _ _ => rfl)) pe_int) (pa_cons (pe_ix ix_tup (pv 1) pe_int (fun _ _ => rfl)) pa_nil))))))), ?_⟩
    walk_at "x"
    refine ⟨n, t.2.1, t.2.2.2, rfl, ?_⟩
    walk_at "x"
    have q : Q (.bl (isFar n t.2.1 t.2.2.2 || isFar n (t.2.2.1 - 1) t.2.2.2)) H := q
    refine x_TF (fun g1 => ?_) (fun g1 => ?_)
    · rw [g1, Bool.true_or] at q
      walk_at "x"
      exact q
    · rw [g1, Bool.false_or] at q
      walk_at "x"
      exact ⟨n, t.2.2.1 - 1, t.2.2.2, rfl, q⟩
def spEnd : Sp := fun vs H Q _ => ∃ (r : Row) (n c z : Int), vs = [.str r.text, .int n, .int c, .int z] ∧ (1 ≤ n ∧ n ≤ 10 ^ 30) ∧ (r.ends = false → Q .non H) ∧ (r.ends = true → ∀ p H', Same H H' → Q (.ref p) H')
theorem sc_law_end : FnScope ["_law_line", "_law_number_here", "_law_low", "_law_full"] ["_law_line", "_law_number_here", "_law_low", "_law_full"] (defScope s__law_end) := ⟨rfl, rfl, rfl, by decide +kernel, rfl, by decide +kernel, by decide +kernel⟩
theorem text_ne (r : Row) : (decide (r.text = ("again" : Str)) || (decide (r.text = ("give c" : Str)) || decide (r.text = ("give rest" : Str)))) = r.ends := by
  cases r with
  | go r => exact (show ∀ r : Fin 8, (decide ((Row.go r).text = ("again" : Str)) || (decide ((Row.go r).text = ("give c" : Str)) || decide ((Row.go r).text = ("give rest" : Str)))) = false by decide +kernel) r
  | iff c q r => 
    cases c <;> cases q <;> revert r <;> decide +kernel
  | less s q => cases s <;> cases q <;> decide +kernel
  | _ => decide +kernel
theorem ok__law_end (T : Tx w K mg) (B : HasDef K mg "_law_end" s__law_end ["_law_line", "_law_number_here", "_law_low", "_law_full"]) : Def P w K mg base "_law_end" 1 ["_law_line", "_law_number_here", "_law_low", "_law_full"] spEnd := by
  refine Def.mk B sc_law_end (fun vs H Q E h => ?_) (fun f cdv A outer s H vs Q E hr h => ?_)
  · obtain ⟨r, n, c, z, rfl, _⟩ := h
    rfl
  · obtain ⟨r, n, c, z, rfl, hn, q0, q1⟩ := h
    refine ⟨_, (pss_cons (ps_if (pt_cmpR op_eq (pv 0) pe_str (nomark _)) (pss_one (ps_ret (pe_tup (pa_cons pe_str pa_nil)))) pss_nil)
      (pss_cons (ps_if (pt_cmpR op_eq (pv 0) pe_str (nomark _)) (pss_one (ps_ret (pe_tup (pa_cons pe_str (pa_cons (pv 2) (pa_cons pe_int (pa_cons pe_int pa_nil))))))) pss_nil)
      (pss_cons (ps_if (pt_cmpR op_eq (pv 0) pe_str (nomark _)) (pss_one (ps_ret (pe_tup (pa_cons pe_str (pa_cons (pe_op op_mod (pe_callTy call_int1 (by rfl) T.z_int boot_int' (pa_cons (pv 2) pa_nil)) (pv 1)) (pa_cons (pe_callTy call_int1 (by rfl) T.z_int boot_int' (pa_cons (pe_op op_fdivW (pv 2) (pv 1)) pa_nil)) (pa_cons (pe_callTy call_int1 (by rfl) T.z_int boot_int' (pa_cons (pe_op op_fdivW (pv 3) (pv 1)) pa_nil)) pa_nil))))))) pss_nil)
      (pss_one (ps_ret pe_non))))), ?_⟩
    have ht := text_ne r
    walk_at "x"
    rw [dV_str]
    refine x_TF (fun g1 => ?_) (fun g1 => ?_)
    · rw [g1, Bool.true_or] at ht
      walk_at "x"
      exact ⟨by walk_at "sz", fun p np => q1 ht.symm p _ (same_new (Same.refl _) np)⟩
    · rw [g1, Bool.false_or] at ht
      walk_at "x"
      rw [dV_str]
      refine x_TF (fun g2 => ?_) (fun g2 => ?_)
      · rw [g2, Bool.true_or] at ht
        walk_at "x"
        exact ⟨by walk_at "sz", fun p np => q1 ht.symm p _ (same_new (Same.refl _) np)⟩
      · rw [g2, Bool.false_or] at ht
        walk_at "x"
        rw [dV_str]
        refine x_TF (fun g3 => ?_) (fun g3 => ?_)
        · rw [g3] at ht
          walk_at "x"
          exact ⟨by walk_at "sz", fun p np => q1 ht.symm p _ (same_new (Same.refl _) np)⟩
        · rw [g3] at ht
          walk_at "x"
          exact q0 ht.symm
end
end K48
namespace K48
open PySem PySem.Spec PyProof.Rows L2
local macro_rules | `(tactic| walk_at "hg") => `(tactic| first | assumption | exact upd_same | (apply get_keep; assumption; walk_at "hg") | (apply get_same; assumption; walk_at "hg") | (apply get_mut; assumption; walk_at "hg"))
local macro_rules | `(tactic| walk_at "sq") => `(tactic| first | assumption | (apply SqT.of; walk_at "hg") | (apply SqL.of; walk_at "hg") | (apply same_t; assumption; walk_at "sq") | (apply Same.seq; assumption; walk_at "sq"))
local macro_rules | `(tactic| walk_at "sc") => `(tactic| first | omega | decide | assumption | (unfold CMul; omega) | (unfold CDiv; omega) | (show (0 : Int) < _; omega) | (exact cdivw (by omega) (by omega)) | (exact cdivp (by omega) (by omega)))
local macro_rules | `(tactic| walk_at "x1") => `(tactic| first
  | with_reducible refine x_seq ?_
  | with_reducible refine x_var (by with_unfolding_all rfl) ?_
  | with_reducible refine x_c ?_
  | with_reducible refine x_op ?_
  | with_reducible refine x_rI0 ?_
  | with_reducible refine x_bl ?_
  | with_reducible refine x_rEq (by with_unfolding_all rfl) ?_
  | with_reducible refine x_rNe (by with_unfolding_all rfl) ?_
  | with_reducible refine x_asg ?_
  | with_reducible refine x_gname ?_
  | with_reducible refine x_gcons ?_
  | with_reducible refine x_gnil ?_
  | with_reducible refine x_ret ?_
  | with_reducible refine x_drop ?_
  | with_reducible refine x_next ?_
  | with_reducible refine x_cont ?_
  | with_reducible refine x_brk ?_
  | with_reducible refine x_ifS ?_
  | with_reducible refine x_ifE ?_
  | with_reducible refine x_cons ?_
  | with_reducible refine x_nil ?_
  | with_reducible refine x_test ?_
  | with_reducible refine x_tB ?_
  | with_reducible refine x_and ?_
  | with_reducible refine x_or ?_
  | with_reducible refine x_not ?_
  | with_reducible refine x_andV ?_
  | with_reducible refine x_orV ?_
  | with_reducible refine x_notV ?_
  | with_reducible refine x_chain ?_
  | with_reducible refine x_par ?_
  | with_reducible refine x_two ?_
  | with_reducible refine x_un ?_
  | with_reducible refine x_rU ?_
  | with_reducible refine x_cb ?_
  | with_reducible refine x_call ?_
  | with_reducible refine x_sl ?_
  | with_reducible refine x_nopart ?_
  | with_reducible refine x_part ?_
  | with_reducible refine x_int ?_
  | with_reducible refine x_tup ?_
  | with_reducible refine x_lst ?_
  | with_reducible refine x_bm ?_
  | with_reducible refine x_fld ?_
  | with_reducible refine x_chain3 ?_
  | with_reducible refine x_yes ?_
  | with_reducible refine x_lcT ?_
  | with_reducible refine x_lcL ?_
  | with_reducible refine x_for ?_
  | with_reducible refine x_iT ?_
  | with_reducible refine x_iL ?_
  | with_reducible refine x_rng1 ?_
  | with_reducible refine x_rng2 ?_
  | with_reducible refine x_dcT ?_
  | with_reducible refine x_din ?_
  | with_reducible refine x_dni ?_
  | with_reducible refine x_lcE ?_
  | with_reducible refine x_enS ?_
  | with_reducible refine x_m1 ?_
  | with_reducible refine x_gsub ?_
  | ((with_reducible apply x_setl); (focus (walk_at "hg"; done)); (focus (with_unfolding_all rfl; done)))
  | with_reducible refine x_int1 ?_
  | with_reducible refine x_str2 ?_
  | ((with_reducible apply x_rI); (focus (walk_at "sc"; done)))
  | with_reducible refine x_sw ?_
  | with_reducible refine x_ss ?_
  | ((with_reducible apply x_ixT); (focus (walk_at "sq"; done)); (focus (with_unfolding_all rfl; done)))
  | ((with_reducible apply x_ixL); (focus (walk_at "sq"; done)); (focus (with_unfolding_all rfl; done)))
  | ((with_reducible apply x_gtup); (focus (walk_at "sq"; done)); (focus (with_unfolding_all rfl; done)))
  | ((with_reducible apply x_glst); (focus (walk_at "sq"; done)); (focus (with_unfolding_all rfl; done)))
  | with_reducible refine x_F dn_int ?_
  | with_reducible refine x_F dn_ref ?_
  | with_reducible refine x_T dn_non ?_
  | with_reducible refine x_T (by decide +kernel) ?_
  | with_reducible refine x_F (by decide +kernel) ?_)
local macro_rules | `(tactic| walk_at "sz") => `(tactic| first | (exact Nat.le_of_ble_eq_true rfl) | decide | omega)
local macro_rules | `(tactic| walk_at "x") => `(tactic| ((walk_at "x1"); repeat (walk_at "x1")))
theorem dint (r : Fin 8) : PySem.intText? (dig r) = some (r.val : Int) ∧ (dig r).length ≤ 640 := (show ∀ r : Fin 8, PySem.intText? (dig r) = some (r.val : Int) ∧ (dig r).length ≤ 640 by decide +kernel) r
theorem texts_get {rows : List Row} {i : Int} (h0 : 0 ≤ i) (h1 : i < rows.length) : atI (textsV rows) i = some (.str (rowAt rows i).text) := by
  have h := rowAt_get h0 h1
  refine at_of (j := i.toNat) (by omega) ?_
  unfold textsV
  rw [List.getElem?_map, h]
  rfl
section
variable {P : Program} {w : World} {K : PySem.W.Frag} {mg : Str → Option Value} {base : Heap}
def spGoes : Sp := fun vs H Q _ => ∃ (l : Addr) (rows : List Row) (i n c z : Int), vs = [.ref l, .int i, .int n, .int c, .int z] ∧ H l = some (.lst (textsV rows)) ∧ 0 ≤ i ∧ i < rows.length ∧ (rowAt rows i).moves = true ∧ (1 ≤ n ∧ n ≤ 10 ^ 30) ∧ (-(8 * n) ≤ z ∧ z ≤ 8 * n) ∧
  ∀ p H', Same H H' → H p = none → H' p = some (.lst [.int (goes (rowAt rows i) n i c z).1, .int (goes (rowAt rows i) n i c z).2.1, .int (goes (rowAt rows i) n i c z).2.2]) → Q (.ref p) H'
theorem sc_law_goes : FnScope ["_law_lines", "_law_row_at", "_law_number_here", "_law_low", "_law_full", "_law_words", "_law_held", "_law_size_here", "_law_lower"] ["_law_lines", "_law_row_at", "_law_number_here", "_law_low", "_law_full"] (defScope s__law_goes) := ⟨rfl, rfl, rfl, by decide +kernel, rfl, by decide +kernel, by decide +kernel⟩
theorem ok__law_goes (T : Tx w K mg) (B : HasDef K mg "_law_goes" s__law_goes ["_law_lines", "_law_row_at", "_law_number_here", "_law_low", "_law_full"]) (D_law_size : Def P w K mg base "_law_size" 1 ["_law_word", "_law_number_here", "_law_full"] spSize) :
    Def P w K mg base "_law_goes" 2 ["_law_lines", "_law_row_at", "_law_number_here", "_law_low", "_law_full"] spGoes := by
  refine Def.mk B sc_law_goes (fun vs H Q E h => ?_) (fun f cdv A outer s H vs Q E hr h => ?_)
  · obtain ⟨l, rows, i, n, c, z, rfl, _⟩ := h
    rfl
  · obtain ⟨l, rows, i, n, c, z, rfl, hl, h0, h1, hm, hn, hz, q⟩ := h
    refine ⟨_, (pss_cons (ps_set (i := 5) sc_law_goes.nd rfl (Or.inl rfl) (pe_split (pe_ix ix_list (pv 0) (pv 1) (fun _ _ => rfl)) pe_str))
      (pss_cons (ps_if (pt_cmpR op_eq (pe_ix ix_list (pv 5) pe_int (fun _ _ => rfl)) pe_str (nomark _)) (pss_one (ps_ret (pe_lst (pa_cons (pe_callTy call_int_str (by rfl) T.z_int boot_int' (pa_cons (pe_ix ix_list (pv 5) pe_int (fun _ _ => rfl)) pa_nil)) (pa_cons (pv 3) (pa_cons (pv 4) pa_nil)))))) pss_nil)
      (pss_cons (ps_if (pt_cmpR op_eq (pe_ix ix_list (pv 5) pe_int (fun _ _ => rfl)) pe_str (nomark _)) (pss_cons (ps_set (i := 6) sc_law_goes.nd rfl (Or.inl rfl) (pe_ifExp (pt_cmpR op_eq (pe_ix ix_list (pv 5) pe_int (fun _ _ => rfl)) pe_str (nomark _)) (pv 3) (pv 4)))
      (pss_one (ps_ret (pe_lst (pa_cons (pe_ifExp (pt_cmpR op_lt (pv 6) (pe_d D_law_size hr (pa_cons (pe_ix ix_list (pv 5) pe_int (fun _ _ => rfl)) (pa_cons (pv 2) (pa_cons (pv 4) pa_nil)))) (nomark _)) (pe_callTy call_int_str (by rfl) T.z_int boot_int' (pa_cons (pe_ix ix_list (pv 5) pe_int (fun _ _ => rfl)) pa_nil)) (pe_op op_add (pv 1) pe_int)) (pa_cons (pv 3) (pa_cons (pv 4) pa_nil))))))) pss_nil)
      (pss_cons (ps_set (i := 7) sc_law_goes.nd rfl (Or.inl rfl) (pe_d D_law_size hr (pa_cons (pe_ix ix_list (pv 5) (pe_un un_neg pe_int) (fun _ _ => rfl)) (pa_cons (pv 2) (pa_cons (pv 4) pa_nil)))))
      (pss_cons (ps_set (i := 8) sc_law_goes.nd rfl (Or.inl rfl) (pe_ifExp (pt_cmpR op_eq (pe_ix ix_list (pv 5) pe_int (fun _ _ => rfl)) pe_str (nomark _)) (pv 3) (pe_op op_sub (pv 3) (pv 7))))
      (pss_one (ps_ret (pe_lst (pa_cons (pe_op op_add (pv 1) pe_int) (pa_cons (pv 8) (pa_cons (pe_ifExp (pt_cmpR op_eq (pe_ix ix_list (pv 5) pe_int (fun _ _ => rfl)) pe_str (nomark _)) (pv 4) (pe_op op_sub (pv 4) (pv 7))) pa_nil))))))))))), ?_⟩
    have hget := texts_get h0 h1
    generalize rowAt rows i = r at hm hget q
    obtain ⟨t1, t2⟩ := split_row r
    walk_at "x"
    refine x_ixL (SqL.of hl) hget ?_
    walk_at "x"
    refine ⟨r.text, " ", rfl, rfl, by decide +kernel, Nat.le_trans (Nat.add_le_add_right t2 2) (by decide), fun wl nl => ?_⟩
    rw [t1]
    have e1 := same_new (u := .lst (r.words.map V.str)) (Same.refl H) nl
    have hw : upd H wl (.lst (r.words.map V.str)) wl = some (.lst (r.words.map V.str)) := upd_same
    generalize upd H wl (.lst (r.words.map V.str)) = H1 at e1 hw
    cases r with
    | take => cases hm
    | again => cases hm
    | giveC => cases hm
    | giveR => cases hm
    | go r =>
      have hw : H1 wl = some (.lst [.str "go", .str (dig r)]) := hw
      walk_at "x"
      refine ⟨dig r, r.val, rfl, (dint r).1, (dint r).2, ?_⟩
      walk_at "x"
      exact ⟨by walk_at "sz", fun p np => q p _ (same_new e1 np) (e1.free np) upd_same⟩
    | iff b q5 r =>
      have hw : H1 wl = some (.lst [.str "if", .str (cvS b), .str "<", .str q5.text, .str "go", .str (dig r)]) := hw
      have q : ∀ p H', Same H H' → H p = none → H' p = some (.lst [.int (if (if b then c else z) < amt q5.times n z then (r.val : Int) else i + 1), .int c, .int z]) → Q (.ref p) H' := q
      walk_at "x"
      rw [dV_str]
      cases b with
      | true =>
        have q : ∀ p H', Same H H' → H p = none → H' p = some (.lst [.int (if c < amt q5.times n z then (r.val : Int) else i + 1), .int c, .int z]) → Q (.ref p) H' := q
        walk_at "x"
        refine ⟨q5, n, z, rfl, hn, hz, ?_⟩
        walk_at "x"
        refine x_TF (fun g1 => ?_) (fun g1 => ?_)
        · rw [if_pos (of_decide_eq_true g1)] at q
          walk_at "x"
          refine ⟨dig r, r.val, rfl, (dint r).1, (dint r).2, ?_⟩
          walk_at "x"
          exact ⟨by walk_at "sz", fun p np => q p _ (same_new e1 np) (e1.free np) upd_same⟩
        · rw [if_neg (of_decide_eq_false g1)] at q
          walk_at "x"
          exact ⟨by walk_at "sz", fun p np => q p _ (same_new e1 np) (e1.free np) upd_same⟩
      | false =>
        have q : ∀ p H', Same H H' → H p = none → H' p = some (.lst [.int (if z < amt q5.times n z then (r.val : Int) else i + 1), .int c, .int z]) → Q (.ref p) H' := q
        walk_at "x"
        refine ⟨q5, n, z, rfl, hn, hz, ?_⟩
        walk_at "x"
        refine x_TF (fun g1 => ?_) (fun g1 => ?_)
        · rw [if_pos (of_decide_eq_true g1)] at q
          walk_at "x"
          refine ⟨dig r, r.val, rfl, (dint r).1, (dint r).2, ?_⟩
          walk_at "x"
          exact ⟨by walk_at "sz", fun p np => q p _ (same_new e1 np) (e1.free np) upd_same⟩
        · rw [if_neg (of_decide_eq_false g1)] at q
          walk_at "x"
          exact ⟨by walk_at "sz", fun p np => q p _ (same_new e1 np) (e1.free np) upd_same⟩
    | less sb q5 =>
      cases sb with
      | cv =>
        have hw : H1 wl = some (.lst [.str "less", .str q5.text]) := hw
        walk_at "x"
        refine ⟨q5, n, z, rfl, hn, hz, ?_⟩
        walk_at "x"
        exact ⟨by walk_at "sz", fun p np => q p _ (same_new e1 np) (e1.free np) upd_same⟩
      | c =>
        have hw : H1 wl = some (.lst [.str "c", .str "less", .str q5.text]) := hw
        walk_at "x"
        refine ⟨q5, n, z, rfl, hn, hz, ?_⟩
        walk_at "x"
        exact ⟨by walk_at "sz", fun p np => q p _ (same_new e1 np) (e1.free np) upd_same⟩
      | v =>
        have hw : H1 wl = some (.lst [.str "v", .str "less", .str q5.text]) := hw
        walk_at "x"
        refine ⟨q5, n, z, rfl, hn, hz, ?_⟩
        walk_at "x"
        exact ⟨by walk_at "sz", fun p np => q p _ (same_new e1 np) (e1.free np) upd_same⟩
end
end K48
namespace K48
open PySem PySem.Spec PyProof.Rows L2
local macro_rules | `(tactic| walk_at "hg") => `(tactic| first | assumption | exact upd_same | (apply get_keep; assumption; walk_at "hg") | (apply get_same; assumption; walk_at "hg") | (apply get_mut; assumption; walk_at "hg"))
local macro_rules | `(tactic| walk_at "sq") => `(tactic| first | assumption | (apply SqT.of; walk_at "hg") | (apply SqL.of; walk_at "hg") | (apply same_t; assumption; walk_at "sq") | (apply Same.seq; assumption; walk_at "sq"))
local macro_rules | `(tactic| walk_at "sc") => `(tactic| first | omega | decide | assumption | (unfold CMul; omega) | (unfold CDiv; omega) | (show (0 : Int) < _; omega) | (exact cdivw (by omega) (by omega)) | (exact cdivp (by omega) (by omega)))
local macro_rules | `(tactic| walk_at "x1") => `(tactic| first
  | with_reducible refine x_seq ?_
  | with_reducible refine x_var (by with_unfolding_all rfl) ?_
  | with_reducible refine x_c ?_
  | with_reducible refine x_op ?_
  | with_reducible refine x_rI0 ?_
  | with_reducible refine x_bl ?_
  | with_reducible refine x_rEq (by with_unfolding_all rfl) ?_
  | with_reducible refine x_rNe (by with_unfolding_all rfl) ?_
  | with_reducible refine x_asg ?_
  | with_reducible refine x_gname ?_
  | with_reducible refine x_gcons ?_
  | with_reducible refine x_gnil ?_
  | with_reducible refine x_ret ?_
  | with_reducible refine x_drop ?_
  | with_reducible refine x_next ?_
  | with_reducible refine x_cont ?_
  | with_reducible refine x_brk ?_
  | with_reducible refine x_ifS ?_
  | with_reducible refine x_ifE ?_
  | with_reducible refine x_cons ?_
  | with_reducible refine x_nil ?_
  | with_reducible refine x_test ?_
  | with_reducible refine x_tB ?_
  | with_reducible refine x_and ?_
  | with_reducible refine x_or ?_
  | with_reducible refine x_not ?_
  | with_reducible refine x_andV ?_
  | with_reducible refine x_orV ?_
  | with_reducible refine x_notV ?_
  | with_reducible refine x_chain ?_
  | with_reducible refine x_par ?_
  | with_reducible refine x_two ?_
  | with_reducible refine x_un ?_
  | with_reducible refine x_rU ?_
  | with_reducible refine x_cb ?_
  | with_reducible refine x_call ?_
  | with_reducible refine x_sl ?_
  | with_reducible refine x_nopart ?_
  | with_reducible refine x_part ?_
  | with_reducible refine x_int ?_
  | with_reducible refine x_tup ?_
  | with_reducible refine x_lst ?_
  | with_reducible refine x_bm ?_
  | with_reducible refine x_fld ?_
  | with_reducible refine x_chain3 ?_
  | with_reducible refine x_yes ?_
  | with_reducible refine x_lcT ?_
  | with_reducible refine x_lcL ?_
  | with_reducible refine x_for ?_
  | with_reducible refine x_iT ?_
  | with_reducible refine x_iL ?_
  | with_reducible refine x_rng1 ?_
  | with_reducible refine x_rng2 ?_
  | with_reducible refine x_dcT ?_
  | with_reducible refine x_din ?_
  | with_reducible refine x_dni ?_
  | with_reducible refine x_lcE ?_
  | with_reducible refine x_enS ?_
  | with_reducible refine x_m1 ?_
  | with_reducible refine x_gsub ?_
  | ((with_reducible apply x_setl); (focus (walk_at "hg"; done)); (focus (with_unfolding_all rfl; done)))
  | with_reducible refine x_int1 ?_
  | with_reducible refine x_str2 ?_
  | ((with_reducible apply x_rI); (focus (walk_at "sc"; done)))
  | with_reducible refine x_sw ?_
  | with_reducible refine x_ss ?_
  | ((with_reducible apply x_ixT); (focus (walk_at "sq"; done)); (focus (with_unfolding_all rfl; done)))
  | ((with_reducible apply x_ixL); (focus (walk_at "sq"; done)); (focus (with_unfolding_all rfl; done)))
  | ((with_reducible apply x_gtup); (focus (walk_at "sq"; done)); (focus (with_unfolding_all rfl; done)))
  | ((with_reducible apply x_glst); (focus (walk_at "sq"; done)); (focus (with_unfolding_all rfl; done)))
  | with_reducible refine x_F dn_int ?_
  | with_reducible refine x_F dn_ref ?_
  | with_reducible refine x_T dn_non ?_
  | with_reducible refine x_T (by decide +kernel) ?_
  | with_reducible refine x_F (by decide +kernel) ?_)
local macro_rules | `(tactic| walk_at "sz") => `(tactic| first | (exact Nat.le_of_ble_eq_true rfl) | decide | omega)
local macro_rules | `(tactic| walk_at "x") => `(tactic| ((walk_at "x1"); repeat (walk_at "x1")))
section
variable {P : Program} {w : World} {K : PySem.W.Frag} {mg : Str → Option Value} {base : Heap}
def spNext : Sp := fun vs H Q _ => ∃ (l a : Addr) (rows : List Row) (n : Int) (t : Spot), vs = [.ref l, .int n, .ref a] ∧ H l = some (.lst (textsV rows)) ∧ H a = some (.tup (spV t)) ∧ 0 ≤ t.1 ∧ t.1 < rows.length ∧ (1 ≤ n ∧ n ≤ 10 ^ 30) ∧ (-(8 * n) ≤ t.2.2.2 ∧ t.2.2.2 ≤ 8 * n) ∧
  ∀ p H' xs, Same H H' → H p = none → H' p = some (.lst xs) → SpotsAt H' xs (next (rowAt rows t.1) n t) → Q (.ref p) H'
theorem sc_law_next : FnScope ["_law_lines", "_law_number_here", "_law_spot", "_law_at", "_law_low", "_law_high", "_law_full", "_law_words", "_law_cut", "_law_some", "_law_goal", "_law_first", "_law_later"] ["_law_lines", "_law_number_here", "_law_spot"] (defScope s__law_next) := ⟨rfl, rfl, rfl, by decide +kernel, rfl, by decide +kernel, by decide +kernel⟩
theorem ok__law_next (T : Tx w K mg) (B : HasDef K mg "_law_next" s__law_next ["_law_lines", "_law_number_here", "_law_spot"]) (D_law_size : Def P w K mg base "_law_size" 1 ["_law_word", "_law_number_here", "_law_full"] spSize)
    (D_law_goes : Def P w K mg base "_law_goes" 2 ["_law_lines", "_law_row_at", "_law_number_here", "_law_low", "_law_full"] spGoes) : Def P w K mg base "_law_next" 3 ["_law_lines", "_law_number_here", "_law_spot"] spNext := by
  refine Def.mk B sc_law_next (fun vs H Q E h => ?_) (fun f cdv A outer s H vs Q E hr h => ?_)
  · obtain ⟨l, a, rows, n, t, rfl, _⟩ := h
    rfl
  · obtain ⟨l, a, rows, n, ⟨i, x, y, z⟩, rfl, hl, ha, h0, h1, hn, hz, q⟩ := h
    have ha : H a = some (.tup [.int i, .int x, .int y, .int z]) := ha
    have hz : -(8 * n) ≤ z ∧ z ≤ 8 * n := hz
    have h0 : 0 ≤ i := h0
    have h1 : i < rows.length := h1
    have q : ∀ p H' xs, Same H H' → H p = none → H' p = some (.lst xs) → SpotsAt H' xs (next (rowAt rows i) n (i, x, y, z)) → Q (.ref p) H' := q
    refine ⟨_, (pss_cons (ps_asg (pv 2) (pg_tup rfl (pgs_cons (pg_name (i := 3) sc_law_next.nd rfl (Or.inl rfl)) (pgs_cons (pg_name (i := 4) sc_law_next.nd rfl (Or.inl rfl)) (pgs_cons (pg_name (i := 5) sc_law_next.nd rfl (Or.inl rfl)) (pgs_cons (pg_name (i := 6) sc_law_next.nd rfl (Or.inl rfl)) pgs_nil))))))
      (pss_cons (ps_set (i := 7) sc_law_next.nd rfl (Or.inl rfl) (pe_split (pe_ix ix_list (pv 0) (pv 3) (fun _ _ => rfl)) pe_str))
      (pss_cons (ps_if (pt_cmpR op_in_seq (pe_ix ix_list (pv 7) pe_int (fun _ _ => rfl)) (pe_lst (pa_cons pe_str (pa_cons pe_str pa_nil))) (by rfl)) (pss_one (ps_ret (pe_lst pa_nil))) pss_nil)
      (pss_cons (ps_if (pt_cmpR op_eq (pe_ix ix_list (pv 7) pe_int (fun _ _ => rfl)) pe_str (nomark _)) (pss_one (ps_ret (pe_lst (pa_cons (pe_tup (pa_cons (pe_op op_add (pv 3) pe_int) (pa_cons (pe_op op_mul pe_int (pv 4)) (pa_cons (pe_op op_mul pe_int (pv 5)) (pa_cons (pe_op op_mul pe_int (pv 6)) pa_nil))))) pa_nil)))) pss_nil)
      (pss_cons (ps_if (PW.pt (pw_and (pt_cmpR op_eq (pe_ix ix_list (pv 7) pe_int (fun _ _ => rfl)) pe_str (nomark _)) (pw_and1 (pt_cmpR op_eq (pe_ix ix_list (pv 7) pe_int (fun _ _ => rfl)) pe_str (nomark _))))) (pss_cons (ps_par (i := 8) (j := 9) (by rfl) sc_law_next.nd rfl rfl (by decide) rfl rfl (pa_cons (pe_d D_law_size hr (pa_cons (pe_ix ix_list (pv 7) pe_int (fun _ _ => rfl)) (pa_cons (pv 1) (pa_cons (pv 6) pa_nil)))) (pa_cons (pe_lst pa_nil) pa_nil)) (by rfl))
      (pss_cons (ps_if (pt_cmpR op_lt (pv 4) (pv 8) (nomark _)) (pss_one (ps_expr (pe_bm PySem.F.plainAttrs_list PySem.F.slot_list_append PySem.F.type_list_append mt_append (pv 9) (pa_cons (pe_tup (pa_cons (pe_callTy call_int_str (by rfl) T.z_int boot_int' (pa_cons (pe_ix ix_list (pv 7) pe_int (fun _ _ => rfl)) pa_nil)) (pa_cons (pv 4) (pa_cons (pe_ifExp (pt_cmpR op_lt (pv 5) (pv 8) (nomark _)) (pv 5) (pv 8)) (pa_cons (pv 6) pa_nil))))) pa_nil)))) pss_nil)
      (pss_cons (ps_if (pt_cmpR op_lt (pv 8) (pv 5) (nomark _)) (pss_one (ps_expr (pe_bm PySem.F.plainAttrs_list PySem.F.slot_list_append PySem.F.type_list_append mt_append (pv 9) (pa_cons (pe_tup (pa_cons (pe_op op_add (pv 3) pe_int) (pa_cons (pe_ifExp (pt_cmpR op_lt (pv 8) (pv 4) (nomark _)) (pv 4) (pv 8)) (pa_cons (pv 5) (pa_cons (pv 6) pa_nil))))) pa_nil)))) pss_nil)
      (pss_one (ps_ret (pv 9)))))) pss_nil)
      (pss_cons (ps_asg (pe_d D_law_goes hr (pa_cons (pv 0) (pa_cons (pv 3) (pa_cons (pv 1) (pa_cons (pv 4) (pa_cons (pv 6) pa_nil)))))) (pg_lst rfl (pgs_cons (pg_name (i := 10) sc_law_next.nd rfl (Or.inl rfl)) (pgs_cons (pg_name (i := 11) sc_law_next.nd rfl (Or.inl rfl)) (pgs_cons (pg_name (i := 12) sc_law_next.nd rfl (Or.inl rfl)) pgs_nil)))))
      (pss_one (ps_ret (pe_lst (pa_cons (pe_tup (pa_cons (pv 10) (pa_cons (pv 11) (pa_cons (pe_op op_sub (pe_op op_add (pv 11) (pv 5)) (pv 4)) (pa_cons (pv 12) pa_nil))))) pa_nil)))))))))), ?_⟩
    have hget := texts_get h0 h1
    generalize hr0 : rowAt rows i = r at hget q
    obtain ⟨t1, t2⟩ := split_row r
    walk_at "x"
    refine x_ixL (SqL.of hl) hget ?_
    walk_at "x"
    refine ⟨r.text, " ", rfl, rfl, by decide +kernel, Nat.le_trans (Nat.add_le_add_right t2 2) (by decide), fun wl nl => ?_⟩
    rw [t1]
    have e1 := same_new (u := .lst (r.words.map V.str)) (Same.refl H) nl
    have hw : upd H wl (.lst (r.words.map V.str)) wl = some (.lst (r.words.map V.str)) := upd_same
    generalize upd H wl (.lst (r.words.map V.str)) = H1 at e1 hw
    have empty : ∀ (H0 : Hp) (p : Addr), Same H H0 → H0 p = none → next r n (i, x, y, z) = [] → Q (.ref p) (upd H0 p (.lst [])) := fun H0 p e0 np e =>
      q p _ [] (same_new e0 np) (e0.free np) upd_same (by rw [e]; exact .nil)
    have one : ∀ (H0 : Hp) (p1 p2 : Addr) (s : Spot), Same H H0 → H0 p1 = none → upd H0 p1 (.tup (spV s)) p2 = none → next r n (i, x, y, z) = [s] → Q (.ref p2) (upd (upd H0 p1 (.tup (spV s))) p2 (.lst [.ref p1])) := fun H0 p1 p2 s e0 n1 n2 e => by
      refine q p2 _ [.ref p1] (same_new (same_new e0 n1) n2) ((same_new e0 n1).free n2) upd_same ?_
      rw [e]
      exact .cons ⟨p1, rfl, get_keep n2 upd_same⟩ .nil
    -- behind goes
    have gone : r.moves = true → (∀ g : Int × Int × Int, g = goes r n i x z → next r n (i, x, y, z) = [(g.1, g.2.1, g.2.1 + y - x, g.2.2)]) → True := fun _ _ => trivial
    cases r with
    | take =>
      have hw : H1 wl = some (.lst [.str "take"]) := hw
      walk_at "x"
      refine ⟨by walk_at "sz", fun p1 n1 => ?_⟩
      refine x_inL (SqL.of upd_same) rfl rfl ?_
      walk_at "x"
      refine ⟨by walk_at "sz", fun p2 n2 => ?_⟩
      walk_at "x"
      refine ⟨by walk_at "sz", fun p3 n3 => ?_⟩
      exact one _ p2 p3 (i + 1, 2 * x, 2 * y, 2 * z) (same_new e1 n1) n2 n3 rfl
    | again =>
      have hw : H1 wl = some (.lst [.str "again"]) := hw
      walk_at "x"
      refine ⟨by walk_at "sz", fun p1 n1 => ?_⟩
      refine x_inL (SqL.of upd_same) rfl rfl ?_
      walk_at "x"
      exact ⟨by walk_at "sz", fun p2 n2 => empty _ p2 (same_new e1 n1) n2 rfl⟩
    | giveC =>
      have hw : H1 wl = some (.lst [.str "give", .str "c"]) := hw
      walk_at "x"
      refine ⟨by walk_at "sz", fun p1 n1 => ?_⟩
      refine x_inL (SqL.of upd_same) rfl rfl ?_
      walk_at "x"
      exact ⟨by walk_at "sz", fun p2 n2 => empty _ p2 (same_new e1 n1) n2 rfl⟩
    | giveR =>
      have hw : H1 wl = some (.lst [.str "give", .str "rest"]) := hw
      walk_at "x"
      refine ⟨by walk_at "sz", fun p1 n1 => ?_⟩
      refine x_inL (SqL.of upd_same) rfl rfl ?_
      walk_at "x"
      exact ⟨by walk_at "sz", fun p2 n2 => empty _ p2 (same_new e1 n1) n2 rfl⟩
    | go r =>
      have hw : H1 wl = some (.lst [.str "go", .str (dig r)]) := hw
      walk_at "x"
      refine ⟨by walk_at "sz", fun p1 n1 => ?_⟩
      refine x_inL (SqL.of upd_same) rfl rfl ?_
      have e2 := same_new (u := .lst [.str "give", .str "again"]) e1 n1
      walk_at "x"
      refine ⟨l, rows, i, n, x, z, rfl, e2 _ _ hl, h0, h1, by rw [hr0]; rfl, hn, hz, fun p0 H0 e0 n0 hp0 => ?_⟩
      rw [hr0] at hp0
      walk_at "x"
      refine ⟨by walk_at "sz", fun p2 n2 => ?_⟩
      walk_at "x"
      refine ⟨by walk_at "sz", fun p3 n3 => ?_⟩
      exact one H0 p2 p3 ((r.val : Int), x, x + y - x, z) (e2.trans e0) n2 n3 rfl
    | less t u =>
      have hw : (∃ t0 rest, H1 wl = some (.lst (.str t0 :: rest)) ∧ inV (.str t0) [.str "give", .str "again"] = false ∧ decide (t0 = ("take" : Str)) = false ∧ decide (t0 = ("if" : Str)) = false) := by
        cases t
        · exact ⟨"less", [.str u.text], hw, by decide +kernel, by decide +kernel, by decide +kernel⟩
        · exact ⟨"c", [.str "less", .str u.text], hw, by decide +kernel, by decide +kernel, by decide +kernel⟩
        · exact ⟨"v", [.str "less", .str u.text], hw, by decide +kernel, by decide +kernel, by decide +kernel⟩
      obtain ⟨t0, rest, hw, k1, k2, k3⟩ := hw
      walk_at "x"
      refine x_ixL (SqL.of hw) (at_of (j := 0) rfl rfl) ?_
      walk_at "x"
      refine ⟨by walk_at "sz", fun p1 n1 => ?_⟩
      refine x_inL (SqL.of upd_same) rfl rfl ?_
      rw [k1]
      have e2 := same_new (u := .lst [.str "give", .str "again"]) e1 n1
      have hw2 := get_keep (u := .lst [.str "give", .str "again"]) n1 hw
      walk_at "x"
      refine x_ixL (SqL.of hw2) (at_of (j := 0) rfl rfl) ?_
      walk_at "x"
      refine x_F (by rw [dV_str]; exact k2) ?_
      walk_at "x"
      refine x_ixL (SqL.of hw2) (at_of (j := 0) rfl rfl) ?_
      walk_at "x"
      refine x_F (by rw [dV_str]; exact k3) ?_
      walk_at "x"
      refine ⟨l, rows, i, n, x, z, rfl, e2 _ _ hl, h0, h1, by rw [hr0]; rfl, hn, hz, fun p0 H0 e0 n0 hp0 => ?_⟩
      rw [hr0] at hp0
      walk_at "x"
      refine ⟨by walk_at "sz", fun p2 n2 => ?_⟩
      walk_at "x"
      refine ⟨by walk_at "sz", fun p3 n3 => ?_⟩
      exact one H0 p2 p3 (i + 1, (if t = .v then x else x - amt u.times n z), (if t = .v then x else x - amt u.times n z) + y - x, (if t = .c then z else z - amt u.times n z)) (e2.trans e0) n2 n3 rfl
    | iff c t r =>
      cases c with
      | false =>
        have hw : H1 wl = some (.lst [.str "if", .str "v", .str "<", .str t.text, .str "go", .str (dig r)]) := hw
        walk_at "x"
        refine ⟨by walk_at "sz", fun p1 n1 => ?_⟩
        refine x_inL (SqL.of upd_same) rfl rfl ?_
        have e2 := same_new (u := .lst [.str "give", .str "again"]) e1 n1
        walk_at "x"
        refine ⟨l, rows, i, n, x, z, rfl, e2 _ _ hl, h0, h1, by rw [hr0]; rfl, hn, hz, fun p0 H0 e0 n0 hp0 => ?_⟩
        rw [hr0] at hp0
        walk_at "x"
        refine ⟨by walk_at "sz", fun p2 n2 => ?_⟩
        walk_at "x"
        refine ⟨by walk_at "sz", fun p3 n3 => ?_⟩
        exact one H0 p2 p3 ((goes (.iff false t r) n i x z).1, (goes (.iff false t r) n i x z).2.1, (goes (.iff false t r) n i x z).2.1 + y - x, (goes (.iff false t r) n i x z).2.2) (e2.trans e0) n2 n3 rfl
      | true =>
        have hw : H1 wl = some (.lst [.str "if", .str "c", .str "<", .str t.text, .str "go", .str (dig r)]) := hw
        walk_at "x"
        refine ⟨by walk_at "sz", fun p1 n1 => ?_⟩
        refine x_inL (SqL.of upd_same) rfl rfl ?_
        have e2 := same_new (u := .lst [.str "give", .str "again"]) e1 n1
        walk_at "x"
        refine ⟨t, n, z, rfl, hn, hz, ?_⟩
        walk_at "x"
        refine ⟨by walk_at "sz", fun p2 n2 => ?_⟩
        walk_at "x"
        generalize hk : amt t.times n z = k
        have e3 : Same H (upd (upd H1 p1 (.lst [.str "give", .str "again"])) p2 (.lst [])) := same_new e2 n2
        have np2 : H p2 = none := e2.free n2
        have hw3 := get_keep (u := .lst []) n2 (get_keep (u := .lst [.str "give", .str "again"]) n1 hw)
        have hnx : next (.iff true t r) n (i, x, y, z) = (if x < k then [((r.val : Int), x, (if y < k then y else k), z)] else []) ++ (if k < y then [(i + 1, (if k < x then x else k), y, z)] else []) := by
          simp only [next, hk]
        have second : ∀ (D : Ends) (H0 : Hp) (xs : List V) (ss : List Spot), D.rt = Q → xs.length ≤ 1 → Same H H0 → H0 p2 = some (.lst xs) → SpotsAt H0 xs ss → next (.iff true t r) n (i, x, y, z) = ss ++ (if k < y then [(i + 1, (if k < x then x else k), y, z)] else []) →
            tSeq (tIfS (tTest (tOp (rI0 fun i j => .bl (decide (i < j))) (tVar 8) (tVar 5))) (tDrop (tBM K "list" rAppend (tVar 9) (tCons (tTup (tCons (tOp (rI0 fun i j => .int (i + j)) (tVar 3) (tC (.int 1))) (tCons (tIf (tTest (tOp (rI0 fun i j => .bl (decide (i < j))) (tVar 8) (tVar 4))) (tVar 4) (tVar 8)) (tCons (tVar 5) (tCons (tVar 6) tNil))))) tNil))) tNext) (tRet (tVar 9))
              D [some (.ref l), some (.int n), some (.ref a), some (.int i), some (.int x), some (.int y), some (.int z), some (.ref wl), some (.int k), some (.ref p2), none, none, none] H0 := by
          intro D H0 xs ss hD hlx e0 h0' hs hx
          have add : ∀ (m : Int) (p3 : Addr), H0 p3 = none → m = (if k < x then x else k) → k < y → Q (.ref p2) (upd (upd H0 p3 (.tup [.int (i + 1), .int m, .int y, .int z])) p2 (.lst (xs ++ [.ref p3]))) := by
            intro m p3 n3 hm c1
            have ne : p2 ≠ p3 := ne_of_none h0' n3
            refine q p2 _ _ (same_mut (same_new e0 n3) np2) np2 upd_same ?_
            rw [hx, if_pos c1, ← hm]
            refine SpotsAt.snoc (s := (i + 1, m, y, z)) ?_ ((upd_ne ne.symm).trans upd_same)
            refine Paired.mapP hs fun v s ⟨a', ev, ha'⟩ => ⟨a', ev, ?_⟩
            have na : a' ≠ p2 := by
              intro z
              rw [z, h0'] at ha'
              cases ha'
            exact (upd_ne na).trans (get_keep n3 ha')
          walk_at "x"
          refine x_TF (fun h1 => ?_) (fun h1 => ?_)
          · have c1 := of_decide_eq_true h1
            walk_at "x"
            refine ⟨.inl ⟨rfl, _, SqL.of h0'⟩, ?_⟩
            walk_at "x"
            refine x_TF (fun h2 => ?_) (fun h2 => ?_)
            · walk_at "x"
              refine ⟨by walk_at "sz", fun p3 n3 => ?_⟩
              walk_at "x"
              refine x_app (get_keep n3 h0') (Nat.lt_of_le_of_lt hlx (by decide)) ?_
              walk_at "x"
              rw [hD]
              exact add x p3 n3 (by rw [if_pos (of_decide_eq_true h2)]) c1
            · walk_at "x"
              refine ⟨by walk_at "sz", fun p3 n3 => ?_⟩
              walk_at "x"
              refine x_app (get_keep n3 h0') (Nat.lt_of_le_of_lt hlx (by decide)) ?_
              walk_at "x"
              rw [hD]
              exact add k p3 n3 (by rw [if_neg (of_decide_eq_false h2)]) c1
          · have c1 := of_decide_eq_false h1
            walk_at "x"
            rw [hD]
            refine q p2 _ _ e0 np2 h0' ?_
            rw [hx, if_neg c1, List.append_nil]
            exact hs
        refine x_TF (fun h1 => ?_) (fun h1 => ?_)
        · have c1 := of_decide_eq_true h1
          have add : ∀ (D : Ends) (m : Int) (H3 : Hp) (p3 : Addr), D.rt = Q → H3 = upd (upd H1 p1 (.lst [.str "give", .str "again"])) p2 (.lst []) → H3 p3 = none → m = (if y < k then y else k) →
              tSeq (tIfS (tTest (tOp (rI0 fun i j => .bl (decide (i < j))) (tVar 8) (tVar 5))) (tDrop (tBM K "list" rAppend (tVar 9) (tCons (tTup (tCons (tOp (rI0 fun i j => .int (i + j)) (tVar 3) (tC (.int 1))) (tCons (tIf (tTest (tOp (rI0 fun i j => .bl (decide (i < j))) (tVar 8) (tVar 4))) (tVar 4) (tVar 8)) (tCons (tVar 5) (tCons (tVar 6) tNil))))) tNil))) tNext) (tRet (tVar 9))
              D [some (.ref l), some (.int n), some (.ref a), some (.int i), some (.int x), some (.int y), some (.int z), some (.ref wl), some (.int k), some (.ref p2), none, none, none] (upd (upd H3 p3 (.tup [.int r.val, .int x, .int m, .int z])) p2 (.lst [.ref p3])) := by
            intro D m H3 p3 hD eH n3 hm
            have e3' : Same H H3 := by rw [eH]; exact e3
            have h2' : H3 p2 = some (.lst []) := by rw [eH]; exact upd_same
            have ne : p2 ≠ p3 := ne_of_none h2' n3
            refine second D _ [.ref p3] [((r.val : Int), x, m, z)] hD (Nat.le_refl _) (same_mut (same_new e3' n3) np2) upd_same (.cons ⟨p3, rfl, (upd_ne ne.symm).trans upd_same⟩ .nil) ?_
            rw [hnx, if_pos c1, ← hm]
          walk_at "x"
          refine ⟨.inl ⟨rfl, _, SqL.of upd_same⟩, ?_⟩
          walk_at "x"
          refine ⟨dig r, r.val, rfl, (dint r).1, (dint r).2, ?_⟩
          walk_at "x"
          refine x_TF (fun h2 => ?_) (fun h2 => ?_)
          · walk_at "x"
            refine ⟨by walk_at "sz", fun p3 n3 => ?_⟩
            walk_at "x"
            refine x_app (get_keep n3 upd_same) (by decide) ?_
            exact add _ y _ p3 (by rfl) rfl n3 (by rw [if_pos (of_decide_eq_true h2)])
          · walk_at "x"
            refine ⟨by walk_at "sz", fun p3 n3 => ?_⟩
            walk_at "x"
            refine x_app (get_keep n3 upd_same) (by decide) ?_
            exact add _ k _ p3 (by rfl) rfl n3 (by rw [if_neg (of_decide_eq_false h2)])
        · have c1 := of_decide_eq_false h1
          refine x_next ?_
          refine second _ _ [] [] (by rfl) (Nat.zero_le _) e3 upd_same .nil ?_
          rw [hnx, if_neg c1]
end
end K48
namespace K48
open PySem PySem.Spec PyProof.Rows L2
local macro_rules | `(tactic| walk_at "hg") => `(tactic| first | assumption | exact upd_same | (apply get_keep; assumption; walk_at "hg") | (apply get_same; assumption; walk_at "hg") | (apply get_mut; assumption; walk_at "hg"))
local macro_rules | `(tactic| walk_at "sq") => `(tactic| first | assumption | (apply SqT.of; walk_at "hg") | (apply SqL.of; walk_at "hg") | (apply same_t; assumption; walk_at "sq") | (apply Same.seq; assumption; walk_at "sq"))
local macro_rules | `(tactic| walk_at "sc") => `(tactic| first | omega | decide | assumption | (unfold CMul; omega) | (unfold CDiv; omega) | (show (0 : Int) < _; omega) | (exact cdivw (by omega) (by omega)) | (exact cdivp (by omega) (by omega)))
local macro_rules | `(tactic| walk_at "x1") => `(tactic| first
  | with_reducible refine x_seq ?_
  | with_reducible refine x_var (by with_unfolding_all rfl) ?_
  | with_reducible refine x_c ?_
  | with_reducible refine x_op ?_
  | with_reducible refine x_rI0 ?_
  | with_reducible refine x_bl ?_
  | with_reducible refine x_rEq (by with_unfolding_all rfl) ?_
  | with_reducible refine x_rNe (by with_unfolding_all rfl) ?_
  | with_reducible refine x_asg ?_
  | with_reducible refine x_gname ?_
  | with_reducible refine x_gcons ?_
  | with_reducible refine x_gnil ?_
  | with_reducible refine x_ret ?_
  | with_reducible refine x_drop ?_
  | with_reducible refine x_next ?_
  | with_reducible refine x_cont ?_
  | with_reducible refine x_brk ?_
  | with_reducible refine x_ifS ?_
  | with_reducible refine x_ifE ?_
  | with_reducible refine x_cons ?_
  | with_reducible refine x_nil ?_
  | with_reducible refine x_test ?_
  | with_reducible refine x_tB ?_
  | with_reducible refine x_and ?_
  | with_reducible refine x_or ?_
  | with_reducible refine x_not ?_
  | with_reducible refine x_andV ?_
  | with_reducible refine x_orV ?_
  | with_reducible refine x_notV ?_
  | with_reducible refine x_chain ?_
  | with_reducible refine x_par ?_
  | with_reducible refine x_two ?_
  | with_reducible refine x_un ?_
  | with_reducible refine x_rU ?_
  | with_reducible refine x_cb ?_
  | with_reducible refine x_call ?_
  | with_reducible refine x_sl ?_
  | with_reducible refine x_nopart ?_
  | with_reducible refine x_part ?_
  | with_reducible refine x_int ?_
  | with_reducible refine x_tup ?_
  | with_reducible refine x_lst ?_
  | with_reducible refine x_bm ?_
  | with_reducible refine x_fld ?_
  | with_reducible refine x_chain3 ?_
  | with_reducible refine x_yes ?_
  | with_reducible refine x_lcT ?_
  | with_reducible refine x_lcL ?_
  | with_reducible refine x_for ?_
  | with_reducible refine x_iT ?_
  | with_reducible refine x_iL ?_
  | with_reducible refine x_rng1 ?_
  | with_reducible refine x_rng2 ?_
  | with_reducible refine x_dcT ?_
  | with_reducible refine x_din ?_
  | with_reducible refine x_dni ?_
  | with_reducible refine x_lcE ?_
  | with_reducible refine x_enS ?_
  | with_reducible refine x_m1 ?_
  | with_reducible refine x_gsub ?_
  | ((with_reducible apply x_setl); (focus (walk_at "hg"; done)); (focus (with_unfolding_all rfl; done)))
  | with_reducible refine x_int1 ?_
  | with_reducible refine x_str2 ?_
  | ((with_reducible apply x_rI); (focus (walk_at "sc"; done)))
  | with_reducible refine x_sw ?_
  | with_reducible refine x_ss ?_
  | ((with_reducible apply x_ixT); (focus (walk_at "sq"; done)); (focus (with_unfolding_all rfl; done)))
  | ((with_reducible apply x_ixL); (focus (walk_at "sq"; done)); (focus (with_unfolding_all rfl; done)))
  | ((with_reducible apply x_gtup); (focus (walk_at "sq"; done)); (focus (with_unfolding_all rfl; done)))
  | ((with_reducible apply x_glst); (focus (walk_at "sq"; done)); (focus (with_unfolding_all rfl; done)))
  | with_reducible refine x_F dn_int ?_
  | with_reducible refine x_F dn_ref ?_
  | with_reducible refine x_T dn_non ?_
  | with_reducible refine x_T (by decide +kernel) ?_
  | with_reducible refine x_F (by decide +kernel) ?_)
local macro_rules | `(tactic| walk_at "sz") => `(tactic| first | (exact Nat.le_of_ble_eq_true rfl) | decide | omega)
local macro_rules | `(tactic| walk_at "x") => `(tactic| ((walk_at "x1"); repeat (walk_at "x1")))
/-! ### the law's own reading of a claim -/
theorem beq_dec (a b : Int) : (a == b) = decide (a = b) := by
  by_cases h : a = b
  · subst h; simp
  · rw [decide_eq_false h]; exact beq_eq_false_iff_ne.mpr h
section
variable {P : Program} {w : World} {K : PySem.W.Frag} {mg : Str → Option Value} {base : Heap}
def spWhole : Sp := fun vs H Q _ => ∃ v l m, vs = [v, .int l, .int m] ∧ Kd H v ∧ Q (.bl (btw v l m)) H
theorem sc_law_is_whole : FnScope ["_law_value", "_law_least", "_law_most"] ["_law_value", "_law_least", "_law_most"] (defScope s__law_is_whole) := ⟨rfl, rfl, rfl, by decide +kernel, rfl, by decide +kernel, by decide +kernel⟩
theorem ok__law_is_whole (T : Tx w K mg) (B : HasDef K mg "_law_is_whole" s__law_is_whole ["_law_value", "_law_least", "_law_most"]) : Def P w K mg base "_law_is_whole" 1 ["_law_value", "_law_least", "_law_most"] spWhole := by
  refine Def.mk B sc_law_is_whole (fun vs H Q E h => ?_) (fun f cdv A outer s H vs Q E hr h => ?_)
  · obtain ⟨v, l, m, rfl, _⟩ := h
    rfl
  · obtain ⟨v, l, m, rfl, hk, q⟩ := h
    refine ⟨_, (pss_one (ps_ret (pe_and (pe_callB call_isi (by rfl) T.z_isinstance boot_isinstance' (pa_cons (pv 0) (pa_cons (pe_bltn (by rfl) T.z_int boot_int' (v := .ty "int") rfl) pa_nil))) (pe_and (pe_not (pe_callB call_isi (by rfl) T.z_isinstance boot_isinstance' (pa_cons (pv 0) (pa_cons (pe_bltn (by rfl) T.z_bool boot_bool' (v := .ty "bool") rfl) pa_nil)))) (pe_one (pe_chain op_le op_le (pv 1) (pv 0) (pv 2))))))), ?_⟩
    walk_at "x"
    refine x_isInt hk ?_
    walk_at "x"
    have no : isI v = false → Q (.bl false) H := fun h => by
      have e : btw v l m = false := by
        cases v with
        | int i => cases h
        | _ => rfl
      rw [e] at q
      exact q
    cases hb : isB v with
    | true =>
      have hi : isI v = false := by
        cases v with
        | bl b => rfl
        | _ => cases hb
      refine x_T (by rw [Bool.or_true]) ?_
      walk_at "x"
      refine x_isBool hk ?_
      rw [hb]
      walk_at "x"
      exact no hi
    | false =>
      rw [Bool.or_false]
      refine x_TF (fun h1 => ?_) (fun h1 => ?_)
      · obtain ⟨i, rfl⟩ := isI_int h1
        have q : Q (.bl (decide (l ≤ i) && decide (i ≤ m))) H := q
        walk_at "x"
        refine x_isBool hk ?_
        walk_at "x"
        refine x_T rfl ?_
        walk_at "x"
        refine x_TF (fun h2 => ?_) (fun h2 => ?_)
        · rw [h2, Bool.true_and] at q
          walk_at "x"
          exact q
        · rw [h2, Bool.false_and] at q
          exact q
      · exact no h1
def spRoad : Sp := fun vs H Q _ => ∃ l rows c road, vs = [.ref l, .ref c] ∧ H l = some (.lst (textsV rows)) ∧ rows.length ≤ 8 ∧ H c = some (.tup (road.map V.int)) ∧ road.length < 100000 ∧ ∀ H', Same H H' → Q (.bl (roadB rows.length road)) H'
theorem sc_law_is_road : FnScope ["_law_lines", "_law_road", "_law_at"] ["_law_lines", "_law_road"] (defScope s__law_is_road) := ⟨rfl, rfl, rfl, by decide +kernel, rfl, by decide +kernel, by decide +kernel⟩
theorem ok__law_is_road (T : Tx w K mg) (B : HasDef K mg "_law_is_road" s__law_is_road ["_law_lines", "_law_road"]) (D_law_is_whole : Def P w K mg base "_law_is_whole" 1 ["_law_value", "_law_least", "_law_most"] spWhole) : Def P w K mg base "_law_is_road" 2 ["_law_lines", "_law_road"] spRoad := by
  refine Def.mk B sc_law_is_road (fun vs H Q E h => ?_) (fun f cdv A outer s H vs Q E hr h => ?_)
  · obtain ⟨l, rows, c, road, rfl, _⟩ := h
    rfl
  · obtain ⟨l, rows, c, road, rfl, hl, h8, hc, hz, q⟩ := h
    refine ⟨_, (pss_cons (ps_if (PW.pt (pw_or (pt_not (pt_val (pe_callB call_isi (by rfl) T.z_isinstance boot_isinstance' (pa_cons (pv 1) (pa_cons (pe_bltn (by rfl) T.z_tuple boot_tuple' (v := .ty "tuple") rfl) pa_nil))))) (pw_or1 (pt_not (pt_val (pe_callB (cr_all rfl) (by rfl) T.z_all boot_all' (pa_cons (pe_lc (own := [("_law_at", 2)]) (by rfl) sc_law_is_road.nd (pi_tup (pv 1)) (blkOk_by (N := ["_law_lines", "_law_road", "_law_at"]) (sc := defScope s__law_is_road) (by decide +kernel)) (fun _ _ _ _ _ => (pg_name (i := 2) sc_law_is_road.nd rfl (Or.inl rfl))) (fun _ _ _ _ _ => pts_nil) (fun _ _ _ _ _ => (pe_d D_law_is_whole hr (pa_cons (pv 2) (pa_cons pe_int (pa_cons (pe_op op_sub (pe_callB (r := rLenQ K) call_len_seq (by rfl) T.z_len boot_len' (pa_cons (pv 0) pa_nil)) pe_int) pa_nil)))))) pa_nil))))))) (pss_one (ps_ret pe_bl)) pss_nil)
      (pss_one (ps_ret (pe_cmpR (op_eqD hr.units) (pe_slice sl_tupA (pv 1) po_none (po_some pe_int)) (pe_tup (pa_cons pe_int pa_nil)) (nomark _))))), ?_⟩
    have hlr : (textsV rows).length = rows.length := List.length_map _
    walk_at "x"
    refine x_isTup (.inr ⟨_, hc⟩) ?_
    walk_at "x"
    have ht : isT H (.ref c) = true := by rw [isT_tup]; show (seqT (H c)).isSome = true; rw [hc]; rfl
    rw [ht]
    walk_at "x"
    refine lcT_go (fun i _ l => l = (road.take i).map fun r => V.bl (btw (.int r) 0 ((rows.length : Int) - 1))) (SqT.of hc) (by rw [List.length_map]; exact Nat.lt_of_lt_of_le hz (by decide)) rfl (fun _ _ _ _ _ h => h) (fun x => rfl) (fun i x H' l' hi e hli hG KT KF kT kF => ?_) (fun D H' l' nD e hD hG => ?_)
    · obtain ⟨r, hr2, rfl⟩ := map_get hi
      walk_at "x"
      refine ⟨l, textsV rows, rfl, .inl (SqL.of (e _ _ hl)), ?_⟩
      rw [hlr]
      walk_at "x"
      refine ⟨.int r, 0, _, rfl, True.intro, kT _ _ (Same.refl _) ?_⟩
      rw [hG, take_snoc hr2, List.map_append]
      rfl
    · walk_at "x"
      refine ⟨D, road.map fun r => btw (.int r) 0 ((rows.length : Int) - 1), rfl, SqL.of (hD.trans (by rw [hG, List.length_map, List.take_length, List.map_map]; rfl)), ?_⟩
      rw [all_map]
      have hc' := e _ _ hc
      walk_at "x"
      cases road with
      | nil =>
        refine x_F rfl ?_
        walk_at "x"
        have hc' : H' c = some (.tup []) := hc'
        refine ⟨c, [], rfl, SqT.of hc', fun _ => ?_, fun h => absurd ⟨rfl, rfl⟩ h⟩
        walk_at "x"
        refine ⟨by walk_at "sz", fun p np => ?_⟩
        have e2 := same_new (u := .tup [.int 0]) (Same.refl H') np
        refine ⟨.tuple [], .tuple [.int 0], .tup (SqT.of (e2 _ _ hc')) .nil, .tup (SqT.of upd_same) (.cons (.int 0) .nil), shaped_nilT, by decide +kernel, ?_⟩
        exact q _ (e.trans e2)
      | cons r0 rest =>
        have q : ∀ H', Same H H' → Q (.bl (((r0 :: rest).all fun r => btw (.int r) 0 ((rows.length : Int) - 1)) && decide (r0 = 0))) H' := q
        refine x_TF (fun h1 => ?_) (fun h1 => ?_)
        · have h1 : ((r0 :: rest).all fun r => btw (.int r) 0 ((rows.length : Int) - 1)) = false := by
            cases hh : ((r0 :: rest).all fun r => btw (.int r) 0 ((rows.length : Int) - 1)) with
            | false => rfl
            | true => rw [hh] at h1; cases h1
          rw [h1, Bool.false_and] at q
          walk_at "x"
          exact q _ e
        · have h1 : ((r0 :: rest).all fun r => btw (.int r) 0 ((rows.length : Int) - 1)) = true := by
            cases hh : ((r0 :: rest).all fun r => btw (.int r) 0 ((rows.length : Int) - 1)) with
            | true => rfl
            | false => rw [hh] at h1; cases h1
          rw [h1, Bool.true_and] at q
          have fin : ∀ (p : Addr) (H2 : Hp), Same H' H2 → H2 p = some (.tup [.int r0]) → ∀ p2, H2 p2 = none → ∃ d e, Dp K (upd H2 p2 (.tup [.int 0])) (.ref p) d ∧ Dp K (upd H2 p2 (.tup [.int 0])) (.ref p2) e ∧ SeqAt.shaped d = true ∧ SeqAt.shaped e = true ∧ Q (.bl (PyData.eqv d e)) (upd H2 p2 (.tup [.int 0])) := by
            intro p H2 e2 hp2 p2 np2
            refine ⟨.tuple [.int r0], .tuple [.int 0], .tup (SqT.of (get_keep np2 hp2)) (.cons (.int r0) .nil), .tup (SqT.of upd_same) (.cons (.int 0) .nil), shaped_tup (lay_ints [r0]) (Nat.le_trans (depth_ints [r0]) (by decide)), by decide +kernel, ?_⟩
            have ee : PyData.eqv (.tuple [.int r0]) (.tuple [.int 0]) = decide (r0 = 0) := by
              simp [PyData.eqv, PyData.eqvAll]
              exact beq_dec r0 0
            rw [ee]
            exact q _ ((e.trans e2).trans (same_new (Same.refl _) np2))
          walk_at "x"
          refine ⟨c, (r0 :: rest).map V.int, rfl, SqT.of hc', fun h => ?_, fun h p np => ?_⟩
          · have hr0 : rest = [] := by
              have h2 : HT.sIx ((r0 :: rest).map V.int).length ((r0 :: rest).map V.int).length (some ((1 : Nat) : Int)) = ((r0 :: rest).map V.int).length := h.2
              rw [HT.sIx_nat, List.length_map, List.length_cons] at h2
              cases rest with
              | nil => rfl
              | cons a b => rw [List.length_cons, Nat.min_eq_left (by omega)] at h2; omega
            subst hr0
            walk_at "x"
            exact ⟨by walk_at "sz", fun p2 np2 => fin c H' (Same.refl _) hc' p2 np2⟩
          · have hcut : cutV ((r0 :: rest).map V.int) none (some ((1 : Nat) : Int)) = [.int r0] := by
              rw [cut_to (by simp)]
              rfl
            have hcut : cutV ((r0 :: rest).map V.int) none (some 1) = [.int r0] := hcut
            rw [hcut]
            walk_at "x"
            exact ⟨by walk_at "sz", fun p2 np2 => fin p _ (same_new (Same.refl _) np) upd_same p2 np2⟩
end
end K48
namespace K48
open PySem PySem.Spec PyProof.Rows L2
local macro_rules | `(tactic| walk_at "hg") => `(tactic| first | assumption | exact upd_same | (apply get_keep; assumption; walk_at "hg") | (apply get_same; assumption; walk_at "hg") | (apply get_mut; assumption; walk_at "hg"))
local macro_rules | `(tactic| walk_at "sq") => `(tactic| first | assumption | (apply SqT.of; walk_at "hg") | (apply SqL.of; walk_at "hg") | (apply same_t; assumption; walk_at "sq") | (apply Same.seq; assumption; walk_at "sq"))
local macro_rules | `(tactic| walk_at "sc") => `(tactic| first | omega | decide | assumption | (unfold CMul; omega) | (unfold CDiv; omega) | (show (0 : Int) < _; omega) | (exact cdivw (by omega) (by omega)) | (exact cdivp (by omega) (by omega)))
local macro_rules | `(tactic| walk_at "x1") => `(tactic| first
  | with_reducible refine x_seq ?_
  | with_reducible refine x_var (by with_unfolding_all rfl) ?_
  | with_reducible refine x_c ?_
  | with_reducible refine x_op ?_
  | with_reducible refine x_rI0 ?_
  | with_reducible refine x_bl ?_
  | with_reducible refine x_rEq (by with_unfolding_all rfl) ?_
  | with_reducible refine x_rNe (by with_unfolding_all rfl) ?_
  | with_reducible refine x_asg ?_
  | with_reducible refine x_gname ?_
  | with_reducible refine x_gcons ?_
  | with_reducible refine x_gnil ?_
  | with_reducible refine x_ret ?_
  | with_reducible refine x_drop ?_
  | with_reducible refine x_next ?_
  | with_reducible refine x_cont ?_
  | with_reducible refine x_brk ?_
  | with_reducible refine x_ifS ?_
  | with_reducible refine x_ifE ?_
  | with_reducible refine x_cons ?_
  | with_reducible refine x_nil ?_
  | with_reducible refine x_test ?_
  | with_reducible refine x_tB ?_
  | with_reducible refine x_and ?_
  | with_reducible refine x_or ?_
  | with_reducible refine x_not ?_
  | with_reducible refine x_andV ?_
  | with_reducible refine x_orV ?_
  | with_reducible refine x_notV ?_
  | with_reducible refine x_chain ?_
  | with_reducible refine x_par ?_
  | with_reducible refine x_two ?_
  | with_reducible refine x_un ?_
  | with_reducible refine x_rU ?_
  | with_reducible refine x_cb ?_
  | with_reducible refine x_call ?_
  | with_reducible refine x_sl ?_
  | with_reducible refine x_nopart ?_
  | with_reducible refine x_part ?_
  | with_reducible refine x_int ?_
  | with_reducible refine x_tup ?_
  | with_reducible refine x_lst ?_
  | with_reducible refine x_bm ?_
  | with_reducible refine x_fld ?_
  | with_reducible refine x_chain3 ?_
  | with_reducible refine x_yes ?_
  | with_reducible refine x_lcT ?_
  | with_reducible refine x_lcL ?_
  | with_reducible refine x_for ?_
  | with_reducible refine x_iT ?_
  | with_reducible refine x_iL ?_
  | with_reducible refine x_rng1 ?_
  | with_reducible refine x_rng2 ?_
  | with_reducible refine x_dcT ?_
  | with_reducible refine x_din ?_
  | with_reducible refine x_dni ?_
  | with_reducible refine x_lcE ?_
  | with_reducible refine x_enS ?_
  | with_reducible refine x_m1 ?_
  | with_reducible refine x_gsub ?_
  | ((with_reducible apply x_setl); (focus (walk_at "hg"; done)); (focus (with_unfolding_all rfl; done)))
  | with_reducible refine x_int1 ?_
  | with_reducible refine x_str2 ?_
  | ((with_reducible apply x_rI); (focus (walk_at "sc"; done)))
  | with_reducible refine x_sw ?_
  | with_reducible refine x_ss ?_
  | ((with_reducible apply x_ixT); (focus (walk_at "sq"; done)); (focus (with_unfolding_all rfl; done)))
  | ((with_reducible apply x_ixL); (focus (walk_at "sq"; done)); (focus (with_unfolding_all rfl; done)))
  | ((with_reducible apply x_gtup); (focus (walk_at "sq"; done)); (focus (with_unfolding_all rfl; done)))
  | ((with_reducible apply x_glst); (focus (walk_at "sq"; done)); (focus (with_unfolding_all rfl; done)))
  | with_reducible refine x_F dn_int ?_
  | with_reducible refine x_F dn_ref ?_
  | with_reducible refine x_T dn_non ?_
  | with_reducible refine x_T (by decide +kernel) ?_
  | with_reducible refine x_F (by decide +kernel) ?_)
local macro_rules | `(tactic| walk_at "sz") => `(tactic| first | (exact Nat.le_of_ble_eq_true rfl) | decide | omega)
local macro_rules | `(tactic| walk_at "x") => `(tactic| ((walk_at "x1"); repeat (walk_at "x1")))
section
variable {P : Program} {w : World} {K : PySem.W.Frag} {mg : Str → Option Value} {base : Heap}
def Cut3 (H : Hp) (Q : VK) : Option Spot → Prop
  | none => ∀ p H', Same H H' → H' p = some (.lst []) → Q (.ref p) H'
  | some s => ∀ p H', Same H H' → H' p = some (.lst [.int s.2.1, .int s.2.2.1, .int s.2.2.2]) → Q (.ref p) H'
def spBounded : Sp := fun vs H Q _ => ∃ l rows n full c road, vs = [.ref l, .int n, .int full, .ref c] ∧ H l = some (.lst (textsV rows)) ∧ rows.length ≤ 8 ∧ (1 ≤ n ∧ n ≤ 10 ^ 30) ∧ (1 ≤ full ∧ full ≤ 2 * n) ∧ H c = some (.tup (road.map V.int)) ∧ road.length < 100000 ∧ roadB rows.length road = true ∧ Cut3 H Q (runTo rows n (0, 0, full, full) (road.drop 1))
theorem sc_law_bounded : FnScope ["_law_lines", "_law_number_here", "_law_full", "_law_road", "_law_spot", "_law_at", "_law_some", "_law_each"] ["_law_lines", "_law_number_here", "_law_full", "_law_road"] (defScope s__law_bounded) := ⟨rfl, rfl, rfl, by decide +kernel, rfl, by decide +kernel, by decide +kernel⟩
theorem ok__law_bounded (T : Tx w K mg) (B : HasDef K mg "_law_bounded" s__law_bounded ["_law_lines", "_law_number_here", "_law_full", "_law_road"]) (D_law_next : Def P w K mg base "_law_next" 3 ["_law_lines", "_law_number_here", "_law_spot"] spNext) (D_law_is_wide_spot : Def P w K mg base "_law_is_wide_spot" 2 ["_law_number_here", "_law_spot"] spWide) :
    Def P w K mg base "_law_bounded" 4 ["_law_lines", "_law_number_here", "_law_full", "_law_road"] spBounded := by
  refine Def.mk B sc_law_bounded (fun vs H Q E h => ?_) (fun f cdv A outer s H vs Q E hr h => ?_)
  · obtain ⟨l, rows, n, full, c, road, rfl, _⟩ := h
    rfl
  · obtain ⟨l, rows, n, full, c, road, rfl, hl, h8, hn, hf, hc, hz, hroad, q⟩ := h
    refine ⟨_, (pss_cons (ps_set (i := 4) sc_law_bounded.nd rfl (Or.inl rfl) (pe_tup (pa_cons pe_int (pa_cons pe_int (pa_cons (pv 2) (pa_cons (pv 2) pa_nil))))))
      (pss_cons (ps_for PassesOwn.never (by rfl) (pi_range2 (by rfl) T.z_range (pa_cons pe_int (pa_cons (pe_callB call_len_seq (by rfl) T.z_len boot_len' (pa_cons (pv 3) pa_nil)) pa_nil))) (pg_name (i := 5) sc_law_bounded.nd rfl (Or.inr rfl))
      (pss_cons (ps_setLc (i := 6) (own := [("_law_each", 7)]) (by rfl) sc_law_bounded.nd rfl rfl (sw_true rfl rfl rfl (by decide +kernel)) (pi_list (pe_d D_law_next hr (pa_cons (pv 0) (pa_cons (pv 1) (pa_cons (pv 4) pa_nil))))) (blkOk_by (N := ["_law_lines", "_law_number_here", "_law_full", "_law_road", "_law_spot", "_law_at", "_law_some", "_law_each"]) (sc := defScope s__law_bounded) (by decide +kernel)) (fun _ _ _ _ _ => (pg_name (i := 7) sc_law_bounded.nd rfl (Or.inl rfl))) (fun _ _ _ _ _ => (pts_one (pt_cmpR op_eq (pe_ix (r := rIxT K) ix_tup (pv 7) pe_int (fun _ _ => rfl)) (pe_ix (r := rIxT K) ix_tup (pv 3) (pv 5) (fun _ _ => rfl)) (nomark _)))) (fun _ _ _ _ _ => (pv 7)))
      (pss_cons (ps_if (PW.pt (pw_or (pt_cmpR (op_eqD hr.units) (pv 6) (pe_lst pa_nil) (nomark _)) (pw_or1 (pt_val (pe_d D_law_is_wide_spot hr (pa_cons (pv 1) (pa_cons (pe_ix ix_list (pv 6) pe_int (fun _ _ => rfl)) pa_nil))))))) (pss_one (ps_ret (pe_lst pa_nil))) pss_nil)
      (pss_one (ps_set (i := 4) sc_law_bounded.nd rfl (Or.inl rfl) (pe_ix ix_list (pv 6) pe_int (fun _ _ => rfl)))))))
      (pss_one (ps_ret (pe_callTy call_list_of (by rfl) T.z_list boot_list' (pa_cons (pe_slice sl_tupA (pv 4) (po_some pe_int) po_none) pa_nil)))))), ?_⟩
    obtain ⟨rest, rfl⟩ := road_zero hroad
    have q : Cut3 H Q (runTo rows n (0, 0, full, full) rest) := q
    walk_at "x"
    refine ⟨by walk_at "sz", fun p1 n1 => ?_⟩
    walk_at "x"
    refine ⟨c, _, rfl, .inr (SqT.of (get_keep n1 hc)), ?_⟩
    walk_at "x"
    have hz2 : rest.length < 100000 := by
      rw [List.length_cons] at hz
      omega
    refine ⟨1, _, rfl, ⟨by decide, by decide, by simp only [List.length_map, List.length_cons]; omega, by simp only [List.length_map, List.length_cons]; omega⟩, ?_⟩
    have elen : ((((0 :: rest).map V.int).length : Int) - 1).toNat = rest.length := by simp only [List.length_map, List.length_cons]; omega
    rw [elen]
    refine for_range (lo := 1) (n := rest.length) (fun i σ H' => ∃ (s : Spot) (t : Addr) (v5 v6 v7 : Option V), σ = [some (.ref l), some (.int n), some (.int full), some (.ref c), some (.ref t), v5, v6, v7] ∧ Same H H' ∧ H' t = some (.tup [.int s.1, .int s.2.1, .int s.2.2.1, .int s.2.2.2]) ∧
      (0 :: rest)[i]? = some s.1 ∧ s.2.1 < s.2.2.1 ∧ (-(8 * n) ≤ s.2.2.2 ∧ s.2.2.2 ≤ 8 * n) ∧ runTo rows n (0, 0, full, full) rest = runTo rows n s (rest.drop i)) ⟨(0, 0, full, full), p1, none, none, none, rfl, same_new (Same.refl _) n1, upd_same, rfl, by show (0 : Int) < full; omega, by simp only; omega, rfl⟩ (fun i σ H' hi hP => ?_) (fun σ H' hP => ?_)
    · obtain ⟨s, t, v5, v6, v7, rfl, e, ht, hi2, hab, hw, hrun⟩ := hP
      obtain ⟨h10, h11⟩ := road_all hroad (List.mem_of_getElem? hi2)
      walk_at "x"
      refine ⟨l, t, rows, n, s, rfl, e _ _ hl, ht, h10, h11, hn, hw, fun p2 H2 xs e2 n2 h2 hs2 => ?_⟩
      have hi3 : ∃ r, rest[i]? = some r := ⟨rest[i], List.getElem?_eq_getElem hi⟩
      obtain ⟨r, hr3⟩ := hi3
      have hcm2 : ((0 :: rest).map V.int)[i + 1]? = some (.int r) := by rw [List.getElem?_map, List.getElem?_cons_succ, hr3]; rfl
      have hd : rest.drop i = r :: rest.drop (i + 1) := by
        obtain ⟨hlt, he⟩ := List.getElem?_eq_some_iff.mp hr3
        rw [List.drop_eq_getElem_cons hlt, he]
      have hlt2 : ∀ t ∈ next (rowAt rows s.1) n s, t.2.1 < t.2.2.1 := fun t ht => next_lt hab ht
      generalize hN : next (rowAt rows s.1) n s = N at hs2 hlt2
      have hNl : N.length ≤ 2 := by rw [← hN]; exact next_two _ _ _
      refine lcL_go (fun i H l => SpotsAt H l ((N.take i).filter fun t => decide (t.1 = r))) (SqL.of h2) (by rw [hs2.len]; exact Nat.lt_of_le_of_lt hNl (by decide)) .nil (fun _ _ _ _ ts h => h.tups ts) (fun x => rfl) (fun j x H3 l' hj e3 hlj hG KT KF kT kF => ?_) (fun D H3 l' nD e3 hD hG => ?_)
      · obtain ⟨b, u, rfl, hu, hb⟩ := hs2.getR hj
        have hb3 : H3 b = some (.tup [.int u.1, .int u.2.1, .int u.2.2.1, .int u.2.2.2]) := e3 _ _ hb
        walk_at "x"
        refine x_ixT (SqT.of (e3 _ _ (e2 _ _ (e _ _ hc)))) (at_of (j := i + 1) (by omega) hcm2) ?_
        walk_at "x"
        rw [dV_int]
        have hsn := filter_snoc (p := fun t : Spot => decide (t.1 = r)) hu
        refine x_TF (fun h1 => ?_) (fun h1 => ?_)
        · walk_at "x"
          refine kT _ _ (Same.refl _) ?_
          rw [hsn, if_pos h1]
          exact SpotsAt.snoc hG (e3 _ _ hb)
        · refine kF _ (Same.refl _) ?_
          rw [hsn, if_neg (by rw [h1]; exact Bool.false_ne_true), List.append_nil]
          exact hG
      · have hG : SpotsAt H3 l' (N.filter fun t => decide (t.1 = r)) := by
          rw [hs2.len, List.take_length] at hG
          exact hG
        have eH3 : Same H H3 := (e.trans e2).trans e3
        walk_at "x"
        refine ⟨Nat.zero_le _, fun p4 n4 => ?_⟩
        have e4 : Same H3 (upd H3 p4 (.lst [])) := same_new (Same.refl _) n4
        refine ⟨.list ((N.filter fun t => decide (t.1 = r)).map spD), .list [], .lst (SqL.of (e4 _ _ hD)) (dp_spots (hG.same e4)), .lst (SqL.of upd_same) .nil, shaped_lst (lay_spots _) (Nat.le_trans (depth_spots _) (by decide)), shaped_nilL, ?_⟩
        rw [eqv_lst_nil]
        have hstep : runTo rows n s (rest.drop i) = match N.filter (fun t => decide (t.1 = r)) with
          | [] => none
          | t :: _ => if bnd n t.2.1 t.2.2.1 t.2.2.2 = true then runTo rows n t (rest.drop (i + 1)) else none := by
          rw [hd, ← hN]
          rfl
        walk_at "x"
        cases hF : N.filter (fun t => decide (t.1 = r)) with
        | nil =>
          rw [hrun, hstep, hF] at q
          walk_at "x"
          exact ⟨by walk_at "sz", fun p n => q p _ ((eH3.trans e4).trans (same_new (Same.refl _) n)) upd_same⟩
        | cons u us =>
          rw [hF] at hG hstep
          have hu0 : u ∈ N.filter (fun t => decide (t.1 = r)) := by rw [hF]; exact List.mem_cons_self
          have hu : u.1 = r := of_decide_eq_true (List.mem_filter.mp hu0).2
          have hult := hlt2 u (List.mem_filter.mp hu0).1
          have hbw := bnd_wide (n := n) hult
          obtain ⟨b, hb1, hb2⟩ := hG.get (i := 0) (s := u) rfl
          have hb4 : upd H3 p4 (.lst []) b = some (.tup (spV u)) := e4 _ _ hb2
          refine x_F rfl ?_
          walk_at "x"
          refine x_ixL (SqL.of (e4 _ _ hD)) (at_of (j := 0) rfl hb1) ?_
          walk_at "x"
          refine ⟨n, b, u, rfl, hb4, ?_⟩
          walk_at "x"
          cases hbb : bnd n u.2.1 u.2.2.1 u.2.2.2 with
          | false =>
            have hstep : runTo rows n s (rest.drop i) = none := by rw [hstep]; simp only [hbb]; rfl
            rw [hrun, hstep] at q
            rw [show wide n u = true by rw [hbb] at hbw; cases h : wide n u <;> rw [h] at hbw <;> first | rfl | cases hbw]
            walk_at "x"
            exact ⟨by walk_at "sz", fun p n => q p _ ((eH3.trans e4).trans (same_new (Same.refl _) n)) upd_same⟩
          | true =>
            have hstep : runTo rows n s (rest.drop i) = runTo rows n u (rest.drop (i + 1)) := by rw [hstep]; simp only [hbb]; rfl
            obtain ⟨o1, o2, o3, o4, o5⟩ := bnd_out hbb
            rw [show wide n u = false by rw [hbb] at hbw; cases h : wide n u <;> rw [h] at hbw <;> first | rfl | cases hbw]
            walk_at "x"
            refine x_ixL (SqL.of (e4 _ _ hD)) (at_of (j := 0) rfl hb1) ?_
            walk_at "x"
            refine ⟨u, b, _, _, _, rfl, eH3.trans e4, hb4, ?_, hult, ⟨o4, o5⟩, hrun.trans hstep⟩
            rw [List.getElem?_cons_succ, hr3, hu]
    · obtain ⟨s, t, v5, v6, v7, rfl, e, ht, hi2, hab, hw, hrun⟩ := hP
      rw [List.drop_length] at hrun
      have hrun : runTo rows n (0, 0, full, full) rest = some s := hrun
      rw [hrun] at q
      walk_at "x"
      refine x_sl4 ht fun p n => ?_
      walk_at "x"
      refine ⟨p, _, rfl, .inr (SqT.of upd_same), fun p2 n2 => ?_⟩
      exact q p2 _ ((e.trans (same_new (Same.refl _) n)).trans (same_new (Same.refl _) n2)) upd_same
def beginO (rows : List Row) (n full : Int) (road : List Int) : Option Spot := if btw (.int full) 1 (2 * n) && roadB rows.length road then runTo rows n (0, 0, full, full) (road.drop 1) else none
def spBegin : Sp := fun vs H Q _ => ∃ l rows n full c road, vs = [.ref l, .int n, .int full, .ref c] ∧ H l = some (.lst (textsV rows)) ∧ rows.length ≤ 8 ∧ (1 ≤ n ∧ n ≤ 10 ^ 30) ∧ H c = some (.tup (road.map V.int)) ∧ road.length < 100000 ∧ Cut3 H Q (beginO rows n full road)
theorem sc_law_begin : FnScope ["_law_lines", "_law_number_here", "_law_full", "_law_road"] ["_law_lines", "_law_number_here", "_law_full", "_law_road"] (defScope s__law_begin) := ⟨rfl, rfl, rfl, by decide +kernel, rfl, by decide +kernel, by decide +kernel⟩
theorem ok__law_begin (T : Tx w K mg) (B : HasDef K mg "_law_begin" s__law_begin ["_law_lines", "_law_number_here", "_law_full", "_law_road"]) (D_law_is_whole : Def P w K mg base "_law_is_whole" 1 ["_law_value", "_law_least", "_law_most"] spWhole) (D_law_is_road : Def P w K mg base "_law_is_road" 2 ["_law_lines", "_law_road"] spRoad)
    (D_law_bounded : Def P w K mg base "_law_bounded" 4 ["_law_lines", "_law_number_here", "_law_full", "_law_road"] spBounded) : Def P w K mg base "_law_begin" 5 ["_law_lines", "_law_number_here", "_law_full", "_law_road"] spBegin := by
  refine Def.mk B sc_law_begin (fun vs H Q E h => ?_) (fun f cdv A outer s H vs Q E hr h => ?_)
  · obtain ⟨l, rows, n, full, c, road, rfl, _⟩ := h
    rfl
  · obtain ⟨l, rows, n, full, c, road, rfl, hl, h8, hn, hc, hz, q⟩ := h
    refine ⟨_, (pss_cons (ps_if (PW.pt (pw_or (pt_not (pt_val (pe_d D_law_is_whole hr (pa_cons (pv 1) (pa_cons pe_int (pa_cons (pv 1) pa_nil)))))) (pw_or1 (pt_not (pt_val (pe_d D_law_is_whole hr (pa_cons (pv 2) (pa_cons pe_int (pa_cons (pe_op op_mul pe_int (pv 1)) pa_nil))))))))) (pss_one (ps_ret (pe_lst pa_nil))) pss_nil)
      (pss_cons (ps_if (pt_not (pt_val (pe_d D_law_is_road hr (pa_cons (pv 0) (pa_cons (pv 3) pa_nil))))) (pss_one (ps_ret (pe_lst pa_nil))) pss_nil)
      (pss_one (ps_ret (pe_d D_law_bounded hr (pa_cons (pv 0) (pa_cons (pv 1) (pa_cons (pv 2) (pa_cons (pv 3) pa_nil))))))))), ?_⟩
    walk_at "x"
    refine ⟨.int n, 1, n, rfl, trivial, ?_⟩
    walk_at "x"
    refine x_F (by show (!(decide (1 ≤ n) && decide (n ≤ n))) = false; rw [decide_eq_true hn.1, decide_eq_true (Int.le_refl n)]; rfl) ?_
    walk_at "x"
    refine ⟨.int full, 1, 2 * n, rfl, trivial, ?_⟩
    unfold beginO at q
    walk_at "x"
    cases hb : btw (.int full) 1 (2 * n) with
    | false =>
      rw [hb, Bool.false_and, if_neg Bool.false_ne_true] at q
      walk_at "x"
      exact ⟨by walk_at "sz", fun p n => q p _ (same_new (Same.refl _) n) upd_same⟩
    | true =>
      rw [hb, Bool.true_and] at q
      have hb' : (decide (1 ≤ full) && decide (full ≤ 2 * n)) = true := hb
      simp only [Bool.and_eq_true, decide_eq_true_eq] at hb'
      walk_at "x"
      refine ⟨l, rows, c, road, rfl, hl, h8, hc, hz, fun H1 e1 => ?_⟩
      walk_at "x"
      cases hrd : roadB rows.length road with
      | false =>
        rw [hrd, if_neg Bool.false_ne_true] at q
        walk_at "x"
        exact ⟨by walk_at "sz", fun p n => q p _ (e1.trans (same_new (Same.refl _) n)) upd_same⟩
      | true =>
        rw [hrd, if_pos rfl] at q
        walk_at "x"
        refine ⟨l, rows, n, full, c, road, rfl, e1 _ _ hl, h8, hn, hb', e1 _ _ hc, hz, hrd, ?_⟩
        cases hrun : runTo rows n (0, 0, full, full) (road.drop 1) with
        | none =>
          rw [hrun] at q
          exact fun p H' e' hp => q p H' (e1.trans e') hp
        | some s =>
          rw [hrun] at q
          exact fun p H' e' hp => q p H' (e1.trans e') hp
def spLSpot : Sp := fun vs H Q _ => ∃ l rows v, vs = [.ref l, v] ∧ H l = some (.lst (textsV rows)) ∧ rows.length ≤ 8 ∧ PItem H v ∧ ∀ H', Same H H' → Q (.bl (spotB rows.length (tupOf H v))) H'
end
end K48
namespace K48
open PySem PySem.Spec PyProof.Rows L2
local macro_rules | `(tactic| walk_at "hg") => `(tactic| first | assumption | exact upd_same | (apply get_keep; assumption; walk_at "hg") | (apply get_same; assumption; walk_at "hg") | (apply get_mut; assumption; walk_at "hg"))
local macro_rules | `(tactic| walk_at "sq") => `(tactic| first | assumption | (apply SqT.of; walk_at "hg") | (apply SqL.of; walk_at "hg") | (apply same_t; assumption; walk_at "sq") | (apply Same.seq; assumption; walk_at "sq"))
local macro_rules | `(tactic| walk_at "sc") => `(tactic| first | omega | decide | assumption | (unfold CMul; omega) | (unfold CDiv; omega) | (show (0 : Int) < _; omega) | (exact cdivw (by omega) (by omega)) | (exact cdivp (by omega) (by omega)))
local macro_rules | `(tactic| walk_at "x1") => `(tactic| first
  | with_reducible refine x_seq ?_
  | with_reducible refine x_var (by with_unfolding_all rfl) ?_
  | with_reducible refine x_c ?_
  | with_reducible refine x_op ?_
  | with_reducible refine x_rI0 ?_
  | with_reducible refine x_bl ?_
  | with_reducible refine x_rEq (by with_unfolding_all rfl) ?_
  | with_reducible refine x_rNe (by with_unfolding_all rfl) ?_
  | with_reducible refine x_asg ?_
  | with_reducible refine x_gname ?_
  | with_reducible refine x_gcons ?_
  | with_reducible refine x_gnil ?_
  | with_reducible refine x_ret ?_
  | with_reducible refine x_drop ?_
  | with_reducible refine x_next ?_
  | with_reducible refine x_cont ?_
  | with_reducible refine x_brk ?_
  | with_reducible refine x_ifS ?_
  | with_reducible refine x_ifE ?_
  | with_reducible refine x_cons ?_
  | with_reducible refine x_nil ?_
  | with_reducible refine x_test ?_
  | with_reducible refine x_tB ?_
  | with_reducible refine x_and ?_
  | with_reducible refine x_or ?_
  | with_reducible refine x_not ?_
  | with_reducible refine x_andV ?_
  | with_reducible refine x_orV ?_
  | with_reducible refine x_notV ?_
  | with_reducible refine x_chain ?_
  | with_reducible refine x_par ?_
  | with_reducible refine x_two ?_
  | with_reducible refine x_un ?_
  | with_reducible refine x_rU ?_
  | with_reducible refine x_cb ?_
  | with_reducible refine x_call ?_
  | with_reducible refine x_sl ?_
  | with_reducible refine x_nopart ?_
  | with_reducible refine x_part ?_
  | with_reducible refine x_int ?_
  | with_reducible refine x_tup ?_
  | with_reducible refine x_lst ?_
  | with_reducible refine x_bm ?_
  | with_reducible refine x_fld ?_
  | with_reducible refine x_chain3 ?_
  | with_reducible refine x_yes ?_
  | with_reducible refine x_lcT ?_
  | with_reducible refine x_lcL ?_
  | with_reducible refine x_for ?_
  | with_reducible refine x_iT ?_
  | with_reducible refine x_iL ?_
  | with_reducible refine x_rng1 ?_
  | with_reducible refine x_rng2 ?_
  | with_reducible refine x_dcT ?_
  | with_reducible refine x_din ?_
  | with_reducible refine x_dni ?_
  | with_reducible refine x_lcE ?_
  | with_reducible refine x_enS ?_
  | with_reducible refine x_m1 ?_
  | with_reducible refine x_gsub ?_
  | ((with_reducible apply x_setl); (focus (walk_at "hg"; done)); (focus (with_unfolding_all rfl; done)))
  | with_reducible refine x_int1 ?_
  | with_reducible refine x_str2 ?_
  | ((with_reducible apply x_rI); (focus (walk_at "sc"; done)))
  | with_reducible refine x_sw ?_
  | with_reducible refine x_ss ?_
  | ((with_reducible apply x_ixT); (focus (walk_at "sq"; done)); (focus (with_unfolding_all rfl; done)))
  | ((with_reducible apply x_ixL); (focus (walk_at "sq"; done)); (focus (with_unfolding_all rfl; done)))
  | ((with_reducible apply x_gtup); (focus (walk_at "sq"; done)); (focus (with_unfolding_all rfl; done)))
  | ((with_reducible apply x_glst); (focus (walk_at "sq"; done)); (focus (with_unfolding_all rfl; done)))
  | with_reducible refine x_F dn_int ?_
  | with_reducible refine x_F dn_ref ?_
  | with_reducible refine x_T dn_non ?_
  | with_reducible refine x_T (by decide +kernel) ?_
  | with_reducible refine x_F (by decide +kernel) ?_)
local macro_rules | `(tactic| walk_at "sz") => `(tactic| first | (exact Nat.le_of_ble_eq_true rfl) | decide | omega)
local macro_rules | `(tactic| walk_at "x") => `(tactic| ((walk_at "x1"); repeat (walk_at "x1")))
section
variable {P : Program} {w : World} {K : PySem.W.Frag} {mg : Str → Option Value} {base : Heap}
theorem sc_law_is_spot : FnScope ["_law_lines", "_law_thing", "_law_each"] ["_law_lines", "_law_thing"] (defScope s__law_is_spot) := ⟨rfl, rfl, rfl, by decide +kernel, rfl, by decide +kernel, by decide +kernel⟩
theorem ok__law_is_spot (T : Tx w K mg) (B : HasDef K mg "_law_is_spot" s__law_is_spot ["_law_lines", "_law_thing"]) : Def P w K mg base "_law_is_spot" 1 ["_law_lines", "_law_thing"] spLSpot := by
  refine Def.mk B sc_law_is_spot (fun vs H Q E h => ?_) (fun f cdv A outer s H vs Q E hr h => ?_)
  · obtain ⟨l, rows, v, rfl, _⟩ := h
    rfl
  · obtain ⟨l, rows, v, rfl, hl, h8, hv, q⟩ := h
    refine ⟨_, (pss_cons (ps_if (PW.pt (pw_or (pt_not (pt_val (pe_callB call_isi (by rfl) T.z_isinstance boot_isinstance' (pa_cons (pv 1) (pa_cons (pe_bltn (by rfl) T.z_tuple boot_tuple' (v := .ty "tuple") rfl) pa_nil))))) (pw_or1 (pt_cmpR op_ne (pe_callB call_len_seq (by rfl) T.z_len boot_len' (pa_cons (pv 1) pa_nil)) pe_int (nomark _))))) (pss_one (ps_ret pe_bl)) pss_nil)
      (pss_cons (ps_if (pt_not (pt_val (pe_callB (cr_all rfl) (by rfl) T.z_all boot_all' (pa_cons (pe_lc (own := [("_law_each", 2)]) (by rfl) sc_law_is_spot.nd (pi_tup (pv 1)) (blkOk_by (N := ["_law_lines", "_law_thing", "_law_each"]) (sc := defScope s__law_is_spot) (by decide +kernel)) (fun _ _ _ _ _ => (pg_name (i := 2) sc_law_is_spot.nd rfl (Or.inl rfl))) (fun _ _ _ _ _ => pts_nil) (fun _ _ _ _ _ => (pe_and (pe_callB (r := rIsi K) call_isi (by rfl) T.z_isinstance boot_isinstance' (pa_cons (pv 2) (pa_cons (pe_bltn (by rfl) T.z_int boot_int' (v := .ty "int") rfl) pa_nil))) (pe_one (pe_not (pe_callB (r := rIsi K) call_isi (by rfl) T.z_isinstance boot_isinstance' (pa_cons (pv 2) (pa_cons (pe_bltn (by rfl) T.z_bool boot_bool' (v := .ty "bool") rfl) pa_nil)))))))) pa_nil)))) (pss_one (ps_ret pe_bl)) pss_nil)
      (pss_one (ps_ret (pe_chain op_le op_lt pe_int (pe_ix ix_tup (pv 1) pe_int (fun _ _ => rfl)) (pe_callB call_len_seq (by rfl) T.z_len boot_len' (pa_cons (pv 0) pa_nil))))))), ?_⟩
    have hlr : (textsV rows).length = rows.length := List.length_map _
    walk_at "x"
    refine x_isTup hv.1 ?_
    walk_at "x"
    rw [isT_tup]
    cases ht : tupOf H v with
    | none =>
      rw [ht] at q
      walk_at "x"
      exact q H (Same.refl _)
    | some xs =>
      rw [ht] at q
      obtain ⟨a, rfl, ha⟩ := tupOf_some ht
      obtain ⟨hz, hks⟩ := hv.2 xs ht
      refine x_F rfl ?_
      walk_at "x"
      refine ⟨a, xs, rfl, .inr (SqT.of ha), ?_⟩
      walk_at "x"
      refine x_TF (fun h1 => ?_) (fun h1 => ?_)
      · have hne : xs.length ≠ 4 := fun e => by
          have : (V.int (xs.length : Int)) = V.int 4 := by rw [e]; rfl
          rw [decide_eq_true this] at h1
          cases h1
        walk_at "x"
        have e : spotB rows.length (some xs) = false := spotB_len hne
        rw [e] at q
        exact q H (Same.refl _)
      · have h4 : xs.length = 4 := by
          by_cases e : (xs.length : Int) = 4
          · omega
          · have : ¬ V.int (xs.length : Int) = V.int 4 := fun z => e (V.int.inj z)
            rw [decide_eq_false this] at h1
            cases h1
        walk_at "x"
        refine lcT_go (fun i _ l => l = (xs.take i).map fun x => V.bl (isI x)) (SqT.of ha) (by rw [h4]; decide) rfl (fun _ _ _ _ _ h => h) (fun x => rfl) (fun i x H' l' hi e hli hG KT KF kT kF => ?_) (fun D H' l' nD e hD hG => ?_)
        · have hk := (hks x (List.mem_of_getElem? hi)).same e
          have fin : ∀ b, b = isI x → KT (.bl b) H' := fun b hb => kT _ _ (Same.refl _) (by rw [hG, take_snoc hi, List.map_append, hb]; rfl)
          walk_at "x"
          refine x_isInt hk ?_
          walk_at "x"
          cases hb : isB x with
          | true =>
            have hi : isI x = false := by
              cases x with
              | bl b => rfl
              | _ => cases hb
            refine x_T (by rw [Bool.or_true]) ?_
            walk_at "x"
            refine x_isBool hk ?_
            rw [hb]
            walk_at "x"
            exact fin _ hi.symm
          | false =>
            rw [Bool.or_false]
            refine x_TF (fun h1 => ?_) (fun h1 => ?_)
            · walk_at "x"
              refine x_isBool hk ?_
              rw [hb]
              walk_at "x"
              exact fin _ h1.symm
            · exact fin _ h1.symm
        · walk_at "x"
          refine ⟨D, xs.map isI, rfl, SqL.of (hD.trans (by rw [hG, List.take_length, List.map_map]; rfl)), ?_⟩
          have ha' := e _ _ ha
          have hl' := e _ _ hl
          obtain ⟨x0, x1, x2, x3, rfl⟩ : ∃ x0 x1 x2 x3, xs = [x0, x1, x2, x3] := by
            match xs, h4 with
            | [x0, x1, x2, x3], _ => exact ⟨x0, x1, x2, x3, rfl⟩
          have q : ∀ H', Same H H' → Q (.bl (btw x0 0 ((rows.length : Int) - 1) && ([x0, x1, x2, x3].map isI).all id)) H' := q
          walk_at "x"
          cases hall : ([x0, x1, x2, x3].map isI).all id with
          | false =>
            rw [hall, Bool.and_false] at q
            walk_at "x"
            exact q _ e
          | true =>
            rw [hall, Bool.and_true] at q
            have h0 : isI x0 = true := by
              simp only [List.map_cons, List.all_cons, Bool.and_eq_true] at hall
              exact hall.1
            obtain ⟨i, rfl⟩ := isI_int h0
            have q : ∀ H', Same H H' → Q (.bl (decide (0 ≤ i) && decide (i ≤ (rows.length : Int) - 1))) H' := q
            walk_at "x"
            refine x_TF (fun h1 => ?_) (fun h1 => ?_)
            · rw [h1, Bool.true_and] at q
              walk_at "x"
              refine ⟨l, textsV rows, rfl, .inl (SqL.of hl'), ?_⟩
              rw [hlr]
              walk_at "x"
              rw [show decide (i < (rows.length : Int)) = decide (i ≤ (rows.length : Int) - 1) from decide_eq_decide.mpr (by omega)]
              exact q _ e
            · rw [h1, Bool.false_and] at q
              exact q _ e
end
end K48
namespace K48
open PySem PySem.Spec PyProof.Rows L2
local macro_rules | `(tactic| walk_at "hg") => `(tactic| first | assumption | exact upd_same | (apply get_keep; assumption; walk_at "hg") | (apply get_same; assumption; walk_at "hg") | (apply get_mut; assumption; walk_at "hg"))
local macro_rules | `(tactic| walk_at "sq") => `(tactic| first | assumption | (apply SqT.of; walk_at "hg") | (apply SqL.of; walk_at "hg") | (apply same_t; assumption; walk_at "sq") | (apply Same.seq; assumption; walk_at "sq"))
local macro_rules | `(tactic| walk_at "sc") => `(tactic| first | omega | decide | assumption | (unfold CMul; omega) | (unfold CDiv; omega) | (show (0 : Int) < _; omega) | (exact cdivw (by omega) (by omega)) | (exact cdivp (by omega) (by omega)))
local macro_rules | `(tactic| walk_at "x1") => `(tactic| first
  | with_reducible refine x_seq ?_
  | with_reducible refine x_var (by with_unfolding_all rfl) ?_
  | with_reducible refine x_c ?_
  | with_reducible refine x_op ?_
  | with_reducible refine x_rI0 ?_
  | with_reducible refine x_bl ?_
  | with_reducible refine x_rEq (by with_unfolding_all rfl) ?_
  | with_reducible refine x_rNe (by with_unfolding_all rfl) ?_
  | with_reducible refine x_asg ?_
  | with_reducible refine x_gname ?_
  | with_reducible refine x_gcons ?_
  | with_reducible refine x_gnil ?_
  | with_reducible refine x_ret ?_
  | with_reducible refine x_drop ?_
  | with_reducible refine x_next ?_
  | with_reducible refine x_cont ?_
  | with_reducible refine x_brk ?_
  | with_reducible refine x_ifS ?_
  | with_reducible refine x_ifE ?_
  | with_reducible refine x_cons ?_
  | with_reducible refine x_nil ?_
  | with_reducible refine x_test ?_
  | with_reducible refine x_tB ?_
  | with_reducible refine x_and ?_
  | with_reducible refine x_or ?_
  | with_reducible refine x_not ?_
  | with_reducible refine x_andV ?_
  | with_reducible refine x_orV ?_
  | with_reducible refine x_notV ?_
  | with_reducible refine x_chain ?_
  | with_reducible refine x_par ?_
  | with_reducible refine x_two ?_
  | with_reducible refine x_un ?_
  | with_reducible refine x_rU ?_
  | with_reducible refine x_cb ?_
  | with_reducible refine x_call ?_
  | with_reducible refine x_sl ?_
  | with_reducible refine x_nopart ?_
  | with_reducible refine x_part ?_
  | with_reducible refine x_int ?_
  | with_reducible refine x_tup ?_
  | with_reducible refine x_lst ?_
  | with_reducible refine x_bm ?_
  | with_reducible refine x_fld ?_
  | with_reducible refine x_chain3 ?_
  | with_reducible refine x_yes ?_
  | with_reducible refine x_lcT ?_
  | with_reducible refine x_lcL ?_
  | with_reducible refine x_for ?_
  | with_reducible refine x_iT ?_
  | with_reducible refine x_iL ?_
  | with_reducible refine x_rng1 ?_
  | with_reducible refine x_rng2 ?_
  | with_reducible refine x_dcT ?_
  | with_reducible refine x_din ?_
  | with_reducible refine x_dni ?_
  | with_reducible refine x_lcE ?_
  | with_reducible refine x_enS ?_
  | with_reducible refine x_m1 ?_
  | with_reducible refine x_gsub ?_
  | ((with_reducible apply x_setl); (focus (walk_at "hg"; done)); (focus (with_unfolding_all rfl; done)))
  | with_reducible refine x_int1 ?_
  | with_reducible refine x_str2 ?_
  | ((with_reducible apply x_rI); (focus (walk_at "sc"; done)))
  | with_reducible refine x_sw ?_
  | with_reducible refine x_ss ?_
  | ((with_reducible apply x_ixT); (focus (walk_at "sq"; done)); (focus (with_unfolding_all rfl; done)))
  | ((with_reducible apply x_ixL); (focus (walk_at "sq"; done)); (focus (with_unfolding_all rfl; done)))
  | ((with_reducible apply x_gtup); (focus (walk_at "sq"; done)); (focus (with_unfolding_all rfl; done)))
  | ((with_reducible apply x_glst); (focus (walk_at "sq"; done)); (focus (with_unfolding_all rfl; done)))
  | with_reducible refine x_F dn_int ?_
  | with_reducible refine x_F dn_ref ?_
  | with_reducible refine x_T dn_non ?_
  | with_reducible refine x_T (by decide +kernel) ?_
  | with_reducible refine x_F (by decide +kernel) ?_)
local macro_rules | `(tactic| walk_at "sz") => `(tactic| first | (exact Nat.le_of_ble_eq_true rfl) | decide | omega)
local macro_rules | `(tactic| walk_at "x") => `(tactic| ((walk_at "x1"); repeat (walk_at "x1")))
theorem course_none {rows : List Row} {n full : Int} {road : List Int} {o : Option (List (Option (List V)))} (h : beginO rows n full road = none) : courseB rows n full road o = false := by
  unfold beginO at h
  unfold courseB
  cases hc : btw (.int full) 1 (2 * n) && roadB rows.length road with
  | false => rfl
  | true =>
    rw [hc, if_pos rfl] at h
    cases o with
    | none => rfl
    | some its =>
      show (true && (match runTo rows n (0, 0, full, full) (road.drop 1) with | none => false | some s => its.all (spotB rows.length) && certB rows n (lastOf road, s.2) (its.map toSpot))) = false
      rw [h]
      rfl
theorem course_some {rows : List Row} {n full : Int} {road : List Int} {s : Spot} (h : beginO rows n full road = some s) : (∀ its, courseB rows n full road (some its) = (its.all (spotB rows.length) && certB rows n (lastOf road, s.2) (its.map toSpot))) ∧ courseB rows n full road none = false ∧ road ≠ [] := by
  unfold beginO at h
  unfold courseB
  cases hc : btw (.int full) 1 (2 * n) && roadB rows.length road with
  | false => rw [hc, if_neg Bool.false_ne_true] at h; cases h
  | true =>
    rw [hc, if_pos rfl] at h
    refine ⟨fun its => ?_, rfl, fun e => ?_⟩
    · show (true && (match runTo rows n (0, 0, full, full) (road.drop 1) with | none => false | some s => its.all (spotB rows.length) && certB rows n (lastOf road, s.2) (its.map toSpot))) = _
      rw [h, Bool.true_and]
    · rw [e, Bool.and_eq_true] at hc
      cases hc.2
theorem head4 (r : Row) : inV (.str (cutS r.text none (some 4))) [.str "give", .str "agai"] = r.ends := by
  cases r with
  | go r => exact (show ∀ r : Fin 8, inV (.str (cutS (Row.go r).text none (some 4))) [.str "give", .str "agai"] = false by decide +kernel) r
  | iff c q r => cases c <;> cases q <;> revert r <;> decide +kernel
  | less s q => cases s <;> cases q <;> decide +kernel
  | _ => decide +kernel
theorem stay_ends {rows : List Row} {n : Int} {ss : List Spot} {t : Spot} (h : (rowAt rows t.1).ends = true) : stayB rows n ss t = false := by unfold stayB; rw [h]; rfl
theorem stay_flat {rows : List Row} {n : Int} {ss : List Spot} {t : Spot} (h : t.2.1 ≥ t.2.2.1) : stayB rows n ss t = false := by
  unfold stayB
  have : bnd n t.2.1 t.2.2.1 t.2.2.2 = false := by
    cases hb : bnd n t.2.1 t.2.2.1 t.2.2.2 with
    | false => rfl
    | true => have := (bnd_out hb).2.1; omega
  rw [this, Bool.and_false, Bool.false_and]
theorem stay_wide {rows : List Row} {n : Int} {ss : List Spot} {t : Spot} (h0 : t.2.1 < t.2.2.1) (h : wide n t = true) : stayB rows n ss t = false := by
  unfold stayB
  rw [bnd_wide h0, h]
  simp
theorem stay_in {rows : List Row} {n : Int} {ss : List Spot} {t : Spot} (h1 : (rowAt rows t.1).ends = false) (h0 : t.2.1 < t.2.2.1) (h : wide n t = false) : stayB rows n ss t = (next (rowAt rows t.1) n t).all (kin ss) ∧ -(8 * n) ≤ t.2.2.2 ∧ t.2.2.2 ≤ 8 * n := by
  have hb : bnd n t.2.1 t.2.2.1 t.2.2.2 = true := by rw [bnd_wide h0, h]; rfl
  refine ⟨?_, (bnd_out hb).2.2.2⟩
  unfold stayB
  rw [h1, hb]
  rfl
/-- the pairs that dict() is made of -/
def PairsAt (K : PySem.W.Frag) (H : Hp) (l : List V) (ss : List Spot) : Prop := ∃ ps prs, l = List.map V.ref ps ∧ Paired (fun p (q : Addr × List L2.Key × V) => H p = some (.tup [V.ref q.1, q.2.2]) ∧ H q.1 = some (.tup (List.map kV q.2.1))) ps prs ∧ prs.map (·.2) = ss.map fun s => (kS s, V.bl true)
theorem PairsAt.tups {K : PySem.W.Frag} {H H' : Hp} {l : List V} {ss : List Spot} (ts : TupSame H H') (h : PairsAt K H l ss) : PairsAt K H' l ss :=
  let ⟨ps, prs, h1, h2, h3⟩ := h
  ⟨ps, prs, h1, Paired.mapP h2 fun p q ⟨a, b⟩ => ⟨ts _ _ a, ts _ _ b⟩, h3⟩
section
variable {P : Program} {w : World} {K : PySem.W.Frag} {mg : Str → Option Value} {base : Heap}
def spLSticks : Sp := fun vs H Q _ => ∃ l rows n full c road paper o, vs = [.ref l, .int n, .int full, .ref c, paper] ∧ H l = some (.lst (textsV rows)) ∧ Prg rows ∧ (1 ≤ n ∧ n ≤ 10 ^ 30) ∧ H c = some (.tup (road.map V.int)) ∧ road.length < 100000 ∧ PapAt H paper o ∧ ∀ H', Same H H' → Q (.bl (courseB rows n full road o)) H'
theorem sc_law_sticks : FnScope ["_law_lines", "_law_number_here", "_law_full", "_law_road", "_law_paper", "_law_begin_here", "_law_thing", "_law_known_here", "_law_spot", "_law_later"] ["_law_lines", "_law_number_here", "_law_full", "_law_road", "_law_paper"] (defScope s__law_sticks) := ⟨rfl, rfl, rfl, by decide +kernel, rfl, by decide +kernel, by decide +kernel⟩
theorem ok__law_sticks (T : Tx w K mg) (B : HasDef K mg "_law_sticks" s__law_sticks ["_law_lines", "_law_number_here", "_law_full", "_law_road", "_law_paper"]) (D_law_begin : Def P w K mg base "_law_begin" 5 ["_law_lines", "_law_number_here", "_law_full", "_law_road"] spBegin) (D_law_is_spot : Def P w K mg base "_law_is_spot" 1 ["_law_lines", "_law_thing"] spLSpot)
    (D_law_is_wide_spot : Def P w K mg base "_law_is_wide_spot" 2 ["_law_number_here", "_law_spot"] spWide) (D_law_next : Def P w K mg base "_law_next" 3 ["_law_lines", "_law_number_here", "_law_spot"] spNext) :
    Def P w K mg base "_law_sticks" 6 ["_law_lines", "_law_number_here", "_law_full", "_law_road", "_law_paper"] spLSticks := by
  refine Def.mk B sc_law_sticks (fun vs H Q E h => ?_) (fun f cdv A outer s H vs Q E hr h => ?_)
  · obtain ⟨l, rows, n, full, c, road, paper, o, rfl, _⟩ := h
    rfl
  · obtain ⟨l, rows, n, full, c, road, paper, o, rfl, hl, pr, hn, hc, hz, ho, q⟩ := h
    refine ⟨_, (pss_cons (ps_set (i := 5) sc_law_sticks.nd rfl (Or.inl rfl) (pe_d D_law_begin hr (pa_cons (pv 0) (pa_cons (pv 1) (pa_cons (pv 2) (pa_cons (pv 3) pa_nil))))))
      (pss_cons (ps_if (PW.pt (pw_or (pt_cmpR (op_eqD hr.units) (pv 5) (pe_lst pa_nil) (nomark _)) (pw_or (pt_not (pt_val (pe_callB call_isi (by rfl) T.z_isinstance boot_isinstance' (pa_cons (pv 4) (pa_cons (pe_bltn (by rfl) T.z_tuple boot_tuple' (v := .ty "tuple") rfl) pa_nil))))) (pw_or1 (pt_not (pt_val (pe_callB (cr_all rfl) (by rfl) T.z_all boot_all' (pa_cons (pe_lc (own := [("_law_thing", 6)]) (by rfl) sc_law_sticks.nd (pi_tup (pv 4)) (blkOk_by (N := ["_law_lines", "_law_number_here", "_law_full", "_law_road", "_law_paper", "_law_begin_here", "_law_thing", "_law_known_here", "_law_spot", "_law_later"]) (sc := defScope s__law_sticks) (by decide +kernel)) (fun _ _ _ _ _ => (pg_name (i := 6) sc_law_sticks.nd rfl (Or.inl rfl))) (fun _ _ _ _ _ => pts_nil) (fun _ _ _ _ _ => (pe_d D_law_is_spot hr (pa_cons (pv 0) (pa_cons (pv 6) pa_nil))))) pa_nil)))))))) (pss_one (ps_ret pe_bl)) pss_nil)
      (pss_cons (ps_set (i := 7) sc_law_sticks.nd rfl (Or.inr rfl) (pe_callTy (call_dictT (by rfl) (room_u2 hr)) (by rfl) T.z_dict boot_dict' (pa_cons (pe_lc (own := [("_law_spot", 8)]) (by rfl) sc_law_sticks.nd (pi_tup (pv 4)) (blkOk_by (N := ["_law_lines", "_law_number_here", "_law_full", "_law_road", "_law_paper", "_law_begin_here", "_law_thing", "_law_known_here", "_law_spot", "_law_later"]) (sc := defScope s__law_sticks) (by decide +kernel)) (fun _ _ _ _ _ => (pg_name (i := 8) sc_law_sticks.nd rfl (Or.inl rfl))) (fun _ _ _ _ _ => pts_nil) (fun _ _ _ _ _ => (pe_tup (pa_cons (pv 8) (pa_cons pe_bl pa_nil))))) pa_nil)))
      (pss_cons (ps_if (PW.pt (pw_or (pt_cmpR op_ne (pe_callB call_len_dT (by rfl) T.z_len boot_len' (pa_cons (pv 7) pa_nil)) (pe_callB call_len_seq (by rfl) T.z_len boot_len' (pa_cons (pv 4) pa_nil)) (nomark _)) (pw_or1 (pt_cmp (pc_dnotin (room_u1 hr) (pe_callTy call_tuple_of (by rfl) T.z_tuple boot_tuple' (pa_cons (pe_op op_cat (pe_lst (pa_cons (pe_ix ix_tup (pv 3) (pe_un un_neg pe_int) (fun _ _ => rfl)) pa_nil)) (pv 5)) pa_nil)) (pv 7)))))) (pss_one (ps_ret pe_bl)) pss_nil)
      (pss_cons (ps_for PassesOwn.never (by rfl) (pi_tup (pv 4)) (pg_name (i := 8) sc_law_sticks.nd rfl (Or.inl rfl))
      (pss_cons (ps_if (PW.pt (pw_or (pt_cmpR op_in_seq (pe_slice sl_str (pe_ix ix_list (pv 0) (pe_ix ix_tup (pv 8) pe_int (fun _ _ => rfl)) (fun _ _ => rfl)) po_none (po_some pe_int)) (pe_lst (pa_cons pe_str (pa_cons pe_str pa_nil))) (by rfl)) (pw_or (pt_cmpR op_ge (pe_ix ix_tup (pv 8) pe_int (fun _ _ => rfl)) (pe_ix ix_tup (pv 8) pe_int (fun _ _ => rfl)) (nomark _)) (pw_or1 (pt_val (pe_d D_law_is_wide_spot hr (pa_cons (pv 1) (pa_cons (pv 8) pa_nil)))))))) (pss_one (ps_ret pe_bl)) pss_nil)
      (pss_one (ps_if (pt_not (pt_val (pe_callB (cr_all rfl) (by rfl) T.z_all boot_all' (pa_cons (pe_lc (own := [("_law_later", 9)]) (by rfl) sc_law_sticks.nd (pi_list (pe_d D_law_next hr (pa_cons (pv 0) (pa_cons (pv 1) (pa_cons (pv 8) pa_nil))))) (blkOk_by (N := ["_law_lines", "_law_number_here", "_law_full", "_law_road", "_law_paper", "_law_begin_here", "_law_thing", "_law_known_here", "_law_spot", "_law_later"]) (sc := defScope s__law_sticks) (by decide +kernel)) (fun _ _ _ _ _ => (pg_name (i := 9) sc_law_sticks.nd rfl (Or.inl rfl))) (fun _ _ _ _ _ => pts_nil) (fun _ _ _ _ _ => (pe_cmp (pc_din (room_u1 hr) (pv 9) (pv 7))))) pa_nil)))) (pss_one (ps_ret pe_bl)) pss_nil))))
      (pss_one (ps_ret pe_bl))))))), ?_⟩
    walk_at "x"
    refine ⟨l, rows, n, full, c, road, rfl, hl, pr.most, hn, hc, hz, ?_⟩
    cases hbg : beginO rows n full road with
    | none =>
      rw [course_none hbg] at q
      intro bl H1 e1 hbl
      walk_at "x"
      refine ⟨Nat.zero_le _, fun p1 n1 => ?_⟩
      have e2 := same_new (u := .lst []) (Same.refl H1) n1
      refine ⟨.list [], .list [], .lst (SqL.of (e2 _ _ hbl)) .nil, .lst (SqL.of upd_same) .nil, shaped_nilL, shaped_nilL, ?_⟩
      rw [eqv_lst_nil]
      walk_at "x"
      exact q _ (e1.trans e2)
    | some st =>
      obtain ⟨cs, cn, hroad0⟩ := course_some hbg
      intro bl H0 e0 hbl0
      walk_at "x"
      refine ⟨Nat.zero_le _, fun p1 n1 => ?_⟩
      have e2 := same_new (u := .lst []) (Same.refl H0) n1
      have e1 : Same H (upd H0 p1 (.lst [])) := e0.trans e2
      have hbl := e2 _ _ hbl0
      refine ⟨.list ([st.2.1, st.2.2.1, st.2.2.2].map PyData.int), .list [], .lst (SqL.of hbl) (dp_ints [st.2.1, st.2.2.1, st.2.2.2]), .lst (SqL.of upd_same) .nil, shaped_lst (lay_ints _) (Nat.le_trans (depth_ints _) (by decide)), shaped_nilL, ?_⟩
      rw [eqv_lst_nil]
      generalize upd H0 p1 (.lst []) = H1 at e1 hbl
      have ho1 := ho.same e1
      refine x_bl ?_
      refine x_F rfl ?_
      walk_at "x"
      refine x_isTup ho1.kd ?_
      walk_at "x"
      cases o with
      | none =>
        rw [ho1.2]
        rw [cn] at q
        walk_at "x"
        exact q H1 e1
      | some its =>
        obtain ⟨pa, xs, rfl, hpa, hxz, hits⟩ := ho1
        have ei : isT H1 (.ref pa) = true := by rw [isT_tup]; show (seqT (H1 pa)).isSome = true; rw [hpa]; rfl
        rw [ei]
        rw [cs] at q
        have hlen : xs.length = its.length := Paired.length hits
        walk_at "x"
        refine lcT_go (fun i _ l => l = (its.take i).map fun it => V.bl (spotB rows.length it)) (SqT.of hpa) (Nat.lt_of_lt_of_le hxz (by decide)) rfl (fun _ _ _ _ _ h => h) (fun x => rfl) (fun i x H' l' hi e hli hG KT KF kT kF => ?_) (fun D H2 l' nD e2 hD hG => ?_)
        · obtain ⟨it, hit, hp1, hp2⟩ := paired_getR hits hi
          walk_at "x"
          refine ⟨l, rows, x, rfl, e _ _ (e1 _ _ hl), pr.most, hp1.same e, fun H3 e3 => ?_⟩
          refine kT _ _ e3 ?_
          rw [hG, take_snoc hit, List.map_append, kd_tupOf e hp1.1, hp2]
          rfl
        · walk_at "x"
          refine ⟨D, its.map (spotB rows.length), rfl, SqL.of (hD.trans (by rw [hG, hlen, List.take_length, List.map_map]; rfl)), ?_⟩
          rw [all_map]
          have e12 := e1.trans e2
          cases hall : its.all (spotB rows.length) with
          | false =>
            rw [hall] at q
            walk_at "x"
            exact q H2 e12
          | true =>
            rw [hall] at q
            have hs := (items_spots hits hall).same e2
            have hin : ∀ s ∈ its.map toSpot, 0 ≤ s.1 ∧ s.1 < rows.length := by
              intro s hs
              obtain ⟨it, h1, rfl⟩ := List.mem_map.mp hs
              exact (spotB_spot (List.all_eq_true.mp hall it h1)).2
            generalize its.map toSpot = ss at q hs hin
            have hq : ∀ H', Same H H' → Q (.bl (!decide ((dictOf ss).length < ss.length) && kin ss (lastOf road, st.2) && ss.all (stayB rows n ss))) H' := q
            walk_at "x"
            have hpa2 := e2 _ _ hpa
            refine lcT_go (fun i H l => PairsAt K H l (ss.take i)) (SqT.of hpa2) (Nat.lt_of_lt_of_le hxz (by decide)) ⟨[], [], rfl, .nil, rfl⟩ (fun _ _ _ _ ts h => h.tups ts) (fun x => rfl) (fun i x H' l' hi e hli hG KT KF kT kF => ?_) (fun D3 H3 l' nD3 e3 hD3 hG => ?_)
            · obtain ⟨b, u, rfl, hu, hb⟩ := hs.getR hi
              walk_at "x"
              refine ⟨by walk_at "sz", fun p n => ?_⟩
              have en := same_new (u := .tup [.ref b, .bl true]) (Same.refl H') n
              refine kT _ _ en ?_
              obtain ⟨ps, prs, h1, h2, h3⟩ := hG.tups (Same.tups en)
              refine ⟨ps ++ [p], prs ++ [(b, kS u, .bl true)], by rw [h1, List.map_append]; rfl, paired_snoc h2 ⟨upd_same, en _ _ (e _ _ hb)⟩, ?_⟩
              rw [List.map_append, h3, take_snoc hu, List.map_append]
              rfl
            · have hsl : xs.length = ss.length := hs.len
              rw [hsl, List.take_length] at hG
              obtain ⟨ps, prs, h1, h2, h3⟩ := hG
              walk_at "x"
              refine ⟨D3, ps, prs, rfl, SqL.of (by rw [hD3, h1]), Paired.mapP h2 fun p q ⟨a, b⟩ => ⟨SqT.of a, b⟩, fun D2 n2 => ?_⟩
              rw [h3]
              have hD2 : upd H3 D2 (.dT (mergeT [] (ss.map fun s => (kS s, V.bl true)))) D2 = some (.dT (dictOf ss)) := upd_same
              have e32 := same_new (u := .dT (mergeT [] (ss.map fun s => (kS s, V.bl true)))) e3 n2
              have e13 := e12.trans e32
              have hs3 := hs.same e32
              generalize upd H3 D2 (.dT (mergeT [] (ss.map fun s => (kS s, V.bl true)))) = H4 at hD2 e32 e13 hs3
              have hpa4 := e32 _ _ hpa2
              have hbl4 := e32 _ _ (e2 _ _ hbl)
              walk_at "x"
              refine ⟨D2, dictOf ss, rfl, hD2, ?_⟩
              walk_at "x"
              refine ⟨pa, xs, rfl, .inr (SqT.of hpa4), ?_⟩
              walk_at "x"
              rw [dV_int]
              obtain ⟨jl, hjl, hlast⟩ := lastOf_get hroad0
              have hdl := dictOf_len ss
              refine x_TF (fun h1 => ?_) (fun h1 => ?_)
              · have h2 : decide ((dictOf ss).length < ss.length) = true := decide_eq_true (by
                  have : ¬ (((dictOf ss).length : Int) = (xs.length : Int)) := fun z => by rw [decide_eq_true z] at h1; cases h1
                  omega)
                rw [h2] at hq
                walk_at "x"
                exact hq _ e13
              have h2 : decide ((dictOf ss).length < ss.length) = false := decide_eq_false (by
                by_cases z : (((dictOf ss).length : Int) = (xs.length : Int))
                · omega
                · rw [decide_eq_false z] at h1; cases h1)
              rw [h2] at hq
              walk_at "x"
              refine x_ixT (SqT.of (e13 _ _ hc)) (at_last (j := jl) (by rw [List.length_map]; exact hjl) (by rw [List.getElem?_map, hlast]; rfl)) ?_
              walk_at "x"
              refine ⟨by walk_at "sz", fun p4 n4 => ?_⟩
              walk_at "x"
              refine ⟨p4, bl, _, _, rfl, rfl, upd_same, get_keep n4 hbl4, by walk_at "sz", fun p5 n5 => ?_⟩
              walk_at "x"
              refine ⟨p5, _, rfl, .inl ⟨SqL.of upd_same, fun p6 n6 => ?_⟩⟩
              have e46 : Same H4 (upd (upd (upd H4 p4 (.lst [.int (lastOf road)])) p5 (.lst ([V.int (lastOf road)] ++ [.int st.2.1, .int st.2.2.1, .int st.2.2.2]))) p6 (.tup ([V.int (lastOf road)] ++ [.int st.2.1, .int st.2.2.1, .int st.2.2.2]))) := same_new (same_new (same_new (Same.refl _) n4) n5) n6
              walk_at "x"
              have hD6 := e46 _ _ hD2
              have hkey : upd (upd (upd H4 p4 (.lst [.int (lastOf road)])) p5 (.lst ([V.int (lastOf road)] ++ [.int st.2.1, .int st.2.2.1, .int st.2.2.2]))) p6 (.tup ([V.int (lastOf road)] ++ [.int st.2.1, .int st.2.2.1, .int st.2.2.2])) p6 = some (.tup (List.map kV (kS (lastOf road, st.2)))) := upd_same
              refine ⟨D2, _, rfl, DGet.t (k := kS (lastOf road, st.2)) hD6 hkey, ?_⟩
              have hq : ∀ H', Same H H' → Q (.bl (kin ss (lastOf road, st.2) && ss.all (stayB rows n ss))) H' := hq
              have e14 := e13.trans e46
              have hpa6 := e46 _ _ hpa4
              have hs6 := hs3.same e46
              generalize upd (upd (upd H4 p4 (.lst [.int (lastOf road)])) p5 (.lst ([V.int (lastOf road)] ++ [.int st.2.1, .int st.2.2.1, .int st.2.2.2]))) p6 (.tup ([V.int (lastOf road)] ++ [.int st.2.1, .int st.2.2.1, .int st.2.2.2])) = H6 at hD6 e14 hpa6 hs6
              refine x_bl ?_
              show (if (!kin ss (lastOf road, st.2)) = true then _ else _)
              cases hk : kin ss (lastOf road, st.2) with
              | false =>
                rw [hk] at hq
                walk_at "x"
                exact hq _ e14
              | true =>
              rw [hk] at hq
              have hq : ∀ H', Same H H' → Q (.bl (ss.all (stayB rows n ss))) H' := hq
              walk_at "x"
              refine ⟨pa, rfl, ⟨xs, SqT.of hpa6⟩, ?_⟩
              refine for_tup (xs := xs) (fun i σ H' => ∃ v6 v8 v9 : Option V, σ = [some (.ref l), some (.int n), some (.int full), some (.ref c), some (.ref pa), some (.ref bl), v6, some (.ref D2), v8, v9] ∧ Same H6 H' ∧ (ss.take i).all (stayB rows n ss) = true) ⟨_, _, _, rfl, Same.refl _, rfl⟩ (fun i σ H' _ ⟨_, _, _, _, e5, _⟩ => SqT.of (e5 _ _ hpa6)) (fun i x σ H' hi hP => ?_) (fun σ H' hP => ?_)
              · obtain ⟨v6, v8, v9, rfl, e5, hst⟩ := hP
                obtain ⟨b, u, rfl, hu, hb⟩ := hs6.getR hi
                have hb5 : H' b = some (.tup [.int u.1, .int u.2.1, .int u.2.2.1, .int u.2.2.2]) := e5 _ _ hb
                obtain ⟨h10, h11⟩ := hin u (List.mem_of_getElem? hu)
                have bad : stayB rows n ss u = false → ∀ H', Same H H' → Q (.bl false) H' := fun z H' e' => by
                  have := hq H' e'
                  have ee : ss.all (stayB rows n ss) = false := by
                    cases hh : ss.all (stayB rows n ss) with
                    | false => rfl
                    | true =>
                      rw [List.all_eq_true.mp hh u (List.mem_of_getElem? hu)] at z
                      cases z
                  rw [ee] at this
                  exact this
                have e15 := e14.trans e5
                have hl5 := e15 _ _ hl
                have hD5 := e5 _ _ hD6
                walk_at "x"
                refine x_ixL (SqL.of hl5) (texts_get h10 h11) ?_
                walk_at "x"
                refine ⟨(rowAt rows u.1).text, rfl, szl (Nat.le_trans (split_row _).2 (by decide)), ?_⟩
                walk_at "x"
                refine ⟨by walk_at "sz", fun p7 n7 => ?_⟩
                refine x_inL (SqL.of upd_same) rfl rfl ?_
                rw [head4]
                have e7 := same_new (u := .lst [.str "give", .str "agai"]) (Same.refl H') n7
                have hb7 := e7 _ _ hb5
                walk_at "x"
                cases hends : (rowAt rows u.1).ends with
                | true =>
                  walk_at "x"
                  exact bad (stay_ends hends) _ (e15.trans e7)
                | false =>
                walk_at "x"
                refine x_TF (fun h3 => ?_) (fun h3 => ?_)
                · walk_at "x"
                  exact bad (stay_flat (of_decide_eq_true h3)) _ (e15.trans e7)
                have h3' : u.2.1 < u.2.2.1 := by
                  have := of_decide_eq_false h3
                  omega
                walk_at "x"
                refine ⟨n, b, u, rfl, hb7, ?_⟩
                walk_at "x"
                cases hwd : wide n u with
                | true =>
                  walk_at "x"
                  exact bad (stay_wide h3' hwd) _ (e15.trans e7)
                | false =>
                obtain ⟨hst5, o4, o5⟩ := stay_in (ss := ss) hends h3' hwd
                walk_at "x"
                refine ⟨l, b, rows, n, u, rfl, e7 _ _ hl5, hb7, h10, h11, hn, ⟨o4, o5⟩, fun p9 H9 ys e9 n9 h9 hs9 => ?_⟩
                have hNl : (next (rowAt rows u.1) n u).length ≤ 2 := next_two _ _ _
                have hD9 : H9 D2 = some (.dT (dictOf ss)) := e9 _ _ (e7 _ _ hD5)
                refine lcL_go (fun i _ l => l = ((next (rowAt rows u.1) n u).take i).map fun s => V.bl (kin ss s)) (SqL.of h9) (by rw [hs9.len]; exact Nat.lt_of_le_of_lt hNl (by decide)) rfl (fun _ _ _ _ _ h => h) (fun x => rfl) (fun j x H10 l' hj e10 hlj hG KT KF kT kF => ?_) (fun D3 H10 l' nD3 e10 hD3 hG => ?_)
                · obtain ⟨b2, s2, rfl, hs2, hb2⟩ := hs9.getR hj
                  walk_at "x"
                  refine ⟨D2, _, rfl, DGet.t (k := kS s2) (e10 _ _ hD9) (e10 _ _ hb2), ?_⟩
                  refine kT _ _ (Same.refl _) ?_
                  rw [hG, take_snoc hs2, List.map_append]
                  rfl
                · walk_at "x"
                  refine ⟨D3, (next (rowAt rows u.1) n u).map (kin ss), rfl, SqL.of (hD3.trans (by rw [hG, hs9.len, List.take_length, List.map_map]; rfl)), ?_⟩
                  rw [all_map]
                  walk_at "x"
                  have e11 := (e7.trans e9).trans e10
                  cases hall2 : (next (rowAt rows u.1) n u).all (kin ss) with
                  | false =>
                    walk_at "x"
                    exact bad (hst5.trans hall2) _ (e15.trans e11)
                  | true =>
                    walk_at "x"
                    refine ⟨_, _, _, rfl, e5.trans e11, ?_⟩
                    rw [take_snoc hu, List.all_append, hst, List.all_cons, List.all_nil, hst5, hall2]
                    rfl
              · obtain ⟨v6, v8, v9, rfl, e5, hst⟩ := hP
                rw [hsl, List.take_length] at hst
                rw [hst] at hq
                walk_at "x"
                exact hq _ (e14.trans e5)
end
end K48
namespace K48
open PySem PySem.Spec PyProof.Rows L2
local macro_rules | `(tactic| walk_at "hg") => `(tactic| first | assumption | exact upd_same | (apply get_keep; assumption; walk_at "hg") | (apply get_same; assumption; walk_at "hg") | (apply get_mut; assumption; walk_at "hg"))
local macro_rules | `(tactic| walk_at "sq") => `(tactic| first | assumption | (apply SqT.of; walk_at "hg") | (apply SqL.of; walk_at "hg") | (apply same_t; assumption; walk_at "sq") | (apply Same.seq; assumption; walk_at "sq"))
local macro_rules | `(tactic| walk_at "sc") => `(tactic| first | omega | decide | assumption | (unfold CMul; omega) | (unfold CDiv; omega) | (show (0 : Int) < _; omega) | (exact cdivw (by omega) (by omega)) | (exact cdivp (by omega) (by omega)))
local macro_rules | `(tactic| walk_at "x1") => `(tactic| first
  | with_reducible refine x_seq ?_
  | with_reducible refine x_var (by with_unfolding_all rfl) ?_
  | with_reducible refine x_c ?_
  | with_reducible refine x_op ?_
  | with_reducible refine x_rI0 ?_
  | with_reducible refine x_bl ?_
  | with_reducible refine x_rEq (by with_unfolding_all rfl) ?_
  | with_reducible refine x_rNe (by with_unfolding_all rfl) ?_
  | with_reducible refine x_asg ?_
  | with_reducible refine x_gname ?_
  | with_reducible refine x_gcons ?_
  | with_reducible refine x_gnil ?_
  | with_reducible refine x_ret ?_
  | with_reducible refine x_drop ?_
  | with_reducible refine x_next ?_
  | with_reducible refine x_cont ?_
  | with_reducible refine x_brk ?_
  | with_reducible refine x_ifS ?_
  | with_reducible refine x_ifE ?_
  | with_reducible refine x_cons ?_
  | with_reducible refine x_nil ?_
  | with_reducible refine x_test ?_
  | with_reducible refine x_tB ?_
  | with_reducible refine x_and ?_
  | with_reducible refine x_or ?_
  | with_reducible refine x_not ?_
  | with_reducible refine x_andV ?_
  | with_reducible refine x_orV ?_
  | with_reducible refine x_notV ?_
  | with_reducible refine x_chain ?_
  | with_reducible refine x_par ?_
  | with_reducible refine x_two ?_
  | with_reducible refine x_un ?_
  | with_reducible refine x_rU ?_
  | with_reducible refine x_cb ?_
  | with_reducible refine x_call ?_
  | with_reducible refine x_sl ?_
  | with_reducible refine x_nopart ?_
  | with_reducible refine x_part ?_
  | with_reducible refine x_int ?_
  | with_reducible refine x_tup ?_
  | with_reducible refine x_lst ?_
  | with_reducible refine x_bm ?_
  | with_reducible refine x_fld ?_
  | with_reducible refine x_chain3 ?_
  | with_reducible refine x_yes ?_
  | with_reducible refine x_lcT ?_
  | with_reducible refine x_lcL ?_
  | with_reducible refine x_for ?_
  | with_reducible refine x_iT ?_
  | with_reducible refine x_iL ?_
  | with_reducible refine x_rng1 ?_
  | with_reducible refine x_rng2 ?_
  | with_reducible refine x_dcT ?_
  | with_reducible refine x_din ?_
  | with_reducible refine x_dni ?_
  | with_reducible refine x_lcE ?_
  | with_reducible refine x_enS ?_
  | with_reducible refine x_m1 ?_
  | with_reducible refine x_gsub ?_
  | ((with_reducible apply x_setl); (focus (walk_at "hg"; done)); (focus (with_unfolding_all rfl; done)))
  | with_reducible refine x_int1 ?_
  | with_reducible refine x_str2 ?_
  | ((with_reducible apply x_rI); (focus (walk_at "sc"; done)))
  | with_reducible refine x_sw ?_
  | with_reducible refine x_ss ?_
  | ((with_reducible apply x_ixT); (focus (walk_at "sq"; done)); (focus (with_unfolding_all rfl; done)))
  | ((with_reducible apply x_ixL); (focus (walk_at "sq"; done)); (focus (with_unfolding_all rfl; done)))
  | ((with_reducible apply x_gtup); (focus (walk_at "sq"; done)); (focus (with_unfolding_all rfl; done)))
  | ((with_reducible apply x_glst); (focus (walk_at "sq"; done)); (focus (with_unfolding_all rfl; done)))
  | with_reducible refine x_F dn_int ?_
  | with_reducible refine x_F dn_ref ?_
  | with_reducible refine x_T dn_non ?_
  | with_reducible refine x_T (by decide +kernel) ?_
  | with_reducible refine x_F (by decide +kernel) ?_)
local macro_rules | `(tactic| walk_at "sz") => `(tactic| first | (exact Nat.le_of_ble_eq_true rfl) | decide | omega)
local macro_rules | `(tactic| walk_at "x") => `(tactic| ((walk_at "x1"); repeat (walk_at "x1")))
/-! ### drawn draws -/
theorem x_par3 {i j l : Nat} {tl : TA} {D : Ends} {σ : L2.St} {H : Hp} (q : tl σ H fun vs H1 => ∃ u v w, vs = [u, v, w] ∧ D.nx (((σ.set i (some u)).set j (some v)).set l (some w)) H1) : tPar3 i j l tl D σ H := q
theorem x_three {u v w : V} {W : V → V → V → Prop} (q : W u v w) : ∃ u' v' w', [u, v, w] = [u', v', w'] ∧ W u' v' w' := ⟨u, v, w, rfl, q⟩
theorem goes_in {rows : List Row} (pr : Prg rows) {i : Int} (h0 : 0 ≤ i) (h1 : i < rows.length) (hm : (rowAt rows i).moves = true) (n c z : Int) : 0 ≤ (goes (rowAt rows i) n i c z).1 ∧ (goes (rowAt rows i) n i c z).1 < (rows.length : Int) := by
  obtain ⟨k1, k2⟩ := pr.ok i.toNat _ (rowAt_get h0 h1)
  generalize rowAt rows i = r at hm k1 k2
  have nl : r.lasts = false → i + 1 < rows.length := fun h => by
    by_cases e : i.toNat + 1 = rows.length
    · rw [k2 e] at h
      cases h
    · omega
  cases r with
  | take => cases hm
  | again => cases hm
  | giveC => cases hm
  | giveR => cases hm
  | go r =>
    have h3 : r.val < rows.length := of_decide_eq_true k1
    show 0 ≤ (r.val : Int) ∧ (r.val : Int) < rows.length
    omega
  | less s q =>
    have := nl rfl
    show 0 ≤ i + 1 ∧ i + 1 < (rows.length : Int)
    omega
  | iff b q r =>
    have := nl rfl
    have h3 : r.val < rows.length := of_decide_eq_true (Bool.and_eq_true_iff.mp k1).1
    show 0 ≤ (if (if b then c else z) < amt q.times n z then (r.val : Int) else i + 1) ∧ (if (if b then c else z) < amt q.times n z then (r.val : Int) else i + 1) < (rows.length : Int)
    split <;> omega
theorem take_text (r : Row) : decide (r.text = ("take" : Str)) = decide (r = .take) := by
  cases r with
  | go r => exact (show ∀ r : Fin 8, decide ((Row.go r).text = ("take" : Str)) = decide (Row.go r = .take) by decide +kernel) r
  | iff c q r => cases c <;> cases q <;> revert r <;> decide +kernel
  | less s q => cases s <;> cases q <;> decide +kernel
  | _ => decide +kernel
abbrev Mk3 := Int × Int × Int
def MarksAt (H : Hp) (rl ml : Addr) (xs : List V) (ms : List Mk3) : Prop := Paired (fun v (m : Mk3) => ∃ a, v = V.ref a ∧ a ≠ rl ∧ a ≠ ml ∧ H a = some (.lst [.int m.1, .int m.2.1, .int m.2.2])) xs ms
def mkD (m : Mk3) : PyData := .list [.int m.1, .int m.2.1, .int m.2.2]
theorem lay_marks : ∀ ms : List Mk3, PyData.canLayAll0 (ms.map mkD) = true
  | [] => by simp [PyData.canLayAll0]
  | s :: ss => by simp [PyData.canLayAll0, PyData.canLay0, mkD, lay_marks ss]
theorem depth_marks : ∀ ms : List Mk3, PyData.depthAll (ms.map mkD) ≤ 2
  | [] => by simp [PyData.depthAll]
  | s :: ss => by
    have := depth_marks ss
    have h : PyData.depth (mkD s) ≤ 2 := by simp [mkD, PyData.depth, PyData.depthAll]
    simp only [List.map_cons, PyData.depthAll]
    omega
theorem dp_marks {K : PySem.W.Frag} {H : Hp} {rl ml : Addr} : ∀ {xs : List V} {ms : List Mk3}, MarksAt H rl ml xs ms → DpAll K H xs (ms.map mkD)
  | _, _, .nil => .nil
  | _, _, .cons (b := m) ⟨a, ev, _, _, ha⟩ t => by
    rw [ev]
    exact .cons (.lst (SqL.of ha) (.cons (.int _) (.cons (.int _) (.cons (.int _) .nil)))) (dp_marks t)
theorem MarksAt.same {H H' : Hp} {rl ml : Addr} {xs : List V} {ms : List Mk3} (e : Same H H') (h : MarksAt H rl ml xs ms) : MarksAt H' rl ml xs ms := Paired.mapP h fun v m ⟨a, e1, e2, e3, e4⟩ => ⟨a, e1, e2, e3, e _ _ e4⟩
theorem MarksAt.mutR {H : Hp} {rl ml : Addr} {xs : List V} {ms : List Mk3} {u : HO} (h : MarksAt H rl ml xs ms) : MarksAt (upd H rl u) rl ml xs ms := Paired.mapP h fun v m ⟨a, e1, e2, e3, e4⟩ => ⟨a, e1, e2, e3, (upd_ne e2).trans e4⟩
theorem MarksAt.mutM {H : Hp} {rl ml : Addr} {xs : List V} {ms : List Mk3} {u : HO} (h : MarksAt H rl ml xs ms) : MarksAt (upd H ml u) rl ml xs ms := Paired.mapP h fun v m ⟨a, e1, e2, e3, e4⟩ => ⟨a, e1, e2, e3, (upd_ne e3).trans e4⟩
theorem far_in {n c z : Int} (h : isFar n c z = false) : (-(8 * n) ≤ c ∧ c ≤ 8 * n) ∧ (-(8 * n) ≤ z ∧ z ≤ 8 * n) := by
  unfold isFar at h
  simp only [Bool.or_eq_false_iff, decide_eq_false_iff_not] at h
  omega
theorem MarksAt.snoc {H : Hp} {rl ml : Addr} {xs : List V} {ms : List Mk3} {a : Addr} {m : Mk3} (h : MarksAt H rl ml xs ms) (h1 : a ≠ rl) (h2 : a ≠ ml) (h3 : H a = some (.lst [.int m.1, .int m.2.1, .int m.2.2])) : MarksAt H rl ml (xs ++ [.ref a]) (ms ++ [m]) := paired_snoc h ⟨a, rfl, h1, h2, h3⟩
def BitsOk (z : Str) : Prop := z.length ≤ 6 ∧ ∀ x ∈ z.cps.toList, x = 48 ∨ x = 49
section
variable {P : Program} {w : World} {K : PySem.W.Frag} {mg : Str → Option Value} {base : Heap}
def spPlay : Sp := fun vs H Q _ => ∃ l rows n wl bits c v, vs = [.ref l, .int n, .ref wl, .str bits] ∧ H l = some (.lst (textsV rows)) ∧ Prg rows ∧ (1 ≤ n ∧ n ≤ 10 ^ 30) ∧ H wl = some (.tup [.int c, .int v]) ∧ (-(8 * n) ≤ c ∧ c ≤ 8 * n) ∧ (-(8 * n) ≤ v ∧ v ≤ 8 * n) ∧ BitsOk bits ∧
  ∀ p H' x0 x1 x2 x3 ca road, Same H H' → H' p = some (.lst [x0, x1, x2, x3, .ref ca]) → H' ca = some (.tup (List.map V.int road)) → road.length < 100000 → Q (.ref p) H'
theorem sc_law_play : FnScope ["_law_lines", "_law_number_here", "_law_well_here", "_law_bits_here", "_law_low", "_law_full", "_law_at", "_law_used", "_law_road", "_law_marks", "_law_turn", "_law_end_here", "_law_waits"] ["_law_lines", "_law_number_here", "_law_well_here", "_law_bits_here"] (defScope s__law_play) := ⟨rfl, rfl, rfl, by decide +kernel, rfl, by decide +kernel, by decide +kernel⟩
theorem ok__law_play (T : Tx w K mg) (B : HasDef K mg "_law_play" s__law_play ["_law_lines", "_law_number_here", "_law_well_here", "_law_bits_here"]) (D_law_end : Def P w K mg base "_law_end" 1 ["_law_line", "_law_number_here", "_law_low", "_law_full"] spEnd) (D_law_goes : Def P w K mg base "_law_goes" 2 ["_law_lines", "_law_row_at", "_law_number_here", "_law_low", "_law_full"] spGoes)
    (D_law_is_far : Def P w K mg base "_law_is_far" 1 ["_law_number_here", "_law_low", "_law_full"] spFar) : Def P w K mg base "_law_play" 3 ["_law_lines", "_law_number_here", "_law_well_here", "_law_bits_here"] spPlay := by
  refine Def.mk B sc_law_play (fun vs H Q E h => ?_) (fun f cdv A outer s H vs Q E hr h => ?_)
  · obtain ⟨l, rows, n, wl, bits, c, v, rfl, _⟩ := h
    rfl
  · obtain ⟨l, rows, n, wl, bits, c, v, rfl, hl, pr, hn, hwl, hc, hv, hbits, q⟩ := h
    refine ⟨_, (pss_cons (ps_asg (pv 2) (pg_tup rfl (pgs_cons (pg_name (i := 4) sc_law_play.nd rfl (Or.inl rfl)) (pgs_cons (pg_name (i := 5) sc_law_play.nd rfl (Or.inl rfl)) pgs_nil))))
      (pss_cons (ps_asg (pe_tup (pa_cons pe_int (pa_cons pe_int (pa_cons (pe_lst (pa_cons pe_int pa_nil)) (pa_cons (pe_lst (pa_cons (pe_lst (pa_cons pe_int (pa_cons (pv 4) (pa_cons (pv 5) pa_nil)))) pa_nil)) pa_nil))))) (pg_tup rfl (pgs_cons (pg_name (i := 6) sc_law_play.nd rfl (Or.inl rfl)) (pgs_cons (pg_name (i := 7) sc_law_play.nd rfl (Or.inl rfl)) (pgs_cons (pg_name (i := 8) sc_law_play.nd rfl (Or.inl rfl)) (pgs_cons (pg_name (i := 9) sc_law_play.nd rfl (Or.inl rfl)) pgs_nil))))))
      (pss_cons (ps_for PassesOwn.never (by rfl) (pi_range1 (by rfl) T.z_range (pa_cons (pe_op op_mul pe_int (pe_op op_add (pe_callB call_len_str (by rfl) T.z_len boot_len' (pa_cons (pv 3) pa_nil)) pe_int)) pa_nil)) (pg_name (i := 10) sc_law_play.nd rfl (Or.inl rfl))
      (pss_cons (ps_set (i := 11) sc_law_play.nd rfl (Or.inl rfl) (pe_d D_law_end hr (pa_cons (pe_ix ix_list (pv 0) (pv 6) (fun _ _ => rfl)) (pa_cons (pv 1) (pa_cons (pv 4) (pa_cons (pv 5) pa_nil))))))
      (pss_cons (ps_set (i := 12) sc_law_play.nd rfl (Or.inl rfl) (pe_and (pe_cmpR op_eq (pe_ix ix_list (pv 0) (pv 6) (fun _ _ => rfl)) pe_str (nomark _)) (pe_one (pe_cmpR op_eq (pv 7) (pe_callB call_len_str (by rfl) T.z_len boot_len' (pa_cons (pv 3) pa_nil)) (nomark _)))))
      (pss_cons (ps_if (PW.pt (pw_or (pt_cmpR op_notN (pv 11) pe_non (nomark _)) (pw_or1 (pt_truth (pv 12) (by intro _; rfl))))) (pss_one (ps_ret (pe_lst (pa_cons (pv 11) (pa_cons (pv 4) (pa_cons (pv 5) (pa_cons (pv 7) (pa_cons (pe_callTy call_tuple_of (by rfl) T.z_tuple boot_tuple' (pa_cons (pv 8) pa_nil)) pa_nil)))))))) pss_nil)
      (pss_cons (ps_if (pt_cmpR op_eq (pe_ix ix_list (pv 0) (pv 6) (fun _ _ => rfl)) pe_str (nomark _)) (pss_cons (ps_par (i := 4) (j := 5) (by rfl) sc_law_play.nd rfl rfl (by decide) rfl rfl (pa_cons (pe_op op_add (pe_op op_mul pe_int (pv 4)) (pe_callTy call_int_str (by rfl) T.z_int boot_int' (pa_cons (pe_ix ix_str (pv 3) (pv 7) (fun _ _ => rfl)) pa_nil))) (pa_cons (pe_op op_mul pe_int (pv 5)) pa_nil)) (by rfl))
      (pss_one (ps_par3 (i := 6) (j := 7) (l := 9) (by rfl) sc_law_play.nd rfl rfl rfl (by decide) (by decide) (by decide) rfl rfl rfl (pa_cons (pe_op op_add (pv 6) pe_int) (pa_cons (pe_op op_add (pv 7) pe_int) (pa_cons (pe_lst pa_nil) pa_nil))) (by rfl)))) (pss_one (ps_asg (pe_d D_law_goes hr (pa_cons (pv 0) (pa_cons (pv 6) (pa_cons (pv 1) (pa_cons (pv 4) (pa_cons (pv 5) pa_nil)))))) (pg_lst rfl (pgs_cons (pg_name (i := 6) sc_law_play.nd rfl (Or.inl rfl)) (pgs_cons (pg_name (i := 4) sc_law_play.nd rfl (Or.inl rfl)) (pgs_cons (pg_name (i := 5) sc_law_play.nd rfl (Or.inl rfl)) pgs_nil)))))))
      (pss_cons (ps_if (pt_val (pe_d D_law_is_far hr (pa_cons (pv 1) (pa_cons (pv 4) (pa_cons (pv 5) pa_nil))))) (pss_one (ps_ret (pe_lst (pa_cons (pe_tup (pa_cons pe_str pa_nil)) (pa_cons (pv 4) (pa_cons (pv 5) (pa_cons (pv 7) (pa_cons (pe_callTy call_tuple_of (by rfl) T.z_tuple boot_tuple' (pa_cons (pv 8) pa_nil)) pa_nil)))))))) pss_nil)
      (pss_cons (ps_expr (pe_bm PySem.F.plainAttrs_list PySem.F.slot_list_append PySem.F.type_list_append mt_append (pv 8) (pa_cons (pv 6) pa_nil)))
      (pss_cons (ps_if (pt_cmpR (op_inD (room65 hr)) (pe_lst (pa_cons (pv 6) (pa_cons (pv 4) (pa_cons (pv 5) pa_nil)))) (pv 9) (by rfl)) (pss_one (ps_ret (pe_lst (pa_cons (pe_tup (pa_cons pe_str pa_nil)) (pa_cons (pv 4) (pa_cons (pv 5) (pa_cons (pv 7) (pa_cons (pe_callTy call_tuple_of (by rfl) T.z_tuple boot_tuple' (pa_cons (pv 8) pa_nil)) pa_nil)))))))) pss_nil)
      (pss_one (ps_expr (pe_bm PySem.F.plainAttrs_list PySem.F.slot_list_append PySem.F.type_list_append mt_append (pv 9) (pa_cons (pe_lst (pa_cons (pv 6) (pa_cons (pv 4) (pa_cons (pv 5) pa_nil)))) pa_nil))))))))))))
      (pss_one (ps_ret (pe_lst (pa_cons pe_non (pa_cons (pv 4) (pa_cons (pv 5) (pa_cons (pe_un un_neg pe_int) (pa_cons (pe_tup pa_nil) pa_nil))))))))))), ?_⟩
    have h6 := hbits.1
    walk_at "x"
    refine ⟨by walk_at "sz", fun p1 n1 => ?_⟩
    walk_at "x"
    refine ⟨by walk_at "sz", fun p2 n2 => ?_⟩
    walk_at "x"
    refine ⟨by walk_at "sz", fun p3 n3 => ?_⟩
    walk_at "x"
    refine ⟨by walk_at "sz", fun p4 n4 => ?_⟩
    walk_at "x"
    refine ⟨bits, rfl, szl (by omega), ?_⟩
    walk_at "x"
    have hN : (2400 * ((bits.length : Int) + 1)).toNat = 2400 * (bits.length + 1) := by omega
    refine ⟨_, rfl, by omega, by omega, ?_⟩
    rw [hN]
    have fin : ∀ (H2 : Hp) (rl : Addr) (road : List Int) (x0 x1 x2 x3 : V), Same H H2 → H2 rl = some (.lst (road.map V.int)) → road.length < 100000 → ∀ ca, H2 ca = none → ∀ p, upd H2 ca (.tup (road.map V.int)) p = none → Q (.ref p) (upd (upd H2 ca (.tup (road.map V.int))) p (.lst [x0, x1, x2, x3, .ref ca])) :=
      fun H2 rl road x0 x1 x2 x3 e h hz ca nc p np => q p _ x0 x1 x2 x3 ca road (same_new (same_new e nc) np) upd_same (get_keep np upd_same) hz
    have np1 : H p1 = none := n1
    have np3 : H p3 = none := (same_new (same_new (Same.refl _) n1) n2).free n3
    have e4 : Same H (upd (upd (upd (upd H p1 (.lst [.int 0])) p2 (.lst [.int 0, .int c, .int v])) p3 (.lst [.ref p2])) p4 (.tup [.int 0, .int 0, .ref p1, .ref p3])) := same_new (same_new (same_new (same_new (Same.refl _) n1) n2) n3) n4
    have d12 : p1 ≠ p2 := ne_of_none upd_same n2
    have d13 : p1 ≠ p3 := ne_of_none (get_keep n2 upd_same) n3
    have d23 : p2 ≠ p3 := ne_of_none upd_same n3
    have g1 : upd (upd (upd (upd H p1 (.lst [.int 0])) p2 (.lst [.int 0, .int c, .int v])) p3 (.lst [.ref p2])) p4 (.tup [.int 0, .int 0, .ref p1, .ref p3]) p1 = some (.lst ([0].map V.int)) := get_keep n4 (get_keep n3 (get_keep n2 upd_same))
    have g2 : upd (upd (upd (upd H p1 (.lst [.int 0])) p2 (.lst [.int 0, .int c, .int v])) p3 (.lst [.ref p2])) p4 (.tup [.int 0, .int 0, .ref p1, .ref p3]) p2 = some (.lst [.int 0, .int c, .int v]) := get_keep n4 (get_keep n3 upd_same)
    have g3 : upd (upd (upd (upd H p1 (.lst [.int 0])) p2 (.lst [.int 0, .int c, .int v])) p3 (.lst [.ref p2])) p4 (.tup [.int 0, .int 0, .ref p1, .ref p3]) p3 = some (.lst [.ref p2]) := get_keep n4 upd_same
    generalize upd (upd (upd (upd H p1 (.lst [.int 0])) p2 (.lst [.int 0, .int c, .int v])) p3 (.lst [.ref p2])) p4 (.tup [.int 0, .int 0, .ref p1, .ref p3]) = H4 at e4 g1 g2 g3
    refine for_range (lo := 0) (n := 2400 * (bits.length + 1)) (fun i σ H' => ∃ (c v at_ : Int) (used : Nat) (rl ml : Addr) (road : List Int) (xs : List V) (ms : List Mk3) (v10 v11 v12 : Option V), σ = [some (.ref l), some (.int n), some (.ref wl), some (.str bits), some (.int c), some (.int v), some (.int at_), some (.int used), some (.ref rl), some (.ref ml), v10, v11, v12] ∧ Same H H' ∧
      H' rl = some (.lst (road.map V.int)) ∧ H' ml = some (.lst xs) ∧ MarksAt H' rl ml xs ms ∧ rl ≠ ml ∧ H rl = none ∧ H ml = none ∧ road.length ≤ i + 1 ∧ xs.length ≤ i + 1 ∧ (-(8 * n) ≤ c ∧ c ≤ 8 * n) ∧ (-(8 * n) ≤ v ∧ v ≤ 8 * n) ∧ (0 ≤ at_ ∧ at_ < rows.length) ∧ used ≤ bits.length)
      ⟨c, v, 0, 0, p1, p3, [0], [.ref p2], [(0, c, v)], none, none, none, rfl, e4, g1, g3, .cons ⟨p2, rfl, d12.symm, d23, g2⟩ .nil, d13, np1, np3, Nat.le_refl _, Nat.le_refl _, hc, hv, ⟨Int.le_refl _, by have := pr.pos; omega⟩, Nat.zero_le _⟩ (fun i σ H' hi hP => ?_) (fun σ H' hP => ?_)
    · obtain ⟨c, v, at_, used, rl, ml, road, xs, ms, v10, v11, v12, rfl, e, hrl, hml, hmk, dd, nrl, nml, zr, zm, hc, hv, hat, hus⟩ := hP
      have hl1 := e _ _ hl
      have hz : road.length < 100000 := by omega
      have hget := texts_get hat.1 hat.2
      walk_at "x"
      refine x_ixL (SqL.of hl1) hget ?_
      walk_at "x"
      refine ⟨rowAt rows at_, n, c, v, rfl, hn, fun hf => ?_, fun ht p H2 e2 => ?_⟩
      · -- no end
        walk_at "x"
        refine x_ixL (SqL.of hl1) hget ?_
        walk_at "x"
        rw [dV_str, take_text]
        have waits : ∀ b : Bool, True := fun _ => trivial
        cases htk : decide (rowAt rows at_ = .take) with
        | true =>
          have htake : rowAt rows at_ = .take := of_decide_eq_true htk
          walk_at "x"
          refine ⟨bits, rfl, szl (by omega), ?_⟩
          walk_at "x"
          refine ⟨rfl, ?_⟩
          walk_at "x"
          refine ⟨_, rfl, ?_⟩
          rw [dV_int]
          refine x_TF (fun g => ?_) (fun g => ?_)
          · -- waits
            walk_at "x"
            refine ⟨rl, _, rfl, .inl ⟨SqL.of hrl, fun ca nc => ?_⟩⟩
            walk_at "x"
            exact ⟨by walk_at "sz", fun p np => fin H' rl road _ _ _ _ e hrl hz ca nc p np⟩
          · have hu2 : used < bits.length := by
              by_cases z : (used : Int) = (bits.length : Int)
              · rw [decide_eq_true z] at g; cases g
              · omega
            walk_at "x"
            refine x_ixL (SqL.of hl1) hget ?_
            walk_at "x"
            refine x_T (by rw [dV_str, take_text]; exact htk) ?_
            walk_at "x"
            obtain ⟨k, hk, hki⟩ : ∃ k : Nat, bits.cps.toList[used]? = some k ∧ ∃ b : Int, PySem.intText? ⟨#[k]⟩ = some b := by
              have hlt : used < bits.cps.toList.length := by simpa [Str.length] using hu2
              refine ⟨bits.cps.toList[used], List.getElem?_eq_getElem hlt, ?_⟩
              rcases hbits.2 _ (List.getElem_mem hlt) with h | h <;> rw [h]
              · exact ⟨0, by decide +kernel⟩
              · exact ⟨1, by decide +kernel⟩
            obtain ⟨b, hkb⟩ := hki
            refine ⟨bits, used, k, rfl, rfl, szl (by omega), atI_nat hk, ?_⟩
            walk_at "x"
            refine ⟨_, b, rfl, hkb, (show 1 ≤ 640 by decide), ?_⟩
            walk_at "x"
            with_reducible refine x_par3 ?_
            walk_at "x"
            refine ⟨by walk_at "sz", fun mlT nmT => ?_⟩
            walk_at "x"
            refine x_three ?_
            have eT := same_new (u := .lst []) e nmT
            have hrlT := get_keep (u := .lst []) nmT hrl
            have hmlT : upd H' mlT (.lst []) mlT = some (.lst []) := upd_same
            have ddT : rl ≠ mlT := ne_of_none hrl nmT
            have zmT : H mlT = none := e.free nmT
            generalize hHT : upd H' mlT (.lst []) = HT at eT hrlT hmlT
            obtain ⟨xsT, msT, hmlT, hmkT, xsT0⟩ : ∃ (xsT : List V) (msT : List Mk3), HT mlT = some (.lst xsT) ∧ MarksAt HT rl mlT xsT msT ∧ xsT.length ≤ i + 1 := ⟨[], [], hmlT, .nil, Nat.zero_le _⟩
            have hatT : 0 ≤ at_ + 1 ∧ at_ + 1 < rows.length := by
              obtain ⟨k1, k2⟩ := pr.ok at_.toNat _ (rowAt_get hat.1 hat.2)
              rw [htake] at k2
              have : ¬ (at_.toNat + 1 = rows.length) := fun z => by cases k2 z
              omega
            have husT : used + 1 ≤ bits.length := hu2
            generalize hatE : at_ + 1 = atT at hatT
            generalize hcE : 2 * c + b = cT
            generalize hvE : 2 * v = vT
            generalize husE : used + 1 = usT at husT
            have huc : (used : Int) + 1 = (usT : Int) := by omega
            rw [huc]
            walk_at "x"
            refine ⟨n, _, _, rfl, ?_⟩
            walk_at "x"
            refine x_TF (fun gF => ?_) (fun gF => ?_)
            · walk_at "x"
              refine ⟨by walk_at "sz", fun pa na => ?_⟩
              walk_at "x"
              refine ⟨rl, _, rfl, .inl ⟨SqL.of (get_keep na hrlT), fun ca nc => ?_⟩⟩
              walk_at "x"
              exact ⟨by walk_at "sz", fun p np => fin _ rl road _ _ _ _ (same_new eT na) (get_keep na hrlT) hz ca nc p np⟩
            obtain ⟨hcF, hvF⟩ := far_in gF
            walk_at "x"
            refine ⟨.inl ⟨rfl, _, SqL.of hrlT⟩, ?_⟩
            walk_at "x"
            refine x_app hrlT (by rw [List.length_map]; exact Nat.lt_of_lt_of_le hz (by decide)) ?_
            have hrl6 := (upd_same (H := HT) (a := rl) (o := .lst (road.map V.int ++ [.int atT])))
            have hml6 : upd HT rl (.lst (road.map V.int ++ [.int atT])) mlT = some (.lst xsT) := (upd_ne ddT.symm).trans hmlT
            have hmk6 := hmkT.mutR (u := .lst (road.map V.int ++ [.int atT]))
            have e6 : Same H (upd HT rl (.lst (road.map V.int ++ [.int atT]))) := same_mut eT nrl
            generalize upd HT rl (.lst (road.map V.int ++ [.int atT])) = H6 at hrl6 hml6 hmk6 e6
            walk_at "x"
            refine ⟨by walk_at "sz", fun pm nm => ?_⟩
            walk_at "x"
            have hml7 := get_keep (u := .lst [.int atT, .int cT, .int vT]) nm hml6
            refine ⟨mkD (atT, cT, vT), msT.map mkD, .lst (SqL.of upd_same) (.cons (.int _) (.cons (.int _) (.cons (.int _) .nil))), .lst (SqL.of hml7) (dp_marks (hmk6.same (same_new (Same.refl _) nm))), shaped_lst (lay_ints [atT, cT, vT]) (Nat.le_trans (depth_ints [atT, cT, vT]) (by decide)), shaped_lst (lay_marks _) (Nat.le_trans (depth_marks _) (by decide)), ?_⟩
            have hrl7 := get_keep (u := .lst [.int atT, .int cT, .int vT]) nm hrl6
            have e7 : Same H (upd H6 pm (.lst [.int atT, .int cT, .int vT])) := same_new e6 nm
            have hmk7 := hmk6.same (same_new (u := .lst [.int atT, .int cT, .int vT]) (Same.refl _) nm)
            generalize upd H6 pm (.lst [.int atT, .int cT, .int vT]) = H7 at hml7 hrl7 e7 hmk7
            have hrl7 : H7 rl = some (.lst ((road ++ [atT]).map V.int)) := by rw [hrl7, List.map_append]; rfl
            have hz7 : (road ++ [atT]).length < 100000 := by rw [List.length_append, List.length_singleton]; omega
            refine x_bl ?_
            refine x_TF (fun gM => ?_) (fun gM => ?_)
            · walk_at "x"
              refine ⟨by walk_at "sz", fun pa na => ?_⟩
              walk_at "x"
              refine ⟨rl, _, rfl, .inl ⟨SqL.of (get_keep na hrl7), fun ca nc => ?_⟩⟩
              walk_at "x"
              exact ⟨by walk_at "sz", fun p np => fin _ rl (road ++ [atT]) _ _ _ _ (same_new e7 na) (get_keep na hrl7) hz7 ca nc p np⟩
            walk_at "x"
            refine ⟨.inl ⟨rfl, _, SqL.of hml7⟩, ?_⟩
            walk_at "x"
            refine ⟨by walk_at "sz", fun pq nq => ?_⟩
            walk_at "x"
            have hml8 := get_keep (u := .lst [.int atT, .int cT, .int vT]) nq hml7
            refine x_app hml8 (Nat.lt_of_lt_of_le (show xsT.length < 100000 by omega) (by decide)) ?_
            have hrl8 := get_keep (u := .lst [.int atT, .int cT, .int vT]) nq hrl7
            have hmk8 := hmk7.same (same_new (u := .lst [.int atT, .int cT, .int vT]) (Same.refl _) nq)
            have npr : pq ≠ rl := (ne_of_none hrl7 nq).symm
            have npm : pq ≠ mlT := (ne_of_none hml7 nq).symm
            exact ⟨cT, vT, atT, usT, rl, mlT, road ++ [atT], xsT ++ [.ref pq], msT ++ [(atT, cT, vT)], _, _, _, rfl, same_mut (same_new e7 nq) zmT, (upd_ne ddT).trans hrl8, upd_same, (MarksAt.mutM hmk8).snoc npr npm ((upd_ne npm).trans upd_same), ddT, nrl, zmT, by rw [List.length_append, List.length_singleton]; omega, by rw [List.length_append, List.length_singleton]; omega, hcF, hvF, hatT, husT⟩
        | false =>
          walk_at "x"
          refine ⟨rfl, ?_⟩
          walk_at "x"
          refine ⟨false, rfl, ?_⟩
          walk_at "x"
          refine x_ixL (SqL.of hl1) hget ?_
          walk_at "x"
          refine x_F (by rw [dV_str, take_text]; exact htk) ?_
          walk_at "x"
          have hmv : (rowAt rows at_).moves = true := by
            cases hr : rowAt rows at_ with
            | take => rw [hr] at htk; cases htk
            | again => rw [hr] at hf; cases hf
            | giveC => rw [hr] at hf; cases hf
            | giveR => rw [hr] at hf; cases hf
            | go r => rfl
            | iff b q r => rfl
            | less s q => rfl
          have hatT := goes_in pr hat.1 hat.2 hmv n c v
          refine ⟨l, rows, at_, n, c, v, rfl, hl1, hat.1, hat.2, hmv, hn, hv, fun pg HT eg npg hpg => ?_⟩
          generalize (goes (rowAt rows at_) n at_ c v).1 = atT at hatT hpg
          generalize (goes (rowAt rows at_) n at_ c v).2.1 = cT at hpg
          generalize (goes (rowAt rows at_) n at_ c v).2.2 = vT at hpg
          have eT := e.trans eg
          have hrlT := eg _ _ hrl
          have hmlT := eg _ _ hml
          have hmkT := hmk.same eg
          have ddT := dd
          have zmT := nml
          have husT := hus
          generalize husE : used = usT at husT
          generalize hxsE : xs = xsT at hmlT hmkT zm
          generalize hmsE : ms = msT at hmkT
          generalize hmlE : ml = mlT at hmlT hmkT ddT zmT
          walk_at "x"
          refine ⟨n, _, _, rfl, ?_⟩
          walk_at "x"
          refine x_TF (fun gF => ?_) (fun gF => ?_)
          · walk_at "x"
            refine ⟨by walk_at "sz", fun pa na => ?_⟩
            walk_at "x"
            refine ⟨rl, _, rfl, .inl ⟨SqL.of (get_keep na hrlT), fun ca nc => ?_⟩⟩
            walk_at "x"
            exact ⟨by walk_at "sz", fun p np => fin _ rl road _ _ _ _ (same_new eT na) (get_keep na hrlT) hz ca nc p np⟩
          obtain ⟨hcF, hvF⟩ := far_in gF
          walk_at "x"
          refine ⟨.inl ⟨rfl, _, SqL.of hrlT⟩, ?_⟩
          walk_at "x"
          refine x_app hrlT (by rw [List.length_map]; exact Nat.lt_of_lt_of_le hz (by decide)) ?_
          have hrl6 := (upd_same (H := HT) (a := rl) (o := .lst (road.map V.int ++ [.int atT])))
          have hml6 : upd HT rl (.lst (road.map V.int ++ [.int atT])) mlT = some (.lst xsT) := (upd_ne ddT.symm).trans hmlT
          have hmk6 := hmkT.mutR (u := .lst (road.map V.int ++ [.int atT]))
          have e6 : Same H (upd HT rl (.lst (road.map V.int ++ [.int atT]))) := same_mut eT nrl
          generalize upd HT rl (.lst (road.map V.int ++ [.int atT])) = H6 at hrl6 hml6 hmk6 e6
          walk_at "x"
          refine ⟨by walk_at "sz", fun pm nm => ?_⟩
          walk_at "x"
          have hml7 := get_keep (u := .lst [.int atT, .int cT, .int vT]) nm hml6
          refine ⟨mkD (atT, cT, vT), msT.map mkD, .lst (SqL.of upd_same) (.cons (.int _) (.cons (.int _) (.cons (.int _) .nil))), .lst (SqL.of hml7) (dp_marks (hmk6.same (same_new (Same.refl _) nm))), shaped_lst (lay_ints [atT, cT, vT]) (Nat.le_trans (depth_ints [atT, cT, vT]) (by decide)), shaped_lst (lay_marks _) (Nat.le_trans (depth_marks _) (by decide)), ?_⟩
          have hrl7 := get_keep (u := .lst [.int atT, .int cT, .int vT]) nm hrl6
          have e7 : Same H (upd H6 pm (.lst [.int atT, .int cT, .int vT])) := same_new e6 nm
          have hmk7 := hmk6.same (same_new (u := .lst [.int atT, .int cT, .int vT]) (Same.refl _) nm)
          generalize upd H6 pm (.lst [.int atT, .int cT, .int vT]) = H7 at hml7 hrl7 e7 hmk7
          have hrl7 : H7 rl = some (.lst ((road ++ [atT]).map V.int)) := by rw [hrl7, List.map_append]; rfl
          have hz7 : (road ++ [atT]).length < 100000 := by rw [List.length_append, List.length_singleton]; omega
          refine x_bl ?_
          refine x_TF (fun gM => ?_) (fun gM => ?_)
          · walk_at "x"
            refine ⟨by walk_at "sz", fun pa na => ?_⟩
            walk_at "x"
            refine ⟨rl, _, rfl, .inl ⟨SqL.of (get_keep na hrl7), fun ca nc => ?_⟩⟩
            walk_at "x"
            exact ⟨by walk_at "sz", fun p np => fin _ rl (road ++ [atT]) _ _ _ _ (same_new e7 na) (get_keep na hrl7) hz7 ca nc p np⟩
          walk_at "x"
          refine ⟨.inl ⟨rfl, _, SqL.of hml7⟩, ?_⟩
          walk_at "x"
          refine ⟨by walk_at "sz", fun pq nq => ?_⟩
          walk_at "x"
          have hml8 := get_keep (u := .lst [.int atT, .int cT, .int vT]) nq hml7
          refine x_app hml8 (Nat.lt_of_lt_of_le (show xsT.length < 100000 by omega) (by decide)) ?_
          have hrl8 := get_keep (u := .lst [.int atT, .int cT, .int vT]) nq hrl7
          have hmk8 := hmk7.same (same_new (u := .lst [.int atT, .int cT, .int vT]) (Same.refl _) nq)
          have npr : pq ≠ rl := (ne_of_none hrl7 nq).symm
          have npm : pq ≠ mlT := (ne_of_none hml7 nq).symm
          exact ⟨cT, vT, atT, usT, rl, mlT, road ++ [atT], xsT ++ [.ref pq], msT ++ [(atT, cT, vT)], _, _, _, rfl, same_mut (same_new e7 nq) zmT, (upd_ne ddT).trans hrl8, upd_same, (MarksAt.mutM hmk8).snoc npr npm ((upd_ne npm).trans upd_same), ddT, nrl, zmT, by rw [List.length_append, List.length_singleton]; omega, by rw [List.length_append, List.length_singleton]; omega, hcF, hvF, hatT, husT⟩
      · -- an end
        have hl2 := e2 _ _ hl1
        have hrl2 := e2 _ _ hrl
        walk_at "x"
        refine x_ixL (SqL.of hl2) hget ?_
        walk_at "x"
        rw [dV_str, take_text]
        have htk : decide (rowAt rows at_ = .take) = false := decide_eq_false (fun z => by rw [z] at ht; cases ht)
        rw [htk]
        walk_at "x"
        refine ⟨rfl, ?_⟩
        walk_at "x"
        refine x_T rfl ?_
        walk_at "x"
        refine ⟨rl, _, rfl, .inl ⟨SqL.of hrl2, fun ca nc => ?_⟩⟩
        walk_at "x"
        exact ⟨by walk_at "sz", fun p3 np3 => fin H2 rl road _ _ _ _ (e.trans e2) hrl2 hz ca nc p3 np3⟩
    · obtain ⟨c, v, at_, used, rl, ml, road, xs, ms, v10, v11, v12, rfl, e, hrl, hml, hmk, dd, nrl, nml, zr, zm, hc, hv, hat, hus⟩ := hP
      walk_at "x"
      refine ⟨by walk_at "sz", fun ca nc => ?_⟩
      walk_at "x"
      exact ⟨by walk_at "sz", fun p np => q p _ _ _ _ _ ca [] (same_new (same_new e nc) np) upd_same (get_keep np upd_same) (by decide)⟩
end
end K48
namespace K48
open PySem PySem.Spec PyProof.Rows L2
local macro_rules | `(tactic| walk_at "hg") => `(tactic| first | assumption | exact upd_same | (apply get_keep; assumption; walk_at "hg") | (apply get_same; assumption; walk_at "hg") | (apply get_mut; assumption; walk_at "hg"))
local macro_rules | `(tactic| walk_at "sq") => `(tactic| first | assumption | (apply SqT.of; walk_at "hg") | (apply SqL.of; walk_at "hg") | (apply same_t; assumption; walk_at "sq") | (apply Same.seq; assumption; walk_at "sq"))
local macro_rules | `(tactic| walk_at "sc") => `(tactic| first | omega | decide | assumption | (unfold CMul; omega) | (unfold CDiv; omega) | (show (0 : Int) < _; omega) | (exact cdivw (by omega) (by omega)) | (exact cdivp (by omega) (by omega)))
local macro_rules | `(tactic| walk_at "x1") => `(tactic| first
  | with_reducible refine x_seq ?_
  | with_reducible refine x_var (by with_unfolding_all rfl) ?_
  | with_reducible refine x_c ?_
  | with_reducible refine x_op ?_
  | with_reducible refine x_rI0 ?_
  | with_reducible refine x_bl ?_
  | with_reducible refine x_rEq (by with_unfolding_all rfl) ?_
  | with_reducible refine x_rNe (by with_unfolding_all rfl) ?_
  | with_reducible refine x_asg ?_
  | with_reducible refine x_gname ?_
  | with_reducible refine x_gcons ?_
  | with_reducible refine x_gnil ?_
  | with_reducible refine x_ret ?_
  | with_reducible refine x_drop ?_
  | with_reducible refine x_next ?_
  | with_reducible refine x_cont ?_
  | with_reducible refine x_brk ?_
  | with_reducible refine x_ifS ?_
  | with_reducible refine x_ifE ?_
  | with_reducible refine x_cons ?_
  | with_reducible refine x_nil ?_
  | with_reducible refine x_test ?_
  | with_reducible refine x_tB ?_
  | with_reducible refine x_and ?_
  | with_reducible refine x_or ?_
  | with_reducible refine x_not ?_
  | with_reducible refine x_andV ?_
  | with_reducible refine x_orV ?_
  | with_reducible refine x_notV ?_
  | with_reducible refine x_chain ?_
  | with_reducible refine x_par ?_
  | with_reducible refine x_two ?_
  | with_reducible refine x_un ?_
  | with_reducible refine x_rU ?_
  | with_reducible refine x_cb ?_
  | with_reducible refine x_call ?_
  | with_reducible refine x_sl ?_
  | with_reducible refine x_nopart ?_
  | with_reducible refine x_part ?_
  | with_reducible refine x_int ?_
  | with_reducible refine x_tup ?_
  | with_reducible refine x_lst ?_
  | with_reducible refine x_bm ?_
  | with_reducible refine x_fld ?_
  | with_reducible refine x_chain3 ?_
  | with_reducible refine x_yes ?_
  | with_reducible refine x_lcT ?_
  | with_reducible refine x_lcL ?_
  | with_reducible refine x_for ?_
  | with_reducible refine x_iT ?_
  | with_reducible refine x_iL ?_
  | with_reducible refine x_rng1 ?_
  | with_reducible refine x_rng2 ?_
  | with_reducible refine x_dcT ?_
  | with_reducible refine x_din ?_
  | with_reducible refine x_dni ?_
  | with_reducible refine x_lcE ?_
  | with_reducible refine x_enS ?_
  | with_reducible refine x_m1 ?_
  | with_reducible refine x_gsub ?_
  | ((with_reducible apply x_setl); (focus (walk_at "hg"; done)); (focus (with_unfolding_all rfl; done)))
  | with_reducible refine x_int1 ?_
  | with_reducible refine x_str2 ?_
  | ((with_reducible apply x_rI); (focus (walk_at "sc"; done)))
  | with_reducible refine x_sw ?_
  | with_reducible refine x_ss ?_
  | ((with_reducible apply x_ixT); (focus (walk_at "sq"; done)); (focus (with_unfolding_all rfl; done)))
  | ((with_reducible apply x_ixL); (focus (walk_at "sq"; done)); (focus (with_unfolding_all rfl; done)))
  | ((with_reducible apply x_gtup); (focus (walk_at "sq"; done)); (focus (with_unfolding_all rfl; done)))
  | ((with_reducible apply x_glst); (focus (walk_at "sq"; done)); (focus (with_unfolding_all rfl; done)))
  | with_reducible refine x_F dn_int ?_
  | with_reducible refine x_F dn_ref ?_
  | with_reducible refine x_T dn_non ?_
  | with_reducible refine x_T (by decide +kernel) ?_
  | with_reducible refine x_F (by decide +kernel) ?_)
local macro_rules | `(tactic| walk_at "sz") => `(tactic| first | (exact Nat.le_of_ble_eq_true rfl) | decide | omega)
local macro_rules | `(tactic| walk_at "x") => `(tactic| ((walk_at "x1"); repeat (walk_at "x1")))
/-! ### drawn bits, numbers, wells -/
theorem joinL_mem : ∀ {xs : List (List Nat)} {x : Nat}, x ∈ TL.joinL [] xs → ∃ y ∈ xs, x ∈ y
  | [], x, h => by simp [TL.joinL] at h
  | [p], x, h => ⟨p, List.mem_singleton.mpr rfl, h⟩
  | p :: q :: r, x, h => by
    rw [TL.joinL, List.nil_append, List.mem_append] at h
    rcases h with h | h
    · exact ⟨p, List.mem_cons_self, h⟩
    · obtain ⟨y, h1, h2⟩ := joinL_mem h
      exact ⟨y, List.mem_cons_of_mem _ h1, h2⟩
theorem bits_ok {ys : List Str} (hl : ys.length ≤ 6) (h : ∀ y ∈ ys, y = "0" ∨ y = "1") : BitsOk (Txt.join "" ys) ∧ (ys.map (·.length)).sum ≤ 6 := by
  have e : TL.tl (Txt.join "" ys) = TL.joinL [] (ys.map TL.tl) := by
    rw [TL.join_eq, TL.tl_join]
    rfl
  have one : ∀ y ∈ ys, y.length = 1 := fun y hy => by rcases h y hy with h | h <;> rw [h] <;> decide +kernel
  have sum : (ys.map (·.length)).sum = ys.length := by
    clear e h hl
    induction ys with
    | nil => rfl
    | cons y ys ih =>
      rw [List.map_cons, List.sum_cons, ih (fun z hz => one z (List.mem_cons_of_mem _ hz)), one y List.mem_cons_self, List.length_cons]
      omega
  refine ⟨⟨?_, fun x hx => ?_⟩, by omega⟩
  · have e1 : (Txt.join "" ys).length = (TL.tl (Txt.join "" ys)).length := by simp [Str.length]
    rw [e1, e]
    refine Nat.le_trans (joinL_len _ _) ?_
    have e2 : ((ys.map TL.tl).map List.length).sum = (ys.map (·.length)).sum := by
      rw [List.map_map]
      congr 1
    rw [e2, List.length_nil, Nat.mul_zero]
    omega
  · have hx : x ∈ TL.tl (Txt.join "" ys) := hx
    rw [e] at hx
    obtain ⟨y, h1, h2⟩ := joinL_mem hx
    obtain ⟨z, h3, rfl⟩ := List.mem_map.mp h1
    rcases h z h3 with h4 | h4
    · rw [h4, show TL.tl ("0" : Str) = [48] by decide +kernel] at h2
      exact .inl (List.mem_singleton.mp h2)
    · rw [h4, show TL.tl ("1" : Str) = [49] by decide +kernel] at h2
      exact .inr (List.mem_singleton.mp h2)
section
variable {P : Program} {w : World} {K : PySem.W.Frag} {mg : Str → Option Value} {base : Heap}
def spBits : Sp := fun vs H Q _ => ∃ sp, vs = [.ref sp, .int 6] ∧ SprAt sp H ∧ ∀ z H', Ex sp H H' → SprAt sp H' → BitsOk z → Q (.str z) H'
theorem sc_law_bits : FnScope ["_law_spring_here", "_law_most", "_law_k"] ["_law_spring_here", "_law_most"] (defScope s__law_bits) := ⟨rfl, rfl, rfl, by decide +kernel, rfl, by decide +kernel, by decide +kernel⟩
theorem ok__law_bits (T : Tx w K mg) (B : HasDef K mg "_law_bits" s__law_bits ["_law_spring_here", "_law_most"]) (D_law_draw : Def P w K mg base "_law_draw" 1 ["_law_spring_here", "_law_size_here"] spDraw) (D_law_of : Def P w K mg base "_law_of" 2 ["_law_spring_here", "_law_menu"] spOf) : Def P w K mg base "_law_bits" 3 ["_law_spring_here", "_law_most"] spBits := by
  refine Def.mk B sc_law_bits (fun vs H Q E h => ?_) (fun f cdv A outer s H vs Q E hr h => ?_)
  · obtain ⟨sp, rfl, _⟩ := h
    rfl
  · obtain ⟨sp, rfl, hs, q⟩ := h
    refine ⟨_, (pss_one (ps_ret (pe_join pe_str (pe_lc (own := [("_law_k", 2)]) (by rfl) sc_law_bits.nd (pi_range1 (by rfl) T.z_range (pa_cons (pe_d D_law_draw hr (pa_cons (pv 0) (pa_cons (pe_op op_add (pv 1) pe_int) pa_nil))) pa_nil)) (blkOk_by (N := ["_law_spring_here", "_law_most", "_law_k"]) (sc := defScope s__law_bits) (by decide +kernel)) (fun _ _ _ _ _ => (pg_name (i := 2) sc_law_bits.nd rfl (Or.inl rfl))) (fun _ _ _ _ _ => pts_nil) (fun _ _ _ _ _ => (pe_d D_law_of hr (pa_cons (pv 0) (pa_cons (pe_lst (pa_cons pe_str (pa_cons pe_str pa_nil))) pa_nil)))))))), ?_⟩
    walk_at "x"
    refine x_lcR ?_
    walk_at "x"
    refine ⟨sp, 7, rfl, hs, by decide, by decide, fun d H1 e1 s1 d0 d1 => ?_⟩
    obtain ⟨m, rfl⟩ : ∃ m : Nat, d = (m : Int) := ⟨d.toNat, by omega⟩
    walk_at "x"
    refine lcR_go (sp := sp) (fun i _ l => ∃ ys : List Str, l = ys.map V.str ∧ ys.length = i ∧ ∀ y ∈ ys, y = "0" ∨ y = "1") (by omega) s1 ⟨[], rfl, rfl, fun _ h => (nomatch h)⟩ (fun _ _ _ _ _ h => h) (fun x => rfl) (fun i H' l hi e s' hli hG KT KF kT kF => ?_) (fun D H' l nD e s' hD hG => ?_)
    · obtain ⟨ys, rfl, hlen, hys⟩ := hG
      walk_at "x"
      refine ⟨by walk_at "sz", fun p np => ?_⟩
      walk_at "x"
      refine ⟨sp, p, _, rfl, s'.keep np, upd_same, s'.ne np, by decide, by decide, fun x H3 e3 s3 hx => ?_⟩
      obtain ⟨y, rfl, hy⟩ : ∃ y : Str, x = .str y ∧ (y = "0" ∨ y = "1") := by
        simp only [List.mem_cons, List.not_mem_nil, or_false] at hx
        rcases hx with rfl | rfl
        · exact ⟨"0", rfl, .inl rfl⟩
        · exact ⟨"1", rfl, .inr rfl⟩
      refine kT _ _ (((Ex.refl H').new np).trans e3) s3 ⟨ys ++ [y], by rw [List.map_append]; rfl, by rw [List.length_append, hlen]; rfl, fun z hz => ?_⟩
      rcases List.mem_append.mp hz with hz | hz
      · exact hys z hz
      · rw [List.mem_singleton.mp hz]
        exact hy
    · obtain ⟨ys, rfl, hlen, hys⟩ := hG
      obtain ⟨b1, b2⟩ := bits_ok (by omega) hys
      refine ⟨"", D, ys, rfl, rfl, .inl (SqL.of hD), ?_, q _ H' (e1.trans e) s' b1⟩
      have : ("" : Str).length = 0 := by decide +kernel
      rw [this, Nat.mul_zero]
      omega
def spNumber : Sp := fun vs H Q _ => ∃ sp, vs = [.ref sp] ∧ SprAt sp H ∧ ∀ n H', Ex sp H H' → SprAt sp H' → 1 ≤ n → n ≤ 10 ^ 30 → Q (.int n) H'
theorem sc_law_number : FnScope ["_law_spring_here", "_law_small", "_law_power"] ["_law_spring_here"] (defScope s__law_number) := ⟨rfl, rfl, rfl, by decide +kernel, rfl, by decide +kernel, by decide +kernel⟩
theorem ok__law_number (T : Tx w K mg) (B : HasDef K mg "_law_number" s__law_number ["_law_spring_here"]) (D_law_draw : Def P w K mg base "_law_draw" 1 ["_law_spring_here", "_law_size_here"] spDraw) (D_law_of : Def P w K mg base "_law_of" 2 ["_law_spring_here", "_law_menu"] spOf) : Def P w K mg base "_law_number" 3 ["_law_spring_here"] spNumber := by
  refine Def.mk B sc_law_number (fun vs H Q E h => ?_) (fun f cdv A outer s H vs Q E hr h => ?_)
  · obtain ⟨sp, rfl, _⟩ := h
    rfl
  · obtain ⟨sp, rfl, hs, q⟩ := h
    refine ⟨_, (pss_cons (ps_set (i := 1) sc_law_number.nd rfl (Or.inl rfl) (pe_op op_add pe_int (pe_d D_law_draw hr (pa_cons (pv 0) (pa_cons pe_int pa_nil)))))
      (pss_cons (ps_set (i := 2) sc_law_number.nd rfl (Or.inl rfl) (pe_ix ix_list (pe_lst (pa_cons pe_int (pa_cons pe_int (pa_cons pe_int (pa_cons pe_int (pa_cons pe_int pa_nil)))))) (pe_d D_law_draw hr (pa_cons (pv 0) (pa_cons pe_int pa_nil))) (fun _ _ => rfl)))
      (pss_one (ps_ret (pe_d D_law_of hr (pa_cons (pv 0) (pa_cons (pe_lst (pa_cons (pv 1) (pa_cons (pv 1) (pa_cons (pe_op op_add pe_int (pe_d D_law_draw hr (pa_cons (pv 0) (pa_cons pe_int pa_nil)))) (pa_cons (pv 2) (pa_cons (pe_op op_sub (pe_op op_pow pe_int pe_int) (pv 1)) pa_nil)))))) pa_nil))))))), ?_⟩
    walk_at "x"
    refine ⟨sp, 24, rfl, hs, by decide, by decide, fun d H1 e1 s1 d0 d1 => ?_⟩
    walk_at "x"
    refine ⟨by walk_at "sz", fun p np => ?_⟩
    walk_at "x"
    refine ⟨sp, 5, rfl, s1.keep np, by decide, by decide, fun d2 H2 e2 s2 d20 d21 => ?_⟩
    have hp := e2 _ _ (s1.ne np) upd_same
    obtain ⟨x, hx, hat⟩ := menu_at (xs := [V.int 1, .int 2, .int 4, .int 8, .int 16]) d20 d21
    obtain ⟨pw, rfl, hpw⟩ : ∃ pw : Int, x = .int pw ∧ 1 ≤ pw ∧ pw ≤ 16 := by
      simp only [List.mem_cons, List.not_mem_nil, or_false] at hx
      rcases hx with rfl | rfl | rfl | rfl | rfl
      · exact ⟨1, rfl, by decide⟩
      · exact ⟨2, rfl, by decide⟩
      · exact ⟨4, rfl, by decide⟩
      · exact ⟨8, rfl, by decide⟩
      · exact ⟨16, rfl, by decide⟩
    refine x_ixL (SqL.of hp) hat ?_
    walk_at "x"
    refine ⟨sp, 4, rfl, s2, by decide, by decide, fun d3 H3 e3 s3 d30 d31 => ?_⟩
    walk_at "x"
    refine x_rI ⟨by decide, by decide, by decide⟩ ?_
    walk_at "x"
    refine ⟨by walk_at "sz", fun p2 np2 => ?_⟩
    walk_at "x"
    refine ⟨sp, p2, _, rfl, s3.keep np2, upd_same, s3.ne np2, by simp, by simp, fun x H4 e4 s4 hx => ?_⟩
    have e14 : Ex sp H H4 := (((e1.new np).trans e2).trans e3 |>.new np2).trans e4
    simp only [List.mem_cons, List.not_mem_nil, or_false] at hx
    have h30 : (10 : Int) ^ (30 : Int).toNat = 10 ^ 30 := rfl
    rcases hx with rfl | rfl | rfl | rfl | rfl
    · exact q _ H4 e14 s4 (by omega) (by omega)
    · exact q _ H4 e14 s4 (by omega) (by omega)
    · exact q _ H4 e14 s4 (by omega) (by omega)
    · exact q _ H4 e14 s4 (by omega) (by omega)
    · exact q _ H4 e14 s4 (by rw [h30]; omega) (by rw [h30]; omega)
def spWell : Sp := fun vs H Q _ => ∃ sp n, vs = [.ref sp, .int n] ∧ SprAt sp H ∧ (1 ≤ n ∧ n ≤ 10 ^ 30) ∧ ∀ p c v H', Ex sp H H' → SprAt sp H' → H' p = some (.tup [.int c, .int v]) → 0 ≤ c → c < v → v ≤ 2 * n → Q (.ref p) H'
theorem sc_law_well : FnScope ["_law_spring_here", "_law_number_here", "_law_full"] ["_law_spring_here", "_law_number_here"] (defScope s__law_well) := ⟨rfl, rfl, rfl, by decide +kernel, rfl, by decide +kernel, by decide +kernel⟩
theorem ok__law_well (T : Tx w K mg) (B : HasDef K mg "_law_well" s__law_well ["_law_spring_here", "_law_number_here"]) (D_law_draw : Def P w K mg base "_law_draw" 1 ["_law_spring_here", "_law_size_here"] spDraw) : Def P w K mg base "_law_well" 2 ["_law_spring_here", "_law_number_here"] spWell := by
  refine Def.mk B sc_law_well (fun vs H Q E h => ?_) (fun f cdv A outer s H vs Q E hr h => ?_)
  · obtain ⟨sp, n, rfl, _⟩ := h
    rfl
  · obtain ⟨sp, n, rfl, hs, hn, q⟩ := h
    refine ⟨_, (pss_cons (ps_set (i := 2) sc_law_well.nd rfl (Or.inl rfl) (pe_ifExp (pt_cmpR op_gt (pe_d D_law_draw hr (pa_cons (pv 0) (pa_cons pe_int pa_nil))) pe_int (nomark _)) (pe_op op_add pe_int (pe_d D_law_draw hr (pa_cons (pv 0) (pa_cons (pe_op op_mul pe_int (pv 1)) pa_nil)))) pe_int))
      (pss_one (ps_ret (pe_tup (pa_cons (pe_d D_law_draw hr (pa_cons (pv 0) (pa_cons (pv 2) pa_nil))) (pa_cons (pv 2) pa_nil)))))), ?_⟩
    walk_at "x"
    refine ⟨sp, 3, rfl, hs, by decide, by decide, fun d H1 e1 s1 d0 d1 => ?_⟩
    walk_at "x"
    refine x_TF (fun g => ?_) (fun g => ?_)
    · walk_at "x"
      refine ⟨sp, 2 * n, rfl, s1, by omega, by omega, fun d2 H2 e2 s2 d20 d21 => ?_⟩
      walk_at "x"
      refine ⟨sp, 1 + d2, rfl, s2, by omega, by omega, fun d3 H3 e3 s3 d30 d31 => ?_⟩
      walk_at "x"
      exact ⟨by walk_at "sz", fun p np => q p d3 (1 + d2) _ (((e1.trans e2).trans e3).new np) (s3.keep np) upd_same d30 d31 (by omega)⟩
    · walk_at "x"
      refine ⟨sp, 1, rfl, s1, by omega, by omega, fun d3 H3 e3 s3 d30 d31 => ?_⟩
      walk_at "x"
      exact ⟨by walk_at "sz", fun p np => q p d3 1 _ ((e1.trans e3).new np) (s3.keep np) upd_same d30 d31 (by omega)⟩
end
end K48
namespace K48
open PySem PySem.Spec PyProof.Rows L2
local macro_rules | `(tactic| walk_at "hg") => `(tactic| first | assumption | exact upd_same | (apply get_keep; assumption; walk_at "hg") | (apply get_same; assumption; walk_at "hg") | (apply get_mut; assumption; walk_at "hg"))
local macro_rules | `(tactic| walk_at "sq") => `(tactic| first | assumption | (apply SqT.of; walk_at "hg") | (apply SqL.of; walk_at "hg") | (apply same_t; assumption; walk_at "sq") | (apply Same.seq; assumption; walk_at "sq"))
local macro_rules | `(tactic| walk_at "sc") => `(tactic| first | omega | decide | assumption | (unfold CMul; omega) | (unfold CDiv; omega) | (show (0 : Int) < _; omega) | (exact cdivw (by omega) (by omega)) | (exact cdivp (by omega) (by omega)))
local macro_rules | `(tactic| walk_at "x1") => `(tactic| first
  | with_reducible refine x_seq ?_
  | with_reducible refine x_var (by with_unfolding_all rfl) ?_
  | with_reducible refine x_c ?_
  | with_reducible refine x_op ?_
  | with_reducible refine x_rI0 ?_
  | with_reducible refine x_bl ?_
  | with_reducible refine x_rEq (by with_unfolding_all rfl) ?_
  | with_reducible refine x_rNe (by with_unfolding_all rfl) ?_
  | with_reducible refine x_asg ?_
  | with_reducible refine x_gname ?_
  | with_reducible refine x_gcons ?_
  | with_reducible refine x_gnil ?_
  | with_reducible refine x_ret ?_
  | with_reducible refine x_drop ?_
  | with_reducible refine x_next ?_
  | with_reducible refine x_cont ?_
  | with_reducible refine x_brk ?_
  | with_reducible refine x_ifS ?_
  | with_reducible refine x_ifE ?_
  | with_reducible refine x_cons ?_
  | with_reducible refine x_nil ?_
  | with_reducible refine x_test ?_
  | with_reducible refine x_tB ?_
  | with_reducible refine x_and ?_
  | with_reducible refine x_or ?_
  | with_reducible refine x_not ?_
  | with_reducible refine x_andV ?_
  | with_reducible refine x_orV ?_
  | with_reducible refine x_notV ?_
  | with_reducible refine x_chain ?_
  | with_reducible refine x_par ?_
  | with_reducible refine x_two ?_
  | with_reducible refine x_un ?_
  | with_reducible refine x_rU ?_
  | with_reducible refine x_cb ?_
  | with_reducible refine x_call ?_
  | with_reducible refine x_sl ?_
  | with_reducible refine x_nopart ?_
  | with_reducible refine x_part ?_
  | with_reducible refine x_int ?_
  | with_reducible refine x_tup ?_
  | with_reducible refine x_lst ?_
  | with_reducible refine x_bm ?_
  | with_reducible refine x_fld ?_
  | with_reducible refine x_chain3 ?_
  | with_reducible refine x_yes ?_
  | with_reducible refine x_lcT ?_
  | with_reducible refine x_lcL ?_
  | with_reducible refine x_for ?_
  | with_reducible refine x_iT ?_
  | with_reducible refine x_iL ?_
  | with_reducible refine x_rng1 ?_
  | with_reducible refine x_rng2 ?_
  | with_reducible refine x_dcT ?_
  | with_reducible refine x_din ?_
  | with_reducible refine x_dni ?_
  | with_reducible refine x_lcE ?_
  | with_reducible refine x_enS ?_
  | with_reducible refine x_m1 ?_
  | with_reducible refine x_gsub ?_
  | ((with_reducible apply x_setl); (focus (walk_at "hg"; done)); (focus (with_unfolding_all rfl; done)))
  | with_reducible refine x_int1 ?_
  | with_reducible refine x_str2 ?_
  | ((with_reducible apply x_rI); (focus (walk_at "sc"; done)))
  | with_reducible refine x_sw ?_
  | with_reducible refine x_ss ?_
  | ((with_reducible apply x_ixT); (focus (walk_at "sq"; done)); (focus (with_unfolding_all rfl; done)))
  | ((with_reducible apply x_ixL); (focus (walk_at "sq"; done)); (focus (with_unfolding_all rfl; done)))
  | ((with_reducible apply x_gtup); (focus (walk_at "sq"; done)); (focus (with_unfolding_all rfl; done)))
  | ((with_reducible apply x_glst); (focus (walk_at "sq"; done)); (focus (with_unfolding_all rfl; done)))
  | with_reducible refine x_F dn_int ?_
  | with_reducible refine x_F dn_ref ?_
  | with_reducible refine x_T dn_non ?_
  | with_reducible refine x_T (by decide +kernel) ?_
  | with_reducible refine x_F (by decide +kernel) ?_)
local macro_rules | `(tactic| walk_at "sz") => `(tactic| first | (exact Nat.le_of_ble_eq_true rfl) | decide | omega)
local macro_rules | `(tactic| walk_at "x") => `(tactic| ((walk_at "x1"); repeat (walk_at "x1")))
/-! ### drawn certificates -/
theorem x_dput {td ty tv : TE} {D : Ends} {σ : L2.St} {H : Hp} (q : tv σ H fun v H1 => td σ H1 fun x H2 => ty σ H2 fun y H3 => ∃ a H4, x = .ref a ∧ DPut H3 a y v H4 ∧ D.nx σ H4) : sDPut td ty tv D σ H := q
theorem x_oneT {tk tv : TE} {σ : L2.St} {H : Hp} {Q : VK} (q : ∀ p, H p = none → tk σ (upd H p (.dT [])) fun x H1 => tv σ H1 fun y H2 => ∃ b k, x = .ref b ∧ H2 b = some (.tup (List.map kV k)) ∧ H2 p = some (.dT []) ∧ Q (.ref p) (upd H2 p (.dT [(k, y)]))) : tOneT tk tv σ H Q := q
section
variable {P : Program} {w : World} {K : PySem.W.Frag} {mg : Str → Option Value} {base : Heap}
def spAll : Sp := fun vs H Q _ => ∃ l b rows n t, vs = [.ref l, .int n, .ref b] ∧ H l = some (.lst (textsV rows)) ∧ Prg rows ∧ (1 ≤ n ∧ n ≤ 10 ^ 30) ∧ H b = some (.tup (spV t)) ∧ (0 ≤ t.1 ∧ t.1 < rows.length) ∧
  ∀ p H' xs ss, Same H H' → H p = none → H' p = some (.lst xs) → SpotsAt H' xs ss → 1 ≤ ss.length → ss.length ≤ 500 → Q (.ref p) H'
theorem sc_law_all_from : FnScope ["_law_lines", "_law_number_here", "_law_begin_here", "_law_some", "_law_known_here", "_law_k", "_law_spot"] ["_law_lines", "_law_number_here", "_law_begin_here"] (defScope s__law_all_from) := ⟨rfl, rfl, rfl, by decide +kernel, rfl, by decide +kernel, by decide +kernel⟩
theorem wide_in {n : Int} {t : Spot} (h : wide n t = false) : -(8 * n) ≤ t.2.2.2 ∧ t.2.2.2 ≤ 8 * n := by
  unfold wide at h
  rw [Bool.or_eq_false_iff] at h
  exact (far_in h.1).2
theorem ok__law_all_from (T : Tx w K mg) (B : HasDef K mg "_law_all_from" s__law_all_from ["_law_lines", "_law_number_here", "_law_begin_here"]) (D_law_is_wide_spot : Def P w K mg base "_law_is_wide_spot" 2 ["_law_number_here", "_law_spot"] spWide) (D_law_next : Def P w K mg base "_law_next" 3 ["_law_lines", "_law_number_here", "_law_spot"] spNext) :
    Def P w K mg base "_law_all_from" 4 ["_law_lines", "_law_number_here", "_law_begin_here"] spAll := by
  refine Def.mk B sc_law_all_from (fun vs H Q E h => ?_) (fun f cdv A outer s H vs Q E hr h => ?_)
  · obtain ⟨l, b, rows, n, t, rfl, _⟩ := h
    rfl
  · obtain ⟨l, b, rows, n, t, rfl, hl, pr, hn, hb, ht, q⟩ := h
    refine ⟨_, (pss_cons (ps_par (i := 3) (j := 4) (by rfl) sc_law_all_from.nd rfl rfl (by decide) rfl rfl (pa_cons (pe_lst (pa_cons (pv 2) pa_nil)) (pa_cons (pe_oneT hr.units0 (pv 2) pe_bl) pa_nil)) (by rfl))
      (pss_cons (ps_for PassesOwn.never (by rfl) (pi_range1 (by rfl) T.z_range (pa_cons pe_int pa_nil)) (pg_name (i := 5) sc_law_all_from.nd rfl (Or.inl rfl))
      (pss_cons (ps_if (pt_cmpR op_ge (pv 5) (pe_callB call_len_seq (by rfl) T.z_len boot_len' (pa_cons (pv 3) pa_nil)) (nomark _)) (pss_one ps_break) pss_nil)
      (pss_cons (ps_if (pt_val (pe_d D_law_is_wide_spot hr (pa_cons (pv 1) (pa_cons (pe_ix ix_list (pv 3) (pv 5) (fun _ _ => rfl)) pa_nil)))) (pss_one ps_continue) pss_nil)
      (pss_one (ps_for PassesOwn.never (by rfl) (pi_list (pe_d D_law_next hr (pa_cons (pv 0) (pa_cons (pv 1) (pa_cons (pe_ix ix_list (pv 3) (pv 5) (fun _ _ => rfl)) pa_nil))))) (pg_name (i := 6) sc_law_all_from.nd rfl (Or.inl rfl))
      (pss_one (ps_if (pt_cmp (pc_dnotin (room_u1 hr) (pv 6) (pv 4))) (pss_cons (ps_dput (room_u1 hr) (pv 4) (pv 6) pe_bl rfl)
      (pss_one (ps_expr (pe_bm PySem.F.plainAttrs_list PySem.F.slot_list_append PySem.F.type_list_append mt_append (pv 3) (pa_cons (pv 6) pa_nil))))) pss_nil)))))))
      (pss_one (ps_ret (pv 3))))), ?_⟩
    walk_at "x"
    refine ⟨by walk_at "sz", fun sl nsl => ?_⟩
    walk_at "x"
    refine x_oneT fun kd nkd => ?_
    walk_at "x"
    have hb2 : upd (upd H sl (.lst [.ref b])) kd (.dT []) b = some (.tup (spV t)) := get_keep nkd (get_keep nsl hb)
    refine ⟨b, kS t, rfl, hb2, upd_same, ?_⟩
    rw [upd_upd]
    have e1 : Same H (upd (upd H sl (.lst [.ref b])) kd (.dT [(kS t, .bl true)])) := same_new (same_new (Same.refl _) nsl) nkd
    have dd : sl ≠ kd := ne_of_none upd_same nkd
    have g1 : upd (upd H sl (.lst [.ref b])) kd (.dT [(kS t, .bl true)]) sl = some (.lst [.ref b]) := get_keep nkd upd_same
    have g2 : upd (upd H sl (.lst [.ref b])) kd (.dT [(kS t, .bl true)]) kd = some (.dT [(kS t, .bl true)]) := upd_same
    have nkd0 : H kd = none := (same_new (Same.refl _) nsl).free nkd
    generalize upd (upd H sl (.lst [.ref b])) kd (.dT [(kS t, .bl true)]) = H1 at e1 g1 g2
    walk_at "x"
    refine ⟨_, rfl, by decide, by decide, ?_⟩
    refine for_range (lo := 0) (n := 200) (fun i σ H' => ∃ (xs : List V) (ss : List Spot) (kvs : List (List L2.Key × V)) (v5 v6 : Option V), σ = [some (.ref l), some (.int n), some (.ref b), some (.ref sl), some (.ref kd), v5, v6] ∧ Same H H' ∧ H' sl = some (.lst xs) ∧ SpotsAt H' xs ss ∧ (∀ s ∈ ss, 0 ≤ s.1 ∧ s.1 < rows.length) ∧ 1 ≤ xs.length ∧ xs.length ≤ 1 + 2 * i ∧ H' kd = some (.dT kvs) ∧ kvs.length ≤ 1 + 2 * i)
      ⟨[.ref b], [t], [(kS t, .bl true)], none, none, rfl, e1, g1, .cons ⟨b, rfl, e1 _ _ hb⟩ .nil, fun s hs => by rw [List.mem_singleton.mp hs]; exact ht, Nat.le_refl _, Nat.le_refl _, g2, Nat.le_refl _⟩ (fun i σ H' hi hP => ?_) (fun σ H' hP => ?_)
    · obtain ⟨xs, ss, kvs, v5, v6, rfl, e, hsl, hs, hin, hx1, hx2, hkd, hk2⟩ := hP
      have hsl2 := hs.len
      walk_at "x"
      refine ⟨sl, xs, rfl, .inl (SqL.of hsl), ?_⟩
      walk_at "x"
      refine x_TF (fun g => ?_) (fun g => ?_)
      · walk_at "x"
        exact q sl H' xs ss e nsl hsl hs (by omega) (by omega)
      · have hlt : i < xs.length := by
          have := of_decide_eq_false g
          omega
        rw [Int.zero_add]
        have hxi := List.getElem?_eq_getElem hlt
        obtain ⟨a, u, hxa, hu, ha⟩ := hs.getR hxi
        have hxi2 : xs[i]? = some (.ref a) := by rw [hxi, hxa]
        have hur := hin u (List.mem_of_getElem? hu)
        walk_at "x"
        refine x_ixL (SqL.of hsl) (atI_nat hxi2) ?_
        walk_at "x"
        refine ⟨n, a, u, rfl, ha, ?_⟩
        walk_at "x"
        cases hwd : wide n u with
        | true =>
          walk_at "x"
          exact ⟨xs, ss, kvs, _, _, rfl, e, hsl, hs, hin, hx1, by omega, hkd, by omega⟩
        | false =>
          walk_at "x"
          refine x_ixL (SqL.of hsl) (atI_nat hxi2) ?_
          walk_at "x"
          refine ⟨l, a, rows, n, u, rfl, e _ _ hl, ha, hur.1, hur.2, hn, wide_in hwd, fun pn H2 ys e2 npn hpn hys => ?_⟩
          have hnin : ∀ t ∈ next (rowAt rows u.1) n u, 0 ≤ t.1 ∧ t.1 < (rows.length : Int) := fun t ht => next_in pr (rowAt_get hur.1 hur.2) (by omega) ht
          have hnl : (next (rowAt rows u.1) n u).length ≤ 2 := next_two _ _ _
          generalize next (rowAt rows u.1) n u = N at hys hnin hnl
          have dps : pn ≠ sl := (ne_of_none hsl npn).symm
          have dpk : pn ≠ kd := (ne_of_none hkd npn).symm
          refine ⟨pn, rfl, ⟨ys, SqL.of hpn⟩, ?_⟩
          refine for_list (xs := ys) (fun j σ H' => ∃ (xs : List V) (ss : List Spot) (kvs : List (List L2.Key × V)) (v5 v6 : Option V), σ = [some (.ref l), some (.int n), some (.ref b), some (.ref sl), some (.ref kd), v5, v6] ∧ Same H H' ∧ H' sl = some (.lst xs) ∧ SpotsAt H' xs ss ∧ (∀ s ∈ ss, 0 ≤ s.1 ∧ s.1 < rows.length) ∧ 1 ≤ xs.length ∧ xs.length ≤ 1 + 2 * i + j ∧ H' kd = some (.dT kvs) ∧ kvs.length ≤ 1 + 2 * i + j ∧ H' pn = some (.lst ys) ∧ SpotsAt H' ys N)
            ⟨xs, ss, kvs, _, _, rfl, e.trans e2, e2 _ _ hsl, hs.same e2, hin, hx1, hx2, e2 _ _ hkd, hk2, hpn, hys⟩ (fun j σ H' _ hP => ?_) (fun j x σ H' hj hP => ?_) (fun σ H' hP => ?_)
          · obtain ⟨_, _, _, _, _, _, _, _, _, _, _, _, _, _, h, _⟩ := hP
            exact SqL.of h
          · obtain ⟨xs, ss, kvs, v5, v6, rfl, e, hsl, hs, hin, hx1, hx2, hkd, hk2, hpn, hys⟩ := hP
            obtain ⟨c, z, rfl, hz, hc⟩ := hys.getR hj
            have hjl := (List.getElem?_eq_some_iff.mp hj).1
            have hyl := hys.len
            walk_at "x"
            refine ⟨kd, _, rfl, DGet.t (k := kS z) hkd hc, ?_⟩
            refine x_bl ?_
            refine x_TF (fun g2 => ?_) (fun g2 => ?_)
            · with_reducible refine x_seq ?_
              with_reducible refine x_dput ?_
              walk_at "x"
              refine ⟨kd, _, rfl, DPut.t (k := kS z) (v := .bl true) hkd hc (Nat.lt_of_lt_of_le (show kvs.length < 1000 by omega) (by decide)), ?_⟩
              have hlk := length_putK kvs (kS z) (.bl true)
              have hsl3 : upd H' kd (.dT (putK kvs (kS z) (.bl true))) sl = some (.lst xs) := (upd_ne dd).trans hsl
              have hkd3 : upd H' kd (.dT (putK kvs (kS z) (.bl true))) kd = some (.dT (putK kvs (kS z) (.bl true))) := upd_same
              have e3 : Same H (upd H' kd (.dT (putK kvs (kS z) (.bl true)))) := same_mut e nkd0
              have ts : TupSame H' (upd H' kd (.dT (putK kvs (kS z) (.bl true)))) := fun b zs hb => (upd_ne (fun y => by rw [y, hkd] at hb; cases hb)).trans hb
              have hs3 := hs.tups ts
              have hys3 := hys.tups ts
              have hc3 := ts _ _ hc
              have hpn3 : upd H' kd (.dT (putK kvs (kS z) (.bl true))) pn = some (.lst ys) := (upd_ne dpk).trans hpn
              generalize upd H' kd (.dT (putK kvs (kS z) (.bl true))) = H3 at hsl3 hkd3 e3 hs3 hys3 hc3 hpn3
              generalize putK kvs (kS z) (.bl true) = kvs3 at hkd3 hlk
              walk_at "x"
              refine ⟨.inl ⟨rfl, _, SqL.of hsl3⟩, ?_⟩
              walk_at "x"
              refine x_app hsl3 (Nat.lt_of_lt_of_le (show xs.length < 1000 by omega) (by decide)) ?_
              have ts4 : TupSame H3 (upd H3 sl (.lst (xs ++ [.ref c]))) := fun b zs hb => (upd_ne (fun y => by rw [y, hsl3] at hb; cases hb)).trans hb
              exact ⟨xs ++ [.ref c], ss ++ [z], kvs3, _, _, rfl, same_mut e3 nsl, upd_same, (hs3.tups ts4).snoc (ts4 _ _ hc3), fun s hs => (List.mem_append.mp hs).elim (hin s) (fun h => by rw [List.mem_singleton.mp h]; exact hnin z (List.mem_of_getElem? hz)), by rw [List.length_append]; omega, by rw [List.length_append, List.length_singleton]; omega, (upd_ne dd.symm).trans hkd3, by omega, (upd_ne dps).trans hpn3, hys3.tups ts4⟩
            · walk_at "x"
              exact ⟨xs, ss, kvs, _, _, rfl, e, hsl, hs, hin, hx1, by omega, hkd, by omega, hpn, hys⟩
          · obtain ⟨xs, ss, kvs, v5, v6, rfl, e, hsl, hs, hin, hx1, hx2, hkd, hk2, hpn, hys⟩ := hP
            have hyl := hys.len
            exact ⟨xs, ss, kvs, _, _, rfl, e, hsl, hs, hin, hx1, by omega, hkd, by omega⟩
    · obtain ⟨xs, ss, kvs, v5, v6, rfl, e, hsl, hs, hin, hx1, hx2, hkd, hk2⟩ := hP
      have hsl2 := hs.len
      walk_at "x"
      exact q sl H' xs ss e nsl hsl hs (by omega) (by omega)
end
end K48
namespace K48
open PySem PySem.Spec PyProof.Rows L2
local macro_rules | `(tactic| walk_at "hg") => `(tactic| first | assumption | exact upd_same | (apply get_keep; assumption; walk_at "hg") | (apply get_same; assumption; walk_at "hg") | (apply get_mut; assumption; walk_at "hg"))
local macro_rules | `(tactic| walk_at "sq") => `(tactic| first | assumption | (apply SqT.of; walk_at "hg") | (apply SqL.of; walk_at "hg") | (apply same_t; assumption; walk_at "sq") | (apply Same.seq; assumption; walk_at "sq"))
local macro_rules | `(tactic| walk_at "sc") => `(tactic| first | omega | decide | assumption | (unfold CMul; omega) | (unfold CDiv; omega) | (show (0 : Int) < _; omega) | (exact cdivw (by omega) (by omega)) | (exact cdivp (by omega) (by omega)))
local macro_rules | `(tactic| walk_at "x1") => `(tactic| first
  | with_reducible refine x_seq ?_
  | with_reducible refine x_var (by with_unfolding_all rfl) ?_
  | with_reducible refine x_c ?_
  | with_reducible refine x_op ?_
  | with_reducible refine x_rI0 ?_
  | with_reducible refine x_bl ?_
  | with_reducible refine x_rEq (by with_unfolding_all rfl) ?_
  | with_reducible refine x_rNe (by with_unfolding_all rfl) ?_
  | with_reducible refine x_asg ?_
  | with_reducible refine x_gname ?_
  | with_reducible refine x_gcons ?_
  | with_reducible refine x_gnil ?_
  | with_reducible refine x_ret ?_
  | with_reducible refine x_drop ?_
  | with_reducible refine x_next ?_
  | with_reducible refine x_cont ?_
  | with_reducible refine x_brk ?_
  | with_reducible refine x_ifS ?_
  | with_reducible refine x_ifE ?_
  | with_reducible refine x_cons ?_
  | with_reducible refine x_nil ?_
  | with_reducible refine x_test ?_
  | with_reducible refine x_tB ?_
  | with_reducible refine x_and ?_
  | with_reducible refine x_or ?_
  | with_reducible refine x_not ?_
  | with_reducible refine x_andV ?_
  | with_reducible refine x_orV ?_
  | with_reducible refine x_notV ?_
  | with_reducible refine x_chain ?_
  | with_reducible refine x_par ?_
  | with_reducible refine x_two ?_
  | with_reducible refine x_un ?_
  | with_reducible refine x_rU ?_
  | with_reducible refine x_cb ?_
  | with_reducible refine x_call ?_
  | with_reducible refine x_sl ?_
  | with_reducible refine x_nopart ?_
  | with_reducible refine x_part ?_
  | with_reducible refine x_int ?_
  | with_reducible refine x_tup ?_
  | with_reducible refine x_lst ?_
  | with_reducible refine x_bm ?_
  | with_reducible refine x_fld ?_
  | with_reducible refine x_chain3 ?_
  | with_reducible refine x_yes ?_
  | with_reducible refine x_lcT ?_
  | with_reducible refine x_lcL ?_
  | with_reducible refine x_for ?_
  | with_reducible refine x_iT ?_
  | with_reducible refine x_iL ?_
  | with_reducible refine x_rng1 ?_
  | with_reducible refine x_rng2 ?_
  | with_reducible refine x_dcT ?_
  | with_reducible refine x_din ?_
  | with_reducible refine x_dni ?_
  | with_reducible refine x_lcE ?_
  | with_reducible refine x_enS ?_
  | with_reducible refine x_m1 ?_
  | with_reducible refine x_gsub ?_
  | ((with_reducible apply x_setl); (focus (walk_at "hg"; done)); (focus (with_unfolding_all rfl; done)))
  | with_reducible refine x_int1 ?_
  | with_reducible refine x_str2 ?_
  | ((with_reducible apply x_rI); (focus (walk_at "sc"; done)))
  | with_reducible refine x_sw ?_
  | with_reducible refine x_ss ?_
  | ((with_reducible apply x_ixT); (focus (walk_at "sq"; done)); (focus (with_unfolding_all rfl; done)))
  | ((with_reducible apply x_ixL); (focus (walk_at "sq"; done)); (focus (with_unfolding_all rfl; done)))
  | ((with_reducible apply x_gtup); (focus (walk_at "sq"; done)); (focus (with_unfolding_all rfl; done)))
  | ((with_reducible apply x_glst); (focus (walk_at "sq"; done)); (focus (with_unfolding_all rfl; done)))
  | with_reducible refine x_F dn_int ?_
  | with_reducible refine x_F dn_ref ?_
  | with_reducible refine x_T dn_non ?_
  | with_reducible refine x_T (by decide +kernel) ?_
  | with_reducible refine x_F (by decide +kernel) ?_)
local macro_rules | `(tactic| walk_at "sz") => `(tactic| first | (exact Nat.le_of_ble_eq_true rfl) | decide | omega)
local macro_rules | `(tactic| walk_at "x") => `(tactic| ((walk_at "x1"); repeat (walk_at "x1")))
section
variable {sp : Addr} {H H' : Hp}
theorem Kd.ex {v : V} (e : Ex sp H H') (s' : SprAt sp H') (k : Kd H v) : Kd H' v := by
  cases v with
  | ref a =>
    by_cases ha : a = sp
    · obtain ⟨g, m, t, h1, _⟩ := s'
      exact .inl ⟨_, by rw [ha]; exact h1⟩
    · rcases k with ⟨xs, h⟩ | ⟨xs, h⟩
      · exact .inl ⟨xs, e _ _ ha h⟩
      · exact .inr ⟨xs, e _ _ ha h⟩
  | _ => exact k
theorem kd_tupOf_ex {v : V} (e : Ex sp H H') (s : SprAt sp H) (s' : SprAt sp H') (k : Kd H v) : tupOf H' v = tupOf H v := by
  cases v with
  | ref a =>
    show seqT (H' a) = seqT (H a)
    by_cases ha : a = sp
    · obtain ⟨g, m, t, h1, _⟩ := s
      obtain ⟨g', m', t', h1', _⟩ := s'
      rw [ha, h1, h1']
      rfl
    · rcases k with ⟨xs, h⟩ | ⟨xs, h⟩ <;> rw [h, e _ _ ha h]
  | _ => rfl
theorem PItem.ex {v : V} (e : Ex sp H H') (s : SprAt sp H) (s' : SprAt sp H') (h : PItem H v) : PItem H' v := ⟨h.1.ex e s', fun xs hx => by
  rw [kd_tupOf_ex e s s' h.1] at hx
  obtain ⟨h1, h2⟩ := h.2 xs hx
  exact ⟨h1, fun x hm => (h2 x hm).ex e s'⟩⟩
theorem kd_upd {v : V} {p : Addr} {ys : List V} (k : Kd H v) : Kd (upd H p (.lst ys)) v := by
  cases v with
  | ref a =>
    by_cases ha : a = p
    · exact .inl ⟨ys, by rw [ha]; exact upd_same⟩
    · rcases k with ⟨xs, h⟩ | ⟨xs, h⟩
      · exact .inl ⟨xs, (upd_ne ha).trans h⟩
      · exact .inr ⟨xs, (upd_ne ha).trans h⟩
  | _ => exact k
theorem item_tup {p : Addr} {xs : List V} (h : H p = some (.tup xs)) (hl : xs.length < 100) (hk : ∀ x ∈ xs, Kd H x) : PItem H (.ref p) := ⟨.inr ⟨xs, h⟩, fun ys hy => by
  have : some xs = some ys := by
    rw [← hy]
    show some xs = seqT (H p)
    rw [h]
    rfl
  cases this
  exact ⟨hl, hk⟩⟩
theorem item_lst {p : Addr} {xs : List V} (h : H p = some (.lst xs)) : PItem H (.ref p) := ⟨.inl ⟨xs, h⟩, fun ys hy => by
  have : (none : Option (List V)) = some ys := by
    rw [← hy]
    show none = seqT (H p)
    rw [h]
    rfl
  cases this⟩
end
section
variable {P : Program} {w : World} {K : PySem.W.Frag} {mg : Str → Option Value} {base : Heap}
def spBentSpot : Sp := fun vs H Q _ => ∃ sp l s rows t, vs = [.ref sp, .ref l, .ref s] ∧ SprAt sp H ∧ H l = some (.lst (textsV rows)) ∧ l ≠ sp ∧ 1 ≤ rows.length ∧ rows.length ≤ 8 ∧ H s = some (.tup (spV t)) ∧ ∀ x H', Ex sp H H' → SprAt sp H' → PItem H' x → Q x H'
theorem sc_law_bent_spot : FnScope ["_law_spring_here", "_law_lines", "_law_spot", "_law_way", "_law_parts_here"] ["_law_spring_here", "_law_lines", "_law_spot"] (defScope s__law_bent_spot) := ⟨rfl, rfl, rfl, by decide +kernel, rfl, by decide +kernel, by decide +kernel⟩
theorem ok__law_bent_spot (T : Tx w K mg) (B : HasDef K mg "_law_bent_spot" s__law_bent_spot ["_law_spring_here", "_law_lines", "_law_spot"]) (D_law_draw : Def P w K mg base "_law_draw" 1 ["_law_spring_here", "_law_size_here"] spDraw) (D_law_of : Def P w K mg base "_law_of" 2 ["_law_spring_here", "_law_menu"] spOf) :
    Def P w K mg base "_law_bent_spot" 3 ["_law_spring_here", "_law_lines", "_law_spot"] spBentSpot := by
  refine Def.mk B sc_law_bent_spot (fun vs H Q E h => ?_) (fun f cdv A outer s H vs Q E hr h => ?_)
  · obtain ⟨sp, l, s, rows, t, rfl, _⟩ := h
    rfl
  · obtain ⟨sp, l, sa, rows, t, rfl, hs, hl, nl, h1, h8, hsa, q⟩ := h
    have hsa : H sa = some (.tup [.int t.1, .int t.2.1, .int t.2.2.1, .int t.2.2.2]) := hsa
    refine ⟨_, (pss_cons (ps_par (i := 3) (j := 4) (by rfl) sc_law_bent_spot.nd rfl rfl (by decide) rfl rfl (pa_cons (pe_d D_law_draw hr (pa_cons (pv 0) (pa_cons pe_int pa_nil))) (pa_cons (pe_callTy call_list_of (by rfl) T.z_list boot_list' (pa_cons (pv 2) pa_nil)) pa_nil)) (by rfl))
      (pss_cons (ps_if (pt_cmpR op_lt (pv 3) pe_int (nomark _)) (pss_one (ps_asg (pe_op op_sub (pe_op op_add (pe_ix ix_list (pv 4) (pe_op op_add pe_int (pv 3)) (fun _ _ => rfl)) pe_int) (pe_op op_mul pe_int (pe_d D_law_draw hr (pa_cons (pv 0) (pa_cons pe_int pa_nil))))) (pg_sub (pv 4) (pe_op op_add pe_int (pv 3)) set_list))) pss_nil)
      (pss_cons (ps_if (pt_cmpR op_eq (pv 3) pe_int (nomark _)) (pss_one (ps_asg (pe_d D_law_of hr (pa_cons (pv 0) (pa_cons (pe_lst (pa_cons (pe_un un_neg pe_int) (pa_cons (pe_callB call_len_seq (by rfl) T.z_len boot_len' (pa_cons (pv 1) pa_nil)) (pa_cons (pe_d D_law_draw hr (pa_cons (pv 0) (pa_cons (pe_callB call_len_seq (by rfl) T.z_len boot_len' (pa_cons (pv 1) pa_nil)) pa_nil))) (pa_cons (pe_op op_sub (pe_ix ix_tup (pv 2) pe_int (fun _ _ => rfl)) (pe_callB call_len_seq (by rfl) T.z_len boot_len' (pa_cons (pv 1) pa_nil))) pa_nil))))) pa_nil))) (pg_sub (pv 4) pe_int set_list))) pss_nil)
      (pss_cons (ps_if (pt_cmpR op_eq (pv 3) pe_int (nomark _)) (pss_one (ps_asg (pe_d D_law_of hr (pa_cons (pv 0) (pa_cons (pe_lst (pa_cons pe_non (pa_cons pe_bl (pa_cons pe_bl (pa_cons pe_str (pa_cons (pe_lst (pa_cons pe_int pa_nil)) (pa_cons (pe_tup (pa_cons pe_int pa_nil)) pa_nil))))))) pa_nil))) (pg_sub (pv 4) (pe_d D_law_draw hr (pa_cons (pv 0) (pa_cons pe_int pa_nil))) set_list))) pss_nil)
      (pss_cons (ps_if (pt_cmpR op_eq (pv 3) pe_int (nomark _)) (pss_one (ps_set (i := 4) sc_law_bent_spot.nd rfl (Or.inl rfl) (pe_d D_law_of hr (pa_cons (pv 0) (pa_cons (pe_lst (pa_cons (pe_slice sl_list (pv 4) po_none (po_some pe_int)) (pa_cons (pe_op op_cat (pv 4) (pe_lst (pa_cons pe_int pa_nil))) (pa_cons (pe_lst pa_nil) pa_nil)))) pa_nil))))) pss_nil)
      (pss_one (ps_ret (pe_ifExp (pt_cmpR op_eq (pv 3) pe_int (nomark _)) (pe_callTy call_list_of (by rfl) T.z_list boot_list' (pa_cons (pv 2) pa_nil)) (pe_callTy call_tuple_of (by rfl) T.z_tuple boot_tuple' (pa_cons (pv 4) pa_nil)))))))))), ?_⟩
    have hlr : (textsV rows).length = rows.length := List.length_map _
    have fin : ∀ (H2 : Hp) (p : Addr) (xs : List V), Ex sp H H2 → SprAt sp H2 → H2 p = some (.lst xs) → xs.length < 100 → (∀ x ∈ xs, Kd H2 x) → ∀ q1, H2 q1 = none → Q (.ref q1) (upd H2 q1 (.tup xs)) := fun H2 p xs e s' hp hx hk q1 nq =>
      q _ _ (e.new nq) (s'.keep nq) (item_tup upd_same hx fun x hm => (hk x hm).same (same_new (Same.refl _) nq))
    walk_at "x"
    refine ⟨sp, 8, rfl, hs, by decide, by decide, fun d H1 e1 s1 d0 d1 => ?_⟩
    have hsa1 := (e1.tups hs) _ _ hsa
    have hl1 := e1 _ _ nl hl
    walk_at "x"
    refine ⟨sa, _, rfl, .inr (SqT.of hsa1), fun p0 n0 => ?_⟩
    have ne0 := s1.ne n0
    have hp0 : upd H1 p0 (.lst [.int t.1, .int t.2.1, .int t.2.2.1, .int t.2.2.2]) p0 = some (.lst [.int t.1, .int t.2.1, .int t.2.2.1, .int t.2.2.2]) := upd_same
    have e2 : Ex sp H (upd H1 p0 (.lst [.int t.1, .int t.2.1, .int t.2.2.1, .int t.2.2.2])) := e1.new n0
    have s2 := s1.keep (u := .lst [.int t.1, .int t.2.1, .int t.2.2.1, .int t.2.2.2]) n0
    have hl2 := get_keep (u := .lst [.int t.1, .int t.2.1, .int t.2.2.1, .int t.2.2.2]) n0 hl1
    have hsa2 := get_keep (u := .lst [.int t.1, .int t.2.1, .int t.2.2.1, .int t.2.2.2]) n0 hsa1
    have np0 : H p0 = none := e1.free s1 n0
    generalize upd H1 p0 (.lst [.int t.1, .int t.2.1, .int t.2.2.1, .int t.2.2.2]) = H2 at hp0 e2 s2 hl2 hsa2
    have mutL : ∀ (H3 : Hp) (u : HO), Ex sp H H3 → SprAt sp H3 → Ex sp H (upd H3 p0 u) ∧ SprAt sp (upd H3 p0 u) := fun H3 u e s' => ⟨fun a o ne h => (upd_ne (ne_of_none h np0)).trans (e a o ne h), let ⟨g, m, t, k1, k2⟩ := s'; ⟨g, m, t, (upd_ne ne0.symm).trans k1, k2⟩⟩
    have ints4 : ∀ (H3 : Hp) (a b c d : Int), ∀ x ∈ [V.int a, .int b, .int c, .int d], Kd H3 x := fun H3 a b c d x hx => by
      simp only [List.mem_cons, List.not_mem_nil, or_false] at hx
      rcases hx with rfl | rfl | rfl | rfl <;> exact trivial
    have hd : d = 0 ∨ d = 1 ∨ d = 2 ∨ d = 3 ∨ d = 4 ∨ d = 5 ∨ d = 6 ∨ d = 7 := by omega
    rcases hd with rfl | rfl | rfl | rfl | rfl | rfl | rfl | rfl
    · walk_at "x"
      refine ⟨sp, 2, rfl, s2, by decide, by decide, fun d2 H3 e3 s3 _ _ => ?_⟩
      have hp3 := e3 _ _ ne0 hp0
      have e23 := e2.trans e3
      walk_at "x"
      obtain ⟨m1, m2⟩ := mutL H3 (.lst ([V.int t.1, .int t.2.1, .int t.2.2.1, .int t.2.2.2].set 1 (.int (t.2.1 + 1 - 2 * d2)))) e23 s3
      refine ⟨p0, _, rfl, .inl ⟨SqL.of upd_same, fun q1 nq => fin _ p0 _ m1 m2 upd_same (by simp) (ints4 _ _ _ _ _) q1 nq⟩⟩
    · walk_at "x"
      refine ⟨sp, 2, rfl, s2, by decide, by decide, fun d2 H3 e3 s3 _ _ => ?_⟩
      have hp3 := e3 _ _ ne0 hp0
      have e23 := e2.trans e3
      walk_at "x"
      obtain ⟨m1, m2⟩ := mutL H3 (.lst ([V.int t.1, .int t.2.1, .int t.2.2.1, .int t.2.2.2].set 2 (.int (t.2.2.1 + 1 - 2 * d2)))) e23 s3
      refine ⟨p0, _, rfl, .inl ⟨SqL.of upd_same, fun q1 nq => fin _ p0 _ m1 m2 upd_same (by simp) (ints4 _ _ _ _ _) q1 nq⟩⟩
    · walk_at "x"
      refine ⟨sp, 2, rfl, s2, by decide, by decide, fun d2 H3 e3 s3 _ _ => ?_⟩
      have hp3 := e3 _ _ ne0 hp0
      have e23 := e2.trans e3
      walk_at "x"
      obtain ⟨m1, m2⟩ := mutL H3 (.lst ([V.int t.1, .int t.2.1, .int t.2.2.1, .int t.2.2.2].set 3 (.int (t.2.2.2 + 1 - 2 * d2)))) e23 s3
      refine ⟨p0, _, rfl, .inl ⟨SqL.of upd_same, fun q1 nq => fin _ p0 _ m1 m2 upd_same (by simp) (ints4 _ _ _ _ _) q1 nq⟩⟩
    · walk_at "x"
      refine ⟨l, _, rfl, .inl (SqL.of hl2), ?_⟩
      rw [hlr]
      walk_at "x"
      refine ⟨l, _, rfl, .inl (SqL.of hl2), ?_⟩
      rw [hlr]
      refine ⟨sp, rows.length, rfl, s2, by omega, by omega, fun d2 H3 e3 s3 _ _ => ?_⟩
      have hp3 := e3 _ _ ne0 hp0
      have hl3 := e3 _ _ nl hl2
      have hsa3 := (e3.tups s2) _ _ hsa2
      have e23 := e2.trans e3
      walk_at "x"
      refine ⟨l, _, rfl, .inl (SqL.of hl3), ?_⟩
      rw [hlr]
      walk_at "x"
      refine ⟨by walk_at "sz", fun p5 n5 => ?_⟩
      walk_at "x"
      refine ⟨sp, p5, _, rfl, s3.keep n5, upd_same, s3.ne n5, by simp, by simp, fun x H5 e5 s5 hx => ?_⟩
      obtain ⟨i, rfl⟩ : ∃ i, x = V.int i := by
        simp only [List.mem_cons, List.not_mem_nil, or_false] at hx
        rcases hx with rfl | rfl | rfl | rfl <;> exact ⟨_, rfl⟩
      have hp5 := e5 _ _ ne0 (get_keep n5 hp3)
      have e25 := (e23.new n5).trans e5
      walk_at "x"
      obtain ⟨m1, m2⟩ := mutL H5 (.lst ([V.int t.1, .int t.2.1, .int t.2.2.1, .int t.2.2.2].set 0 (.int i))) e25 s5
      refine ⟨p0, _, rfl, .inl ⟨SqL.of upd_same, fun q1 nq => fin _ p0 _ m1 m2 upd_same (by simp) (ints4 _ _ _ _ _) q1 nq⟩⟩
    · walk_at "x"
      refine ⟨by walk_at "sz", fun p3 n3 => ?_⟩
      walk_at "x"
      refine ⟨by walk_at "sz", fun p4 n4 => ?_⟩
      walk_at "x"
      refine ⟨by walk_at "sz", fun p5 n5 => ?_⟩
      walk_at "x"
      refine ⟨sp, p5, _, rfl, ((s2.keep n3).keep n4).keep n5, upd_same, ((s2.keep n3).keep n4).ne n5, by simp, by simp, fun x H5 e5 s5 hx => ?_⟩
      have e35 : Ex sp H2 H5 := ((((Ex.refl H2).new n3).new n4).new n5).trans e5
      have hp5 := e35 _ _ ne0 hp0
      have e25 := e2.trans e35
      have n3s := s2.ne n3
      have n4s := (s2.keep (u := .lst [.int 0]) n3).ne n4
      have kx : Kd H5 x := by
        simp only [List.mem_cons, List.not_mem_nil, or_false] at hx
        rcases hx with rfl | rfl | rfl | rfl | rfl | rfl
        · exact trivial
        · exact trivial
        · exact trivial
        · exact trivial
        · exact .inl ⟨_, e5 _ _ n3s (get_keep n5 (get_keep n4 upd_same))⟩
        · exact .inr ⟨_, e5 _ _ n4s (get_keep n5 upd_same)⟩
      walk_at "x"
      refine ⟨sp, 4, rfl, s5, by decide, by decide, fun d6 H6 e6 s6 d60 d61 => ?_⟩
      have hp6 := e6 _ _ ne0 hp5
      have e26 := e25.trans e6
      have kx6 := kx.ex e6 s6
      obtain ⟨m1, m2⟩ := mutL H6 (.lst ([V.int t.1, .int t.2.1, .int t.2.2.1, .int t.2.2.2].set d6.toNat x)) e26 s6
      refine x_setl hp6 (j := d6.toNat) ?_ ?_
      · have : d6 = 0 ∨ d6 = 1 ∨ d6 = 2 ∨ d6 = 3 := by omega
        rcases this with rfl | rfl | rfl | rfl <;> rfl
      · walk_at "x"
        refine ⟨p0, _, rfl, .inl ⟨SqL.of upd_same, fun q1 nq => fin _ p0 _ m1 m2 upd_same (by simp) (fun y hy => ?_) q1 nq⟩⟩
        rcases List.mem_or_eq_of_mem_set hy with hy | hy
        · exact ints4 _ _ _ _ _ y hy
        · rw [hy]
          exact kd_upd kx6
    · walk_at "x"
      refine ⟨p0, _, rfl, SqL.of hp0, fun p1 n1 => ?_⟩
      have hp01 := get_keep (u := .lst (cutV [V.int t.1, .int t.2.1, .int t.2.2.1, .int t.2.2.2] none (some 3))) n1 hp0
      walk_at "x"
      refine ⟨by walk_at "sz", fun p2 n2 => ?_⟩
      refine ⟨p0, p2, _, _, rfl, rfl, get_keep n2 hp01, upd_same, by walk_at "sz", fun p3 n3 => ?_⟩
      walk_at "x"
      refine ⟨by walk_at "sz", fun p4 n4 => ?_⟩
      walk_at "x"
      refine ⟨by walk_at "sz", fun p5 n5 => ?_⟩
      walk_at "x"
      have s23 := ((s2.keep (u := .lst (cutV [V.int t.1, .int t.2.1, .int t.2.2.1, .int t.2.2.2] none (some 3))) n1).keep (u := .lst [.int 0]) n2)
      have s24 := s23.keep (u := .lst ([V.int t.1, .int t.2.1, .int t.2.2.1, .int t.2.2.2] ++ [.int 0])) n3
      have s25 := s24.keep (u := .lst []) n4
      refine ⟨sp, p5, _, rfl, s25.keep n5, upd_same, s25.ne n5, by simp, by simp, fun x H5 e5 s5 hx => ?_⟩
      have e25 : Ex sp H H5 := (((((e2.new n1).new n2).new n3).new n4).new n5).trans e5
      have r1 := e5 _ _ (s2.ne n1) (get_keep n5 (get_keep n4 (get_keep n3 (get_keep n2 upd_same))))
      have r3 := e5 _ _ (s23.ne n3) (get_keep n5 (get_keep n4 upd_same))
      have r4 := e5 _ _ (s24.ne n4) (get_keep n5 upd_same)
      obtain ⟨pp, zs, rfl, hpp, hz1, hz2⟩ : ∃ pp zs, x = V.ref pp ∧ H5 pp = some (.lst zs) ∧ zs.length < 100 ∧ ∀ y ∈ zs, Kd H5 y := by
        simp only [List.mem_cons, List.not_mem_nil, or_false] at hx
        rcases hx with rfl | rfl | rfl
        · exact ⟨p1, _, rfl, r1, Nat.lt_of_le_of_lt (cutV_length _ _ _) (by simp), fun y hy => ints4 _ _ _ _ _ y (List.mem_of_mem_drop (List.mem_of_mem_take hy))⟩
        · refine ⟨p3, _, rfl, r3, by simp, fun y hy => ?_⟩
          rcases List.mem_append.mp hy with hy | hy
          · exact ints4 _ _ _ _ _ y hy
          · rw [List.mem_singleton.mp hy]
            exact trivial
        · exact ⟨p4, _, rfl, r4, by decide, fun _ h => nomatch h⟩
      walk_at "x"
      exact ⟨pp, zs, rfl, .inl ⟨SqL.of hpp, fun q1 nq => fin _ pp zs e25 s5 hpp hz1 hz2 q1 nq⟩⟩
    · walk_at "x"
      refine ⟨sa, _, rfl, .inr (SqT.of hsa2), fun p1 n1 => ?_⟩
      exact q _ _ (e2.new n1) (s2.keep n1) (item_lst upd_same)
    · walk_at "x"
      refine ⟨p0, _, rfl, .inl ⟨SqL.of hp0, fun q1 nq => fin _ p0 _ e2 s2 hp0 (by simp) (ints4 _ _ _ _ _) q1 nq⟩⟩
end
end K48
namespace K48
open PySem PySem.Spec PyProof.Rows L2
local macro_rules | `(tactic| walk_at "hg") => `(tactic| first | assumption | exact upd_same | (apply get_keep; assumption; walk_at "hg") | (apply get_same; assumption; walk_at "hg") | (apply get_mut; assumption; walk_at "hg"))
local macro_rules | `(tactic| walk_at "sq") => `(tactic| first | assumption | (apply SqT.of; walk_at "hg") | (apply SqL.of; walk_at "hg") | (apply same_t; assumption; walk_at "sq") | (apply Same.seq; assumption; walk_at "sq"))
local macro_rules | `(tactic| walk_at "sc") => `(tactic| first | omega | decide | assumption | (unfold CMul; omega) | (unfold CDiv; omega) | (show (0 : Int) < _; omega) | (exact cdivw (by omega) (by omega)) | (exact cdivp (by omega) (by omega)))
local macro_rules | `(tactic| walk_at "x1") => `(tactic| first
  | with_reducible refine x_seq ?_
  | with_reducible refine x_var (by with_unfolding_all rfl) ?_
  | with_reducible refine x_c ?_
  | with_reducible refine x_op ?_
  | with_reducible refine x_rI0 ?_
  | with_reducible refine x_bl ?_
  | with_reducible refine x_rEq (by with_unfolding_all rfl) ?_
  | with_reducible refine x_rNe (by with_unfolding_all rfl) ?_
  | with_reducible refine x_asg ?_
  | with_reducible refine x_gname ?_
  | with_reducible refine x_gcons ?_
  | with_reducible refine x_gnil ?_
  | with_reducible refine x_ret ?_
  | with_reducible refine x_drop ?_
  | with_reducible refine x_next ?_
  | with_reducible refine x_cont ?_
  | with_reducible refine x_brk ?_
  | with_reducible refine x_ifS ?_
  | with_reducible refine x_ifE ?_
  | with_reducible refine x_cons ?_
  | with_reducible refine x_nil ?_
  | with_reducible refine x_test ?_
  | with_reducible refine x_tB ?_
  | with_reducible refine x_and ?_
  | with_reducible refine x_or ?_
  | with_reducible refine x_not ?_
  | with_reducible refine x_andV ?_
  | with_reducible refine x_orV ?_
  | with_reducible refine x_notV ?_
  | with_reducible refine x_chain ?_
  | with_reducible refine x_par ?_
  | with_reducible refine x_two ?_
  | with_reducible refine x_un ?_
  | with_reducible refine x_rU ?_
  | with_reducible refine x_cb ?_
  | with_reducible refine x_call ?_
  | with_reducible refine x_sl ?_
  | with_reducible refine x_nopart ?_
  | with_reducible refine x_part ?_
  | with_reducible refine x_int ?_
  | with_reducible refine x_tup ?_
  | with_reducible refine x_lst ?_
  | with_reducible refine x_bm ?_
  | with_reducible refine x_fld ?_
  | with_reducible refine x_chain3 ?_
  | with_reducible refine x_yes ?_
  | with_reducible refine x_lcT ?_
  | with_reducible refine x_lcL ?_
  | with_reducible refine x_for ?_
  | with_reducible refine x_iT ?_
  | with_reducible refine x_iL ?_
  | with_reducible refine x_rng1 ?_
  | with_reducible refine x_rng2 ?_
  | with_reducible refine x_dcT ?_
  | with_reducible refine x_din ?_
  | with_reducible refine x_dni ?_
  | with_reducible refine x_lcE ?_
  | with_reducible refine x_enS ?_
  | with_reducible refine x_m1 ?_
  | with_reducible refine x_gsub ?_
  | ((with_reducible apply x_setl); (focus (walk_at "hg"; done)); (focus (with_unfolding_all rfl; done)))
  | with_reducible refine x_int1 ?_
  | with_reducible refine x_str2 ?_
  | ((with_reducible apply x_rI); (focus (walk_at "sc"; done)))
  | with_reducible refine x_sw ?_
  | with_reducible refine x_ss ?_
  | ((with_reducible apply x_ixT); (focus (walk_at "sq"; done)); (focus (with_unfolding_all rfl; done)))
  | ((with_reducible apply x_ixL); (focus (walk_at "sq"; done)); (focus (with_unfolding_all rfl; done)))
  | ((with_reducible apply x_gtup); (focus (walk_at "sq"; done)); (focus (with_unfolding_all rfl; done)))
  | ((with_reducible apply x_glst); (focus (walk_at "sq"; done)); (focus (with_unfolding_all rfl; done)))
  | with_reducible refine x_F dn_int ?_
  | with_reducible refine x_F dn_ref ?_
  | with_reducible refine x_T dn_non ?_
  | with_reducible refine x_T (by decide +kernel) ?_
  | with_reducible refine x_F (by decide +kernel) ?_)
local macro_rules | `(tactic| walk_at "sz") => `(tactic| first | (exact Nat.le_of_ble_eq_true rfl) | decide | omega)
local macro_rules | `(tactic| walk_at "x") => `(tactic| ((walk_at "x1"); repeat (walk_at "x1")))
theorem x_revL {K : PySem.W.Frag} {te : TE} {σ : L2.St} {H : Hp} {Q : VK} (q : te σ H fun x H1 => ∃ a xs, x = .ref a ∧ SqL K H1 a xs ∧ ∀ p, H1 p = none → Q (.ref p) (upd H1 p (.lst xs.reverse))) : tRevL K te σ H Q := q
theorem mem_cut {xs : List V} {lo hi : Option Int} {x : V} (h : x ∈ cutV xs lo hi) : x ∈ xs := List.mem_of_mem_drop (List.mem_of_mem_take h)
theorem eqv_spD (s t : Spot) : PyData.eqv (spD s) (spD t) = decide (s = t) := by
  obtain ⟨a, b, c, d⟩ := s
  obtain ⟨a', b', c', d'⟩ := t
  simp [spD, PyData.eqv, PyData.eqvAll, beq_dec, Bool.decide_and]
theorem lay_spD (s : Spot) : SeqAt.shaped (spD s) = true := shaped_tup (lay_ints [s.1, s.2.1, s.2.2.1, s.2.2.2]) (Nat.le_trans (depth_ints [s.1, s.2.1, s.2.2.1, s.2.2.2]) (by decide))
section
variable {P : Program} {w : World} {K : PySem.W.Frag} {mg : Str → Option Value} {base : Heap}
theorem spots_items {H : Hp} {xs : List V} {ss : List Spot} (h : SpotsAt H xs ss) : ∀ y ∈ xs, PItem H y := fun y hy => by
  obtain ⟨i, hi⟩ := List.getElem?_of_mem hy
  obtain ⟨a, s, rfl, _, ha⟩ := h.getR hi
  refine item_tup ha (by simp [spV]) fun x hx => ?_
  simp only [spV, List.mem_cons, List.not_mem_nil, or_false] at hx
  rcases hx with rfl | rfl | rfl | rfl <;> exact trivial
theorem SpotsAt.ex {sp : Addr} {H H' : Hp} {xs : List V} {ss : List Spot} (e : Ex sp H H') (s : SprAt sp H) (h : SpotsAt H xs ss) : SpotsAt H' xs ss := h.tups (e.tups s)
def spBent : Sp := fun vs H Q _ => ∃ sp l sl rows n xs ss, vs = [.ref sp, .ref l, .int n, .ref sl] ∧ SprAt sp H ∧ H l = some (.lst (textsV rows)) ∧ Prg rows ∧ (1 ≤ n ∧ n ≤ 10 ^ 30) ∧ H sl = some (.lst xs) ∧ SpotsAt H xs ss ∧ 1 ≤ xs.length ∧ xs.length ≤ 500 ∧ l ≠ sp ∧ sl ≠ sp ∧
  ∀ p H' ys, Ex sp H H' → SprAt sp H' → H' p = some (.lst ys) → ys.length ≤ 2000 → (∀ y ∈ ys, PItem H' y) → Q (.ref p) H'
theorem sc_law_bent : FnScope ["_law_spring_here", "_law_lines", "_law_number_here", "_law_some", "_law_way", "_law_at", "_law_low", "_law_begin_here", "_law_more", "_law_spot"] ["_law_spring_here", "_law_lines", "_law_number_here", "_law_some"] (defScope s__law_bent) := ⟨rfl, rfl, rfl, by decide +kernel, rfl, by decide +kernel, by decide +kernel⟩
theorem ok__law_bent (T : Tx w K mg) (B : HasDef K mg "_law_bent" s__law_bent ["_law_spring_here", "_law_lines", "_law_number_here", "_law_some"]) (D_law_draw : Def P w K mg base "_law_draw" 1 ["_law_spring_here", "_law_size_here"] spDraw)
    (D_law_all_from : Def P w K mg base "_law_all_from" 4 ["_law_lines", "_law_number_here", "_law_begin_here"] spAll) (D_law_bent_spot : Def P w K mg base "_law_bent_spot" 3 ["_law_spring_here", "_law_lines", "_law_spot"] spBentSpot) :
    Def P w K mg base "_law_bent" 5 ["_law_spring_here", "_law_lines", "_law_number_here", "_law_some"] spBent := by
  refine Def.mk B sc_law_bent (fun vs H Q E h => ?_) (fun f cdv A outer s H vs Q E hr h => ?_)
  · obtain ⟨sp, l, sl, rows, n, xs, ss, rfl, _⟩ := h
    rfl
  · obtain ⟨sp, l, sl, rows, n, xs, ss, rfl, hs, hl, pr, hn, hsl, hss, hx1, hx2, nl, nsl, q⟩ := h
    refine ⟨_, (pss_cons (ps_par (i := 4) (j := 5) (by rfl) sc_law_bent.nd rfl rfl (by decide) rfl rfl (pa_cons (pe_d D_law_draw hr (pa_cons (pv 0) (pa_cons pe_int pa_nil))) (pa_cons (pe_d D_law_draw hr (pa_cons (pv 0) (pa_cons (pe_callB call_len_seq (by rfl) T.z_len boot_len' (pa_cons (pv 3) pa_nil)) pa_nil))) pa_nil)) (by rfl))
      (pss_cons (ps_if (pt_cmpR op_eq (pv 4) pe_int (nomark _)) (pss_one (ps_set (i := 3) sc_law_bent.nd rfl (Or.inr rfl) (pe_op op_cat (pe_slice sl_list (pv 3) po_none (po_some (pv 5))) (pe_slice sl_list (pv 3) (po_some (pe_op op_add (pv 5) pe_int)) po_none)))) pss_nil)
      (pss_cons (ps_if (pt_cmpR op_eq (pv 4) pe_int (nomark _)) (pss_one (ps_set (i := 3) sc_law_bent.nd rfl (Or.inr rfl) (pe_op op_cat (pv 3) (pe_lst (pa_cons (pe_ix ix_list (pv 3) (pv 5) (fun _ _ => rfl)) pa_nil))))) pss_nil)
      (pss_cons (ps_if (pt_cmpR op_eq (pv 4) pe_int (nomark _)) (pss_cons (ps_set (i := 6) sc_law_bent.nd rfl (Or.inl rfl) (pe_op op_mul (pv 2) (pe_op op_sub (pe_d D_law_draw hr (pa_cons (pv 0) (pa_cons pe_int pa_nil))) pe_int)))
      (pss_cons (ps_set (i := 7) sc_law_bent.nd rfl (Or.inl rfl) (pe_tup (pa_cons (pe_d D_law_draw hr (pa_cons (pv 0) (pa_cons (pe_callB call_len_seq (by rfl) T.z_len boot_len' (pa_cons (pv 1) pa_nil)) pa_nil))) (pa_cons (pv 6) (pa_cons (pe_op op_add (pe_op op_add (pv 6) pe_int) (pe_d D_law_draw hr (pa_cons (pv 0) (pa_cons (pv 2) pa_nil)))) (pa_cons (pv 2) pa_nil))))))
      (pss_cons (ps_set (i := 8) sc_law_bent.nd rfl (Or.inl rfl) (pe_d D_law_all_from hr (pa_cons (pv 1) (pa_cons (pv 2) (pa_cons (pv 7) pa_nil)))))
      (pss_one (ps_set (i := 3) sc_law_bent.nd rfl (Or.inr rfl) (pe_op op_cat (pv 3) (pe_lc (own := [("_law_spot", 9)]) (by rfl) sc_law_bent.nd (pi_list (pv 8)) (blkOk_by (N := ["_law_spring_here", "_law_lines", "_law_number_here", "_law_some", "_law_way", "_law_at", "_law_low", "_law_begin_here", "_law_more", "_law_spot"]) (sc := defScope s__law_bent) (by decide +kernel)) (fun _ _ _ _ _ => (pg_name (i := 9) sc_law_bent.nd rfl (Or.inl rfl))) (fun _ _ _ _ _ => (pts_one (pt_cmpR (r := rNotInD K) (op_notInD (room65 hr)) (pv 9) (pv 3) (by rfl)))) (fun _ _ _ _ _ => (pv 9))))))))) pss_nil)
      (pss_cons (ps_if (pt_cmpR op_eq (pv 4) pe_int (nomark _)) (pss_one (ps_set (i := 3) sc_law_bent.nd rfl (Or.inr rfl) (pe_op op_cat (pe_op op_cat (pe_slice sl_list (pv 3) po_none (po_some (pv 5))) (pe_lst (pa_cons (pe_d D_law_bent_spot hr (pa_cons (pv 0) (pa_cons (pv 1) (pa_cons (pe_ix ix_list (pv 3) (pv 5) (fun _ _ => rfl)) pa_nil)))) pa_nil))) (pe_slice sl_list (pv 3) (po_some (pe_op op_add (pv 5) pe_int)) po_none)))) pss_nil)
      (pss_one (ps_ret (pe_ifExp (pt_cmpR op_eq (pe_d D_law_draw hr (pa_cons (pv 0) (pa_cons pe_int pa_nil))) pe_int (nomark _)) (pe_revL (pv 3)) (pv 3))))))))), ?_⟩
    have hlr : (textsV rows).length = rows.length := List.length_map _
    have hp8 := pr.most
    have hp1 := pr.pos
    walk_at "x"
    refine ⟨sp, 7, rfl, hs, by decide, by decide, fun d H1 e1 s1 d0 d1 => ?_⟩
    have hsl1 := e1 _ _ nsl hsl
    walk_at "x"
    refine ⟨sl, xs, rfl, .inl (SqL.of hsl1), ?_⟩
    walk_at "x"
    refine ⟨sp, xs.length, rfl, s1, by omega, by omega, fun dt H2 e2 s2 d20 d21 => ?_⟩
    obtain ⟨at_, rfl⟩ : ∃ a : Nat, dt = (a : Int) := ⟨dt.toNat, by omega⟩
    have hat : at_ < xs.length := by omega
    have e12 := e1.trans e2
    have hsl2 := e2 _ _ nsl hsl1
    have hl2 := e12 _ _ nl hl
    have hss2 := hss.ex e12 hs
    have hit2 := spots_items hss2
    have hd : d = 0 ∨ d = 1 ∨ d = 2 ∨ d = 3 ∨ (d ≠ 0 ∧ d ≠ 1 ∧ d ≠ 2 ∧ d ≠ 3) := by omega
    rcases hd with rfl | rfl | rfl | rfl | ⟨g0, g1, g2, g3⟩
    · walk_at "x"
      refine ⟨sl, xs, rfl, SqL.of hsl2, fun p1 n1 => ?_⟩
      have hsl3 := get_keep (u := .lst (cutV xs none (some (at_ : Int)))) n1 hsl2
      walk_at "x"
      refine ⟨sl, xs, rfl, SqL.of hsl3, fun p2 n2 => ?_⟩
      refine ⟨p1, p2, _, _, rfl, rfl, get_keep n2 upd_same, upd_same, Nat.le_trans (Nat.add_le_add (cutV_length _ _ _) (cutV_length _ _ _)) (Nat.le_trans (show xs.length + xs.length ≤ 1000 by omega) (by decide)), fun pS nS0 => ?_⟩
      have eS : Same H2 (upd (upd (upd H2 p1 (.lst (cutV xs none (some (at_ : Int))))) p2 (.lst (cutV xs (some ((at_ : Int) + 1)) none))) pS (.lst (cutV xs none (some (at_ : Int)) ++ cutV xs (some ((at_ : Int) + 1)) none))) := same_new (same_new (same_new (Same.refl _) n1) n2) nS0
      have nS : pS ≠ sp := ((s2.keep n1).keep n2).ne nS0
      have hpS : upd (upd (upd H2 p1 (.lst (cutV xs none (some (at_ : Int))))) p2 (.lst (cutV xs (some ((at_ : Int) + 1)) none))) pS (.lst (cutV xs none (some (at_ : Int)) ++ cutV xs (some ((at_ : Int) + 1)) none)) pS = some (.lst (cutV xs none (some (at_ : Int)) ++ cutV xs (some ((at_ : Int) + 1)) none)) := upd_same
      have hyl : (cutV xs none (some (at_ : Int)) ++ cutV xs (some ((at_ : Int) + 1)) none).length ≤ 2000 := by
        rw [List.length_append]
        refine Nat.le_trans (Nat.add_le_add (cutV_length _ _ _) (cutV_length _ _ _)) ?_
        omega
      have hyk0 : ∀ y ∈ cutV xs none (some (at_ : Int)) ++ cutV xs (some ((at_ : Int) + 1)) none, y ∈ xs := fun y hy => (List.mem_append.mp hy).elim mem_cut mem_cut
      have hyk := fun y hy => (hit2 y (hyk0 y hy)).same eS
      have e7 := e12.trans (Ex.of (sp := sp) eS)
      have s7 := s2.same eS
      generalize upd (upd (upd H2 p1 (.lst (cutV xs none (some (at_ : Int))))) p2 (.lst (cutV xs (some ((at_ : Int) + 1)) none))) pS (.lst (cutV xs none (some (at_ : Int)) ++ cutV xs (some ((at_ : Int) + 1)) none)) = H7 at hpS e7 s7 hyk
      generalize cutV xs none (some (at_ : Int)) ++ cutV xs (some ((at_ : Int) + 1)) none = ys at hpS hyl hyk
      walk_at "x"
      refine ⟨sp, 2, rfl, s7, by decide, by decide, fun d8 H8 e8 s8 _ _ => ?_⟩
      have h8 := e8 _ _ nS hpS
      walk_at "x"
      refine x_TF (fun _ => ?_) (fun _ => ?_)
      · refine x_revL ?_
        walk_at "x"
        exact ⟨pS, ys, rfl, SqL.of h8, fun p9 n9 => q p9 _ ys.reverse ((e7.trans e8).new n9) (s8.keep n9) upd_same (by rw [List.length_reverse]; exact hyl) (fun y hy => ((hyk y (List.mem_reverse.mp hy)).ex e8 s7 s8).same (same_new (Same.refl _) n9))⟩
      · walk_at "x"
        exact q pS H8 ys (e7.trans e8) s8 h8 hyl fun y hy => (hyk y hy).ex e8 s7 s8
    · walk_at "x"
      refine x_ixL (SqL.of hsl2) (atI_nat (List.getElem?_eq_getElem hat)) ?_
      walk_at "x"
      refine ⟨by walk_at "sz", fun p1 n1 => ?_⟩
      refine ⟨sl, p1, _, _, rfl, rfl, get_keep n1 hsl2, upd_same, Nat.le_trans (show xs.length + 1 ≤ 1000 by omega) (by decide), fun pS nS0 => ?_⟩
      have eS : Same H2 (upd (upd H2 p1 (.lst [xs[at_]])) pS (.lst (xs ++ [xs[at_]]))) := same_new (same_new (Same.refl _) n1) nS0
      have nS : pS ≠ sp := (s2.keep n1).ne nS0
      have hpS : upd (upd H2 p1 (.lst [xs[at_]])) pS (.lst (xs ++ [xs[at_]])) pS = some (.lst (xs ++ [xs[at_]])) := upd_same
      have hyl : (xs ++ [xs[at_]]).length ≤ 2000 := by
        rw [List.length_append, List.length_singleton]
        omega
      have hyk := fun y (hy : y ∈ xs ++ [xs[at_]]) => (hit2 y ((List.mem_append.mp hy).elim id fun h => by rw [List.mem_singleton.mp h]; exact List.getElem_mem hat)).same eS
      have e7 := e12.trans (Ex.of (sp := sp) eS)
      have s7 := s2.same eS
      generalize upd (upd H2 p1 (.lst [xs[at_]])) pS (.lst (xs ++ [xs[at_]])) = H7 at hpS e7 s7 hyk
      generalize xs ++ [xs[at_]] = ys at hpS hyl hyk
      walk_at "x"
      refine ⟨sp, 2, rfl, s7, by decide, by decide, fun d8 H8 e8 s8 _ _ => ?_⟩
      have h8 := e8 _ _ nS hpS
      walk_at "x"
      refine x_TF (fun _ => ?_) (fun _ => ?_)
      · refine x_revL ?_
        walk_at "x"
        exact ⟨pS, ys, rfl, SqL.of h8, fun p9 n9 => q p9 _ ys.reverse ((e7.trans e8).new n9) (s8.keep n9) upd_same (by rw [List.length_reverse]; exact hyl) (fun y hy => ((hyk y (List.mem_reverse.mp hy)).ex e8 s7 s8).same (same_new (Same.refl _) n9))⟩
      · walk_at "x"
        exact q pS H8 ys (e7.trans e8) s8 h8 hyl fun y hy => (hyk y hy).ex e8 s7 s8
    · walk_at "x"
      refine ⟨sp, 5, rfl, s2, by decide, by decide, fun d5 H3 e3 s3 d50 d51 => ?_⟩
      have e13 := e12.trans e3
      have hl3 := e3 _ _ nl hl2
      have hsl3 := e3 _ _ nsl hsl2
      walk_at "x"
      refine ⟨l, _, rfl, .inl (SqL.of hl3), ?_⟩
      rw [hlr]
      walk_at "x"
      refine ⟨sp, rows.length, rfl, s3, by omega, by omega, fun d6 H4 e4 s4 d60 d61 => ?_⟩
      walk_at "x"
      refine ⟨sp, n, rfl, s4, hn.1, by omega, fun d7 H5 e5 s5 d70 d71 => ?_⟩
      have e15 := (e13.trans e4).trans e5
      have hl5 := e5 _ _ nl (e4 _ _ nl hl3)
      have hsl5 := e5 _ _ nsl (e4 _ _ nsl hsl3)
      have hss5 := ((hss2.ex e3 s2).ex e4 s3).ex e5 s4
      walk_at "x"
      refine ⟨by walk_at "sz", fun pb nb => ?_⟩
      walk_at "x"
      refine ⟨l, pb, rows, n, (d6, n * (d5 - 2), n * (d5 - 2) + 1 + d7, n), rfl, get_keep nb hl5, pr, hn, upd_same, ⟨d60, d61⟩, fun pm H6 zs ts e6 nm hpm hts ht1 ht2 => ?_⟩
      have e56 : Same H5 H6 := (same_new (Same.refl _) nb).trans e6
      have hsl6 := e56 _ _ hsl5
      have hss6 := hss5.same e56
      have s6 := s5.same e56
      have e16 := e15.trans (Ex.of (sp := sp) e56)
      have htl := hts.len
      walk_at "x"
      refine lcL_go (fun i H l => ∃ us : List Spot, SpotsAt H l us ∧ l.length ≤ i) (SqL.of hpm) (Nat.lt_of_lt_of_le (show zs.length < 1000 by omega) (by decide)) ⟨[], .nil, Nat.le_refl _⟩ (fun _ _ _ _ ts ⟨us, h, h2⟩ => ⟨us, h.tups ts, h2⟩) (fun x => rfl) (fun j x H7 l' hj e7 hlj hG KT KF kT kF => ?_) (fun D H7 l' nD e7 hD hG => ?_)
      · obtain ⟨c, u, rfl, hu, hc⟩ := hts.getR hj
        obtain ⟨us, hus, hul⟩ := hG
        walk_at "x"
        refine ⟨spD u, ss.map spD, dp_spot (e7 _ _ hc), .lst (SqL.of (e7 _ _ hsl6)) (dp_spots (hss6.same e7)), lay_spD u, shaped_lst (lay_spots _) (Nat.le_trans (depth_spots _) (by decide)), ?_⟩
        refine x_bl ?_
        refine x_TF (fun _ => ?_) (fun _ => ?_)
        · walk_at "x"
          exact kT _ _ (Same.refl _) ⟨us ++ [u], hus.snoc (e7 _ _ hc), by rw [List.length_append, List.length_singleton]; omega⟩
        · exact kF _ (Same.refl _) ⟨us, hus, by omega⟩
      · obtain ⟨us, hus, hul⟩ := hG
        have hsl7 := e7 _ _ hsl6
        refine ⟨sl, D, xs, l', rfl, rfl, hsl7, hD, Nat.le_trans (show xs.length + l'.length ≤ 2000 by omega) (by decide), fun pS nS0 => ?_⟩
        have s7' := s6.same e7
        have eS : Same H6 (upd H7 pS (.lst (xs ++ l'))) := same_new e7 nS0
        have nS : pS ≠ sp := s7'.ne nS0
        have hpS : upd H7 pS (.lst (xs ++ l')) pS = some (.lst (xs ++ l')) := upd_same
        have hyl : (xs ++ l').length ≤ 2000 := by
          rw [List.length_append]
          omega
        have hyk : ∀ y ∈ xs ++ l', PItem (upd H7 pS (.lst (xs ++ l'))) y := fun y hy => (List.mem_append.mp hy).elim (fun h => (spots_items hss6 y h).same eS) fun h => (spots_items hus y h).same (same_new (Same.refl _) nS0)
        have e7 := e16.trans (Ex.of (sp := sp) eS)
        have s7 := s6.same eS
        generalize upd H7 pS (.lst (xs ++ l')) = H7 at hpS e7 s7 hyk
        generalize xs ++ l' = ys at hpS hyl hyk
        walk_at "x"
        refine ⟨sp, 2, rfl, s7, by decide, by decide, fun d8 H8 e8 s8 _ _ => ?_⟩
        have h8 := e8 _ _ nS hpS
        walk_at "x"
        refine x_TF (fun _ => ?_) (fun _ => ?_)
        · refine x_revL ?_
          walk_at "x"
          exact ⟨pS, ys, rfl, SqL.of h8, fun p9 n9 => q p9 _ ys.reverse ((e7.trans e8).new n9) (s8.keep n9) upd_same (by rw [List.length_reverse]; exact hyl) (fun y hy => ((hyk y (List.mem_reverse.mp hy)).ex e8 s7 s8).same (same_new (Same.refl _) n9))⟩
        · walk_at "x"
          exact q pS H8 ys (e7.trans e8) s8 h8 hyl fun y hy => (hyk y hy).ex e8 s7 s8
    · walk_at "x"
      obtain ⟨a, u, hxa, hu, ha⟩ := hss2.getR (List.getElem?_eq_getElem hat)
      have hxi : xs[at_]? = some (.ref a) := by rw [List.getElem?_eq_getElem hat, hxa]
      refine ⟨sl, xs, rfl, SqL.of hsl2, fun p1 n1 => ?_⟩
      have hsl3 := get_keep (u := .lst (cutV xs none (some (at_ : Int)))) n1 hsl2
      walk_at "x"
      refine x_ixL (SqL.of hsl3) (atI_nat hxi) ?_
      walk_at "x"
      refine ⟨sp, l, a, rows, u, rfl, s2.keep n1, get_keep n1 hl2, nl, hp1, hp8, get_keep n1 ha, fun x H3 e3 s3 hx => ?_⟩
      have r1 := e3 _ _ (s2.ne n1) upd_same
      have hsl4 := e3 _ _ nsl hsl3
      have e23 : Ex sp H2 H3 := ((Ex.refl H2).new n1).trans e3
      walk_at "x"
      refine ⟨by walk_at "sz", fun p2 n2 => ?_⟩
      refine ⟨p1, p2, _, _, rfl, rfl, get_keep n2 r1, upd_same, Nat.le_trans (Nat.add_le_add_right (cutV_length _ _ _) 1) (Nat.le_trans (show xs.length + 1 ≤ 1000 by omega) (by decide)), fun p3 n3 => ?_⟩
      have hsl5 := get_keep (u := .lst (cutV xs none (some (at_ : Int)) ++ [x])) n3 (get_keep (u := .lst [x]) n2 hsl4)
      walk_at "x"
      refine ⟨sl, xs, rfl, SqL.of hsl5, fun p4 n4 => ?_⟩
      have hyl : (cutV xs none (some (at_ : Int)) ++ [x] ++ cutV xs (some ((at_ : Int) + 1)) none).length ≤ 2000 := by
        rw [List.length_append, List.length_append, List.length_singleton]
        have k1 := cutV_length xs none (some (at_ : Int))
        have k2 := cutV_length xs (some ((at_ : Int) + 1)) none
        omega
      refine ⟨p3, p4, _, _, rfl, rfl, get_keep n4 upd_same, upd_same, Nat.le_trans (by rw [List.length_append] at hyl; exact hyl) (by decide), fun pS nS0 => ?_⟩
      have eS : Same H3 (upd (upd (upd (upd H3 p2 (.lst [x])) p3 (.lst (cutV xs none (some (at_ : Int)) ++ [x]))) p4 (.lst (cutV xs (some ((at_ : Int) + 1)) none))) pS (.lst (cutV xs none (some (at_ : Int)) ++ [x] ++ cutV xs (some ((at_ : Int) + 1)) none))) := same_new (same_new (same_new (same_new (Same.refl _) n2) n3) n4) nS0
      have nS : pS ≠ sp := (((s3.keep (u := .lst [x]) n2).keep (u := .lst (cutV xs none (some (at_ : Int)) ++ [x])) n3).keep (u := .lst (cutV xs (some ((at_ : Int) + 1)) none)) n4).ne nS0
      have hpS : upd (upd (upd (upd H3 p2 (.lst [x])) p3 (.lst (cutV xs none (some (at_ : Int)) ++ [x]))) p4 (.lst (cutV xs (some ((at_ : Int) + 1)) none))) pS (.lst (cutV xs none (some (at_ : Int)) ++ [x] ++ cutV xs (some ((at_ : Int) + 1)) none)) pS = some (.lst (cutV xs none (some (at_ : Int)) ++ [x] ++ cutV xs (some ((at_ : Int) + 1)) none)) := upd_same
      have hyk0 : ∀ y ∈ cutV xs none (some (at_ : Int)) ++ [x] ++ cutV xs (some ((at_ : Int) + 1)) none, PItem H3 y := fun y hy => by
        rcases List.mem_append.mp hy with hy | hy
        · rcases List.mem_append.mp hy with hy | hy
          · exact (hit2 y (mem_cut hy)).ex e23 s2 s3
          · rw [List.mem_singleton.mp hy]
            exact hx
        · exact (hit2 y (mem_cut hy)).ex e23 s2 s3
      have hyk := fun y hy => (hyk0 y hy).same eS
      have e7 := (e12.trans e23).trans (Ex.of (sp := sp) eS)
      have s7 := s3.same eS
      generalize upd (upd (upd (upd H3 p2 (.lst [x])) p3 (.lst (cutV xs none (some (at_ : Int)) ++ [x]))) p4 (.lst (cutV xs (some ((at_ : Int) + 1)) none))) pS (.lst (cutV xs none (some (at_ : Int)) ++ [x] ++ cutV xs (some ((at_ : Int) + 1)) none)) = H7 at hpS e7 s7 hyk
      generalize cutV xs none (some (at_ : Int)) ++ [x] ++ cutV xs (some ((at_ : Int) + 1)) none = ys at hpS hyl hyk
      walk_at "x"
      refine ⟨sp, 2, rfl, s7, by decide, by decide, fun d8 H8 e8 s8 _ _ => ?_⟩
      have h8 := e8 _ _ nS hpS
      walk_at "x"
      refine x_TF (fun _ => ?_) (fun _ => ?_)
      · refine x_revL ?_
        walk_at "x"
        exact ⟨pS, ys, rfl, SqL.of h8, fun p9 n9 => q p9 _ ys.reverse ((e7.trans e8).new n9) (s8.keep n9) upd_same (by rw [List.length_reverse]; exact hyl) (fun y hy => ((hyk y (List.mem_reverse.mp hy)).ex e8 s7 s8).same (same_new (Same.refl _) n9))⟩
      · walk_at "x"
        exact q pS H8 ys (e7.trans e8) s8 h8 hyl fun y hy => (hyk y hy).ex e8 s7 s8
    · have c : ∀ k : Int, d ≠ k → decide (V.int d = V.int k) = false := fun k h => decide_eq_false fun e => h (V.int.inj e)
      walk_at "x"
      refine x_F (c 0 g0) ?_
      walk_at "x"
      refine x_F (c 1 g1) ?_
      walk_at "x"
      refine x_F (c 2 g2) ?_
      walk_at "x"
      refine x_F (c 3 g3) ?_
      walk_at "x"
      have nS := nsl
      have hpS := hsl2
      have hyl : xs.length ≤ 2000 := by omega
      have hyk := hit2
      have e7 := e12
      have s7 := s2
      generalize hpe : sl = pS at nS hpS
      generalize hye : xs = ys at hpS hyl hyk
      refine ⟨sp, 2, rfl, s7, by decide, by decide, fun d8 H8 e8 s8 _ _ => ?_⟩
      have h8 := e8 _ _ nS hpS
      walk_at "x"
      refine x_TF (fun _ => ?_) (fun _ => ?_)
      · refine x_revL ?_
        walk_at "x"
        exact ⟨pS, ys, rfl, SqL.of h8, fun p9 n9 => q p9 _ ys.reverse ((e7.trans e8).new n9) (s8.keep n9) upd_same (by rw [List.length_reverse]; exact hyl) (fun y hy => ((hyk y (List.mem_reverse.mp hy)).ex e8 s7 s8).same (same_new (Same.refl _) n9))⟩
      · walk_at "x"
        exact q pS H8 ys (e7.trans e8) s8 h8 hyl fun y hy => (hyk y hy).ex e8 s7 s8
end
end K48
namespace K48
open PySem PySem.Spec PyProof.Rows L2
local macro_rules | `(tactic| walk_at "hg") => `(tactic| first | assumption | exact upd_same | (apply get_keep; assumption; walk_at "hg") | (apply get_same; assumption; walk_at "hg") | (apply get_mut; assumption; walk_at "hg"))
local macro_rules | `(tactic| walk_at "sq") => `(tactic| first | assumption | (apply SqT.of; walk_at "hg") | (apply SqL.of; walk_at "hg") | (apply same_t; assumption; walk_at "sq") | (apply Same.seq; assumption; walk_at "sq"))
local macro_rules | `(tactic| walk_at "sc") => `(tactic| first | omega | decide | assumption | (unfold CMul; omega) | (unfold CDiv; omega) | (show (0 : Int) < _; omega) | (exact cdivw (by omega) (by omega)) | (exact cdivp (by omega) (by omega)))
local macro_rules | `(tactic| walk_at "x1") => `(tactic| first
  | with_reducible refine x_seq ?_
  | with_reducible refine x_var (by with_unfolding_all rfl) ?_
  | with_reducible refine x_c ?_
  | with_reducible refine x_op ?_
  | with_reducible refine x_rI0 ?_
  | with_reducible refine x_bl ?_
  | with_reducible refine x_rEq (by with_unfolding_all rfl) ?_
  | with_reducible refine x_rNe (by with_unfolding_all rfl) ?_
  | with_reducible refine x_asg ?_
  | with_reducible refine x_gname ?_
  | with_reducible refine x_gcons ?_
  | with_reducible refine x_gnil ?_
  | with_reducible refine x_ret ?_
  | with_reducible refine x_drop ?_
  | with_reducible refine x_next ?_
  | with_reducible refine x_cont ?_
  | with_reducible refine x_brk ?_
  | with_reducible refine x_ifS ?_
  | with_reducible refine x_ifE ?_
  | with_reducible refine x_cons ?_
  | with_reducible refine x_nil ?_
  | with_reducible refine x_test ?_
  | with_reducible refine x_tB ?_
  | with_reducible refine x_and ?_
  | with_reducible refine x_or ?_
  | with_reducible refine x_not ?_
  | with_reducible refine x_andV ?_
  | with_reducible refine x_orV ?_
  | with_reducible refine x_notV ?_
  | with_reducible refine x_chain ?_
  | with_reducible refine x_par ?_
  | with_reducible refine x_two ?_
  | with_reducible refine x_un ?_
  | with_reducible refine x_rU ?_
  | with_reducible refine x_cb ?_
  | with_reducible refine x_call ?_
  | with_reducible refine x_sl ?_
  | with_reducible refine x_nopart ?_
  | with_reducible refine x_part ?_
  | with_reducible refine x_int ?_
  | with_reducible refine x_tup ?_
  | with_reducible refine x_lst ?_
  | with_reducible refine x_bm ?_
  | with_reducible refine x_fld ?_
  | with_reducible refine x_chain3 ?_
  | with_reducible refine x_yes ?_
  | with_reducible refine x_lcT ?_
  | with_reducible refine x_lcL ?_
  | with_reducible refine x_for ?_
  | with_reducible refine x_iT ?_
  | with_reducible refine x_iL ?_
  | with_reducible refine x_rng1 ?_
  | with_reducible refine x_rng2 ?_
  | with_reducible refine x_dcT ?_
  | with_reducible refine x_din ?_
  | with_reducible refine x_dni ?_
  | with_reducible refine x_lcE ?_
  | with_reducible refine x_enS ?_
  | with_reducible refine x_m1 ?_
  | with_reducible refine x_gsub ?_
  | ((with_reducible apply x_setl); (focus (walk_at "hg"; done)); (focus (with_unfolding_all rfl; done)))
  | with_reducible refine x_int1 ?_
  | with_reducible refine x_str2 ?_
  | ((with_reducible apply x_rI); (focus (walk_at "sc"; done)))
  | with_reducible refine x_sw ?_
  | with_reducible refine x_ss ?_
  | ((with_reducible apply x_ixT); (focus (walk_at "sq"; done)); (focus (with_unfolding_all rfl; done)))
  | ((with_reducible apply x_ixL); (focus (walk_at "sq"; done)); (focus (with_unfolding_all rfl; done)))
  | ((with_reducible apply x_gtup); (focus (walk_at "sq"; done)); (focus (with_unfolding_all rfl; done)))
  | ((with_reducible apply x_glst); (focus (walk_at "sq"; done)); (focus (with_unfolding_all rfl; done)))
  | with_reducible refine x_F dn_int ?_
  | with_reducible refine x_F dn_ref ?_
  | with_reducible refine x_T dn_non ?_
  | with_reducible refine x_T (by decide +kernel) ?_
  | with_reducible refine x_F (by decide +kernel) ?_)
local macro_rules | `(tactic| walk_at "sz") => `(tactic| first | (exact Nat.le_of_ble_eq_true rfl) | decide | omega)
local macro_rules | `(tactic| walk_at "x") => `(tactic| ((walk_at "x1"); repeat (walk_at "x1")))
/-! ### promises under no guard (repr of a list) -/
structure FnG (P : Program) (w : World) (K : PySem.W.Frag) (mg : Str → Option Value) (base : Heap) (k : Nat) (f : Addr) (fd : FuncData) (ps : List Str) (sp : Sp) : Prop where
  len : ∀ vs H Q E, sp vs H Q E → vs.length = ps.length
  run : ∀ (A : Around) (outer : List Env) (s : Shared) (H : Hp) (args : Args) (us : List Value) (vs : List V) (Q : VK) (E : XK), A.guards = some [] → Room k A → Env0 P w K mg base A outer s H → BindsTo s fd args (ps.zip us) → Vals vs us → sp vs H Q E →
    codeAny (model P w) A (.call (.ref f) args) (CR CX0 outer P w H s Q E) s
def DefG (P : Program) (w : World) (K : PySem.W.Frag) (mg : Str → Option Value) (base : Heap) (x : Str) (k : Nat) (ps : List Str) (sp : Sp) : Prop :=
  ∃ f fd, FnG P w K mg base k f fd ps sp ∧ mg x = some (.ref f) ∧ PySem.W.keepIn K (.ref f) = true ∧ Binds K fd ps []
section
variable {P : Program} {w : World} {K : PySem.W.Frag} {mg : Str → Option Value} {base : Heap} {k : Nat} {x : Str} {st : Stmt} {N ps : List Str} {sp : Sp}
theorem FnG.of {f : Addr} {fd : FuncData} (F : Fun K x x st f fd) (S : FnScope N ps (defScope st)) (len : ∀ vs H Q E, sp vs H Q E → vs.length = ps.length)
    (body : ∀ (cdv : Value) (A : Around) (outer : List Env) (s : Shared) (H : Hp) (vs : List V) (Q : VK) (E : XK), A.guards = some [] → Room k (A.deeper (envOfC x (defScope st) s.heap.objs.size f cdv)) → sp vs H Q E →
      ∃ t, PSs (cxOf CX0 P w K mg base N x (defScope st) f cdv A outer s H E).nox (defBody st) t ∧ t { nx := fun _ H' => Q .non H', rt := Q } (start N vs) H) : FnG P w K mg base (k + 1) f fd ps sp := by
  refine ⟨len, ?_⟩
  obtain ⟨oc, od, kV, doc, pm, an, cdv, ct, osl, rfl, lk, hcd⟩ := F.ex
  intro A outer s H args us vs Q E hgd hr e0 hb r hsp
  have hl := len _ _ _ _ hsp
  have KX : K.In s.heap := e0.mod.kin.keeps fun b o e => (e0.bs b o e).1
  have lim : s.heap.NoLimit := e0.mod.nolimit.keeps fun b o e => (e0.bs b o e).1
  have hkind : ∀ y ∈ ps.zip us, (defScope st).names.lookup y.1 = some .local ∨ ((defScope st).names.lookup y.1 = some .cell ∧ ((cellsFrom (s.heap.objs.size + 1) (defScope st).names []).lookup y.1).isSome = true) := fun ⟨n, v⟩ hy =>
    (S.par n (List.of_mem_zip hy).1).elim .inl fun q => .inr ⟨q, PySem.W.cellsFrom_some _ _ _ (.inl q)⟩
  refine codeAny_call_function hr.depth (KX _ _ lk) rfl S.co S.gen rfl (PySem.W.codeRec_of KX hcd) (hb _ _ _ _ (wpAny_newFunctionEnv_cells S.kind hkind fun env he s1 y => ?_))
  subst he
  refine ⟨lim.keeps y.toInCall.keep, codeAny_func ?_⟩
  obtain ⟨t, ht0, hq⟩ := body cdv A outer s H vs Q E hgd (hr.deeper _) hsp
  have ht := ht0.nox
  have I : Inv (cxOf CX0 P w K mg base N x (defScope st) f cdv A outer s H E) [] (start N vs) H s1 := inv_start S hr.hd e0 hl r y
  refine wpAny_mono (ht.run [] s1 (start N vs) H _ I hq) (fun fl s' hs => ?_) fun e s' hs => hs
  have fin : ∀ {σ' : L2.St} {H' : Hp} {v : V} {u : Value}, Inv (cxOf CX0 P w K mg base N x (defScope st) f cdv A outer s H E) [] σ' H' s' → RelV v u → Q v H' → CE outer P w H s Q u s' :=
    fun {σ' H' v u} J rv q => ⟨v, H', J.os, J.bare, J.base, J.hok, rv, q⟩
  cases fl with
  | ret u =>
    obtain ⟨v, σ', H', J, rv, q⟩ := hs
    exact fin J rv q
  | next =>
    obtain ⟨σ', H', J, q⟩ := hs
    exact fin (v := V.non) (u := Value.none) J rfl q
  | brk =>
    obtain ⟨_, _, _, q⟩ := hs
    exact False.elim q
  | cont =>
    obtain ⟨_, _, _, q⟩ := hs
    exact False.elim q
theorem DefG.mk (B : HasDef K mg x st ps) (S : FnScope N ps (defScope st)) (len : ∀ vs H Q E, sp vs H Q E → vs.length = ps.length)
    (body : ∀ (f : Addr) (cdv : Value) (A : Around) (outer : List Env) (s : Shared) (H : Hp) (vs : List V) (Q : VK) (E : XK), A.guards = some [] → Room k (A.deeper (envOfC x (defScope st) s.heap.objs.size f cdv)) → sp vs H Q E →
      ∃ t, PSs (cxOf CX0 P w K mg base N x (defScope st) f cdv A outer s H E).nox (defBody st) t ∧ t { nx := fun _ H' => Q .non H', rt := Q } (start N vs) H) : DefG P w K mg base x (k + 1) ps sp := by
  obtain ⟨f, fd, F, g, b⟩ := B
  exact ⟨f, fd, FnG.of F S len (body f), g, F.kp, b⟩
end
section
variable {X : Cx} {x : Str} {p pos : Pos} {e : Expr} {es : List Expr} {t : TA} {j k : Nat} {ps : List Str} {sp : Sp}
theorem pe_dG (D : DefG X.prog X.w X.K X.mg X.base x k ps sp) (hgd : X.A.guards = some []) (hr : Room j X.A) (ha : PA X (e :: es) t) (hk : k ≤ j := by decide) (hg : Gl X x := by rfl) (hdb : (x == ("__debug__" : Str)) = false := by decide)
    (he : starEach (e :: es) X.env = (false, eval e X.env) :: starEach es X.env := by rfl) (hpl : (backTo pos (starEach es X.env)).any (·.1) = false := by rfl) : PE X (.Call (.Name x p) (e :: es) [] pos) (tCall sp [] E0 t) := by
  obtain ⟨f, fd, F, g, kp, b⟩ := D
  refine ⟨fun pins s σ H Q I h => ?_⟩
  refine wpAny_Call_Name_kw (ld_glob I hg g ?_ hdb)
  refine PySem.W.callWith_K (h₀ := X.base) I.ok.mod.kin kp (thn (ha.run pos pins s σ H _ I h) fun us s1 ⟨vs, H1, I1, r, q⟩ => ⟨I1.kIn, ?_⟩) he hpl
  have r2 : Vals (vs ++ []) (us ++ []) := r.append .nil
  have hl : (us ++ []).length = ps.length := by rw [← r2.length]; exact F.len _ _ _ _ q
  refine wpAny_call (codeAny_mono (F.run X.A X.stack s1 H1 ⟨us, []⟩ (us ++ []) (vs ++ []) Q E0 hgd (hr.mono hk) I1.env0 (b s1 us I1.kIn hl) r2 q) fun r s' hq => ?_)
  cases r with
  | error e => exact hq.elim
  | ok fl =>
    cases fl with
    | ret u => exact I1.after hq
    | next => exact False.elim hq
    | brk => exact False.elim hq
    | cont => exact False.elim hq
/-! ### repr -/
theorem call_repr_bl : CallR X (.builtin "repr") (fun xs H Q => ∃ b, xs = [.bl b] ∧ Q (.str (if b then "True" else "False")) H) := by
  intro pins s σ H xs us Q I r h
  obtain ⟨b, rfl, q⟩ := h
  obtain ⟨u, rfl, ru⟩ := vals1 r
  cases (show u = Value.bool b from ru)
  exact PySem.P.repr_of_bool ⟨.str (if b then "True" else "False"), H, I.tok _, ⟨_, rfl⟩, q⟩
def two (b1 b2 : Bool) : Str := PyData.shown (.list [.bool b1, .bool b2])
theorem two_eq (b1 b2 : Bool) : two b1 b2 = ("[" : Str) ++ (if b1 then ("True" : Str) else ("False" : Str)) ++ (", " : Str) ++ (if b2 then ("True" : Str) else ("False" : Str)) ++ ("]" : Str) := by
  cases b1 <;> cases b2 <;> decide +kernel
theorem call_repr_two (hgd : X.A.guards = some []) (hr : Room j X.A) : CallR X (.builtin "repr") (fun xs H Q => ∃ a b1 b2, xs = [.ref a] ∧ H a = some (.lst [.bl b1, .bl b2]) ∧ Q (.str (two b1 b2)) H) := by
  intro pins s σ H xs us Q I r h
  obtain ⟨a, b1, b2, rfl, ha, q⟩ := h
  obtain ⟨u, rfl, ru⟩ := vals1 r
  cases (show u = Value.ref a from ru)
  have hd : Dp X.K H (.ref a) (.list [.bool b1, .bool b2]) := .lst (SqL.of ha) (.cons (.bl _) (.cons (.bl _) .nil))
  obtain ⟨as, rd⟩ := Dp.reads I _ _ (.ref a) hd rfl
  refine repr_of_reads' rd (by cases b1 <;> cases b2 <;> decide +kernel) (fun h => by cases b1 <;> cases b2 <;> exact absurd h (by decide +kernel)) hgd ?_ (fun b o e => e) (fun h' u tk hk => ⟨.str (two b1 b2), H, I.kept (t' := tk) hk, ⟨_, rfl⟩, q⟩) (szl (by cases b1 <;> cases b2 <;> decide +kernel))
  have hdp : (PyData.list [.bool b1, .bool b2]).depth ≤ 2 := by cases b1 <;> cases b2 <;> decide +kernel
  have := hr.un
  omega
end
end K48
namespace K48
open PySem PySem.Spec PyProof.Rows L2
local macro_rules | `(tactic| walk_at "hg") => `(tactic| first | assumption | exact upd_same | (apply get_keep; assumption; walk_at "hg") | (apply get_same; assumption; walk_at "hg") | (apply get_mut; assumption; walk_at "hg"))
local macro_rules | `(tactic| walk_at "sq") => `(tactic| first | assumption | (apply SqT.of; walk_at "hg") | (apply SqL.of; walk_at "hg") | (apply same_t; assumption; walk_at "sq") | (apply Same.seq; assumption; walk_at "sq"))
local macro_rules | `(tactic| walk_at "sc") => `(tactic| first | omega | decide | assumption | (unfold CMul; omega) | (unfold CDiv; omega) | (show (0 : Int) < _; omega) | (exact cdivw (by omega) (by omega)) | (exact cdivp (by omega) (by omega)))
local macro_rules | `(tactic| walk_at "x1") => `(tactic| first
  | with_reducible refine x_seq ?_
  | with_reducible refine x_var (by with_unfolding_all rfl) ?_
  | with_reducible refine x_c ?_
  | with_reducible refine x_op ?_
  | with_reducible refine x_rI0 ?_
  | with_reducible refine x_bl ?_
  | with_reducible refine x_rEq (by with_unfolding_all rfl) ?_
  | with_reducible refine x_rNe (by with_unfolding_all rfl) ?_
  | with_reducible refine x_asg ?_
  | with_reducible refine x_gname ?_
  | with_reducible refine x_gcons ?_
  | with_reducible refine x_gnil ?_
  | with_reducible refine x_ret ?_
  | with_reducible refine x_drop ?_
  | with_reducible refine x_next ?_
  | with_reducible refine x_cont ?_
  | with_reducible refine x_brk ?_
  | with_reducible refine x_ifS ?_
  | with_reducible refine x_ifE ?_
  | with_reducible refine x_cons ?_
  | with_reducible refine x_nil ?_
  | with_reducible refine x_test ?_
  | with_reducible refine x_tB ?_
  | with_reducible refine x_and ?_
  | with_reducible refine x_or ?_
  | with_reducible refine x_not ?_
  | with_reducible refine x_andV ?_
  | with_reducible refine x_orV ?_
  | with_reducible refine x_notV ?_
  | with_reducible refine x_chain ?_
  | with_reducible refine x_par ?_
  | with_reducible refine x_two ?_
  | with_reducible refine x_un ?_
  | with_reducible refine x_rU ?_
  | with_reducible refine x_cb ?_
  | with_reducible refine x_call ?_
  | with_reducible refine x_sl ?_
  | with_reducible refine x_nopart ?_
  | with_reducible refine x_part ?_
  | with_reducible refine x_int ?_
  | with_reducible refine x_tup ?_
  | with_reducible refine x_lst ?_
  | with_reducible refine x_bm ?_
  | with_reducible refine x_fld ?_
  | with_reducible refine x_chain3 ?_
  | with_reducible refine x_yes ?_
  | with_reducible refine x_lcT ?_
  | with_reducible refine x_lcL ?_
  | with_reducible refine x_for ?_
  | with_reducible refine x_iT ?_
  | with_reducible refine x_iL ?_
  | with_reducible refine x_rng1 ?_
  | with_reducible refine x_rng2 ?_
  | with_reducible refine x_dcT ?_
  | with_reducible refine x_din ?_
  | with_reducible refine x_dni ?_
  | with_reducible refine x_lcE ?_
  | with_reducible refine x_enS ?_
  | with_reducible refine x_m1 ?_
  | with_reducible refine x_gsub ?_
  | ((with_reducible apply x_setl); (focus (walk_at "hg"; done)); (focus (with_unfolding_all rfl; done)))
  | with_reducible refine x_int1 ?_
  | with_reducible refine x_str2 ?_
  | ((with_reducible apply x_rI); (focus (walk_at "sc"; done)))
  | with_reducible refine x_sw ?_
  | with_reducible refine x_ss ?_
  | ((with_reducible apply x_ixT); (focus (walk_at "sq"; done)); (focus (with_unfolding_all rfl; done)))
  | ((with_reducible apply x_ixL); (focus (walk_at "sq"; done)); (focus (with_unfolding_all rfl; done)))
  | ((with_reducible apply x_gtup); (focus (walk_at "sq"; done)); (focus (with_unfolding_all rfl; done)))
  | ((with_reducible apply x_glst); (focus (walk_at "sq"; done)); (focus (with_unfolding_all rfl; done)))
  | with_reducible refine x_F dn_int ?_
  | with_reducible refine x_F dn_ref ?_
  | with_reducible refine x_T dn_non ?_
  | with_reducible refine x_T (by decide +kernel) ?_
  | with_reducible refine x_F (by decide +kernel) ?_)
local macro_rules | `(tactic| walk_at "sz") => `(tactic| first | (exact Nat.le_of_ble_eq_true rfl) | decide | omega)
local macro_rules | `(tactic| walk_at "x") => `(tactic| ((walk_at "x1"); repeat (walk_at "x1")))
theorem PapAt.ex {sp : Addr} {H H' : Hp} {v : V} {its : List (Option (List V))} (e : Ex sp H H') (s : SprAt sp H) (s' : SprAt sp H') (h : PapAt H v (some its)) : PapAt H' v (some its) := by
  obtain ⟨a, xs, h1, h2, h3, h4⟩ := h
  exact ⟨a, xs, h1, (e.tups s) _ _ h2, h3, Paired.mapP h4 fun x it ⟨h5, h6⟩ => ⟨h5.ex e s s', by rw [kd_tupOf_ex e s s' h5.1]; exact h6⟩⟩
theorem pap_of {H : Hp} {pp : Addr} {ys : List V} (h : H pp = some (.tup ys)) (hl : ys.length ≤ 2000) (hk : ∀ y ∈ ys, PItem H y) : PapAt H (.ref pp) (some (ys.map (tupOf H))) := by
  refine ⟨pp, ys, rfl, h, by omega, ?_⟩
  clear h hl
  induction ys with
  | nil => exact .nil
  | cons y ys ih => exact .cons ⟨hk y List.mem_cons_self, rfl⟩ (ih fun z hz => hk z (List.mem_cons_of_mem _ hz))
theorem course_list {rows : List Row} {n full : Int} {road : List Int} : courseB rows n full road none = false := by
  unfold courseB
  show (_ && _ && false) = false
  rw [Bool.and_false]
theorem course_nil {rows : List Row} {n full : Int} {road : List Int} : courseB rows n full road (some []) = false := by
  cases h : beginO rows n full road with
  | none => exact course_none h
  | some s =>
    rw [(course_some h).1]
    show (true && (true && false && true)) = false
    rfl
theorem begin_road {rows : List Row} {n full : Int} {road : List Int} {s : Spot} (h : beginO rows n full road = some s) : 0 ≤ lastOf road ∧ lastOf road < rows.length := by
  have hne := (course_some h).2.2
  unfold beginO at h
  cases hc : btw (.int full) 1 (2 * n) && roadB rows.length road with
  | false => rw [hc, if_neg Bool.false_ne_true] at h; cases h
  | true =>
    have hr := (Bool.and_eq_true_iff.mp hc).2
    obtain ⟨j, _, hj⟩ := lastOf_get hne
    exact road_all hr (List.mem_of_getElem? hj)
theorem join_len {rows : List Row} (h : rows.length ≤ 8) : ((rows.map Row.text).map (·.length)).sum + (rows.map Row.text).length * ("\n" : Str).length ≤ 16777216 := by
  have hs : ∀ xs : List Row, ((xs.map Row.text).map (·.length)).sum ≤ 40 * xs.length := by
    intro xs
    induction xs with
    | nil => simp
    | cons x xs ih =>
      have hx := (split_row x).2
      simp only [List.map_cons, List.sum_cons, List.length_cons]
      omega
  have h1 := hs rows
  have h2 : ("\n" : Str).length = 1 := by decide +kernel
  rw [h2, List.length_map]
  omega
theorem texts_map {rows : List Row} : textsV rows = (rows.map Row.text).map V.str := by rw [List.map_map]; rfl
theorem due_eq (b : Bool) : decide (two b false = ("[" : Str) ++ (if b then ("True" : Str) else ("False" : Str)) ++ (", False]" : Str)) = true := by cases b <;> decide +kernel
theorem due_len (b : Bool) : (if b then ("True" : Str) else ("False" : Str)).length ≤ 5 := by cases b <;> decide +kernel
section
variable {P : Program} {w : World} {K : PySem.W.Frag} {mg : Str → Option Value} {base : Heap}
theorem x_sl5to {H : Hp} {Q : VK} {a : Addr} {x0 x1 x2 x3 x4 : V} (h : H a = some (.tup [x0, x1, x2, x3, x4])) (q : ∀ p, H p = none → Q (.ref p) (upd H p (.tup [x0, x1, x2, x3]))) : rSlA K (.ref a) none (some 4) H Q :=
  ⟨a, [x0, x1, x2, x3, x4], rfl, SqT.of h, fun h => absurd (show (4 : Nat) = 5 from h.2) (by decide), fun _ p np => q p np⟩
theorem x_sl5from {H : Hp} {Q : VK} {a : Addr} {x0 x1 x2 x3 x4 : V} (h : H a = some (.tup [x0, x1, x2, x3, x4])) (q : ∀ p, H p = none → Q (.ref p) (upd H p (.tup [x1, x2, x3, x4]))) : rSlA K (.ref a) (some 1) none H Q :=
  ⟨a, [x0, x1, x2, x3, x4], rfl, SqT.of h, fun h => absurd (show (1 : Nat) = 0 from h.1) (by decide), fun _ p np => q p np⟩
theorem x_catT {H : Hp} {Q : VK} {a b : Addr} {x y : V} {xs ys : List V} (h : H a = some (.tup (x :: xs))) (hb : H b = some (.tup (y :: ys))) (hz : (x :: xs).length + (y :: ys).length ≤ 1000) (q : ∀ p, H p = none → Q (.ref p) (upd H p (.tup (x :: xs ++ y :: ys)))) : rCatA K (.ref a) (.ref b) H Q :=
  ⟨a, b, x :: xs, y :: ys, rfl, rfl, SqT.of h, SqT.of hb, szl hz, fun h => (nomatch h), fun _ h => (nomatch h), fun _ _ p np => q p np⟩
def spRight : Sp := fun vs H Q _ => ∃ sp, vs = [.ref sp] ∧ SprAt sp H ∧ ∀ H', Ex sp H H' → SprAt sp H' → Q (.bl true) H'
theorem sc_law_right : FnScope ["_law_spring_here", "_law_turn", "_law_lines", "_law_number_here", "_law_well_here", "_law_road", "_law_full", "_law_begin_here", "_law_paper", "_law_claim", "_law_due", "_law_wrong"] ["_law_spring_here"] (defScope s__law_right) := ⟨rfl, rfl, rfl, by decide +kernel, rfl, by decide +kernel, by decide +kernel⟩
theorem ok__law_right (T : Tx w K mg) (B : HasDef K mg "_law_right" s__law_right ["_law_spring_here"]) (D_law_looped_rows : Def P w K mg base "_law_looped_rows" 6 ["_law_spring_here"] spRows) (D_law_number : Def P w K mg base "_law_number" 3 ["_law_spring_here"] spNumber) (D_law_well : Def P w K mg base "_law_well" 2 ["_law_spring_here", "_law_number_here"] spWell)
    (D_law_play : Def P w K mg base "_law_play" 3 ["_law_lines", "_law_number_here", "_law_well_here", "_law_bits_here"] spPlay) (D_law_bits : Def P w K mg base "_law_bits" 3 ["_law_spring_here", "_law_most"] spBits) (D_law_of : Def P w K mg base "_law_of" 2 ["_law_spring_here", "_law_menu"] spOf)
    (D_law_begin : Def P w K mg base "_law_begin" 5 ["_law_lines", "_law_number_here", "_law_full", "_law_road"] spBegin) (D_law_bent : Def P w K mg base "_law_bent" 5 ["_law_spring_here", "_law_lines", "_law_number_here", "_law_some"] spBent) (D_law_all_from : Def P w K mg base "_law_all_from" 4 ["_law_lines", "_law_number_here", "_law_begin_here"] spAll)
    (D_law_sticks : Def P w K mg base "_law_sticks" 6 ["_law_lines", "_law_number_here", "_law_full", "_law_road", "_law_paper"] spLSticks) (D_accepts : Def P w K mg base "accepts" 9 ["claim", "certificate"] (spAccepts K)) :
    DefG P w K mg base "_law_right" 10 ["_law_spring_here"] spRight := by
  refine DefG.mk B sc_law_right (fun vs H Q E h => ?_) (fun f cdv A outer s H vs Q E hgd hr h => ?_)
  · obtain ⟨sp, rfl, _⟩ := h
    rfl
  · obtain ⟨sp, rfl, hs, q⟩ := h
    refine ⟨_, (pss_cons (ps_for PassesOwn.never (by rfl) (pi_range1 (by rfl) T.z_range (pa_cons pe_int pa_nil)) (pg_name (i := 1) sc_law_right.nd rfl (Or.inl rfl))
      (pss_cons (ps_par (i := 2) (j := 3) (by rfl) sc_law_right.nd rfl rfl (by decide) rfl rfl (pa_cons (pe_d D_law_looped_rows hr (pa_cons (pv 0) pa_nil)) (pa_cons (pe_d D_law_number hr (pa_cons (pv 0) pa_nil)) pa_nil)) (by rfl))
      (pss_cons (ps_set (i := 4) sc_law_right.nd rfl (Or.inl rfl) (pe_d D_law_well hr (pa_cons (pv 0) (pa_cons (pv 3) pa_nil))))
      (pss_cons (ps_set (i := 5) sc_law_right.nd rfl (Or.inl rfl) (pe_ix ix_list (pe_d D_law_play hr (pa_cons (pv 2) (pa_cons (pv 3) (pa_cons (pv 4) (pa_cons (pe_d D_law_bits hr (pa_cons (pv 0) (pa_cons pe_int pa_nil))) pa_nil))))) pe_int (fun _ _ => rfl)))
      (pss_cons (ps_set (i := 6) sc_law_right.nd rfl (Or.inl rfl) (pe_d D_law_of hr (pa_cons (pv 0) (pa_cons (pe_lst (pa_cons (pe_ix ix_tup (pv 4) pe_int (fun _ _ => rfl)) (pa_cons (pe_ix ix_tup (pv 4) pe_int (fun _ _ => rfl)) (pa_cons (pe_ix ix_tup (pv 4) pe_int (fun _ _ => rfl)) (pa_cons pe_int (pa_cons (pe_op op_mul pe_int (pv 3)) (pa_cons (pe_op op_add (pe_op op_mul pe_int (pv 3)) pe_int) pa_nil))))))) pa_nil))))
      (pss_cons (ps_set (i := 7) sc_law_right.nd rfl (Or.inl rfl) (pe_d D_law_begin hr (pa_cons (pv 2) (pa_cons (pv 3) (pa_cons (pv 6) (pa_cons (pv 5) pa_nil))))))
      (pss_cons (ps_set (i := 7) sc_law_right.nd rfl (Or.inl rfl) (pe_ifExp (pt_cmpR (op_neD hr.units) (pv 7) (pe_lst pa_nil) (nomark _)) (pe_callTy call_tuple_of (by rfl) T.z_tuple boot_tuple' (pa_cons (pe_op op_cat (pe_lst (pa_cons (pe_ix ix_tup (pv 5) (pe_un un_neg pe_int) (fun _ _ => rfl)) pa_nil)) (pv 7)) pa_nil)) (pe_tup (pa_cons pe_int (pa_cons pe_int (pa_cons pe_int (pa_cons pe_int pa_nil)))))))
      (pss_cons (ps_set (i := 8) sc_law_right.nd rfl (Or.inl rfl) (pe_callTy call_tuple_of (by rfl) T.z_tuple boot_tuple' (pa_cons (pe_d D_law_bent hr (pa_cons (pv 0) (pa_cons (pv 2) (pa_cons (pv 3) (pa_cons (pe_d D_law_all_from hr (pa_cons (pv 2) (pa_cons (pv 3) (pa_cons (pv 7) pa_nil)))) pa_nil))))) pa_nil)))
      (pss_cons (ps_set (i := 9) sc_law_right.nd rfl (Or.inl rfl) (pe_tup (pa_cons pe_str (pa_cons (pe_join pe_str (pv 2)) (pa_cons (pv 3) (pa_cons (pv 6) (pa_cons (pv 5) pa_nil)))))))
      (pss_cons (ps_set (i := 10) sc_law_right.nd rfl (Or.inl rfl) (pe_callB call_repr_bl (by rfl) T.z_repr boot_repr' (pa_cons (pe_d D_law_sticks hr (pa_cons (pv 2) (pa_cons (pv 3) (pa_cons (pv 6) (pa_cons (pv 5) (pa_cons (pv 8) pa_nil)))))) pa_nil)))
      (pss_cons (ps_if (pt_cmpR op_ne (pe_callB (call_repr_two hgd hr) (by rfl) T.z_repr boot_repr' (pa_cons (pe_lst (pa_cons (pe_d D_accepts hr (pa_cons (pv 9) (pa_cons (pv 8) pa_nil))) (pa_cons (pe_d D_accepts hr (pa_cons (pv 9) (pa_cons (pe_callTy call_list_of (by rfl) T.z_list boot_list' (pa_cons (pv 8) pa_nil)) pa_nil))) pa_nil))) pa_nil)) (pe_op op_add_str (pe_op op_add_str pe_str (pv 10)) pe_str) (nomark _)) (pss_one (ps_ret pe_bl)) pss_nil)
      (pss_cons (ps_set (i := 11) sc_law_right.nd rfl (Or.inl rfl) (pe_d D_law_of hr (pa_cons (pv 0) (pa_cons (pe_lst (pa_cons (pe_slice sl_tupA (pv 9) po_none (po_some pe_int)) (pa_cons (pe_op op_catA (pv 9) (pe_tup (pa_cons pe_int pa_nil))) (pa_cons (pe_callTy call_list_of (by rfl) T.z_list boot_list' (pa_cons (pv 9) pa_nil)) (pa_cons (pe_op op_catA (pe_tup (pa_cons pe_str pa_nil)) (pe_slice sl_tupA (pv 9) (po_some pe_int) po_none)) pa_nil))))) pa_nil))))
      (pss_one (ps_if (pt_cmpR op_ne (pe_callB (call_repr_two hgd hr) (by rfl) T.z_repr boot_repr' (pa_cons (pe_lst (pa_cons (pe_d D_accepts hr (pa_cons (pv 11) (pa_cons (pv 8) pa_nil))) (pa_cons (pe_d D_accepts hr (pa_cons (pv 9) (pa_cons (pe_tup pa_nil) pa_nil))) pa_nil))) pa_nil)) pe_str (nomark _)) (pss_one (ps_ret pe_bl)) pss_nil))))))))))))))
      (pss_one (ps_ret pe_bl))), ?_⟩
    walk_at "x"
    refine ⟨_, rfl, by decide, by decide, ?_⟩
    refine for_range (lo := 0) (n := 3) (fun i σ H' => ∃ v1 v2 v3 v4 v5 v6 v7 v8 v9 v10 v11 : Option V, σ = [some (.ref sp), v1, v2, v3, v4, v5, v6, v7, v8, v9, v10, v11] ∧ Ex sp H H' ∧ SprAt sp H') ⟨_, _, _, _, _, _, _, _, _, _, _, rfl, Ex.refl H, hs⟩ (fun i σ H0 hi hP => ?_) (fun σ H' hP => ?_)
    · obtain ⟨v1, v2, v3, v4, v5, v6, v7, v8, v9, v10, v11, rfl, e0, s0⟩ := hP
      walk_at "x"
      refine ⟨sp, rfl, s0, fun p rows H1 e1 s1 np hp pr => ?_⟩
      have nsp := s0.ne np
      walk_at "x"
      refine ⟨sp, rfl, s1, fun n H2 e2 s2 hn1 hn2 => ?_⟩
      have hn : 1 ≤ n ∧ n ≤ 10 ^ 30 := ⟨hn1, hn2⟩
      have hp2 := e2 _ _ nsp hp
      walk_at "x"
      refine ⟨sp, n, rfl, s2, hn, fun wp c v H3 e3 s3 hw c0 c1 c2 => ?_⟩
      have hp3 := e3 _ _ nsp hp2
      walk_at "x"
      refine ⟨sp, rfl, s3, fun z H4 e4 s4 hz => ?_⟩
      have hp4 := e4 _ _ nsp hp3
      have hw4 := (e4.tups s3) _ _ hw
      walk_at "x"
      refine ⟨p, rows, n, wp, z, c, v, rfl, hp4, pr, hn, hw4, by omega, by omega, hz, fun pl H5 x0 x1 x2 x3 ca road e5 hpl hca hzr => ?_⟩
      have hp5 := e5 _ _ hp4
      have hw5 := e5 _ _ hw4
      have s5 := s4.same e5
      walk_at "x"
      refine ⟨by walk_at "sz", fun pm nm => ?_⟩
      walk_at "x"
      refine ⟨sp, pm, _, rfl, s5.keep nm, upd_same, s5.ne nm, by simp, by simp, fun x H6 e6 s6 hx => ?_⟩
      obtain ⟨full, rfl⟩ : ∃ full, x = V.int full := by
        simp only [List.mem_cons, List.not_mem_nil, or_false] at hx
        rcases hx with rfl | rfl | rfl | rfl | rfl | rfl <;> exact ⟨_, rfl⟩
      have e56 : Ex sp H5 H6 := ((Ex.refl H5).new nm).trans e6
      have e06 : Ex sp H H6 := ((((e0.trans e1).trans e2).trans e3).trans e4).trans ((Ex.of e5).trans e56)
      have hp6 := e56 _ _ nsp hp5
      have hca6 := (e56.tups s5) _ _ hca
      walk_at "x"
      refine ⟨p, rows, n, full, ca, road, rfl, hp6, pr.most, hn, hca6, hzr, ?_⟩
      cases hbg : beginO rows n full road with
      | none =>
        intro bl H7 e7 hbl
        walk_at "x"
        refine ⟨Nat.zero_le _, fun p1 n1 => ?_⟩
        have e2' := same_new (u := .lst []) (Same.refl H7) n1
        refine ⟨.list [], .list [], .lst (SqL.of (e2' _ _ hbl)) .nil, .lst (SqL.of upd_same) .nil, shaped_nilL, shaped_nilL, ?_⟩
        rw [eqv_lst_nil]
        walk_at "x"
        refine ⟨by walk_at "sz", fun tp ntp => ?_⟩
        have e68 : Ex sp H6 (upd (upd H7 p1 (.lst [])) tp (.tup [.int 0, .int 0, .int 1, .int 1])) := Ex.of (e7.trans (same_new e2' ntp))
        have s8 := s6.same (e7.trans (same_new (u := .tup [.int 0, .int 0, .int 1, .int 1]) e2' ntp))
        obtain ⟨t, htE⟩ : ∃ t : Spot, t = (0, 0, 1, 1) := ⟨_, rfl⟩
        have htp : upd (upd H7 p1 (.lst [])) tp (.tup [.int 0, .int 0, .int 1, .int 1]) tp = some (.tup (spV t)) := by rw [htE]; exact upd_same
        have htr : 0 ≤ t.1 ∧ t.1 < rows.length := by
          rw [htE]
          exact ⟨Int.le_refl _, by have := pr.pos; show (0 : Int) < rows.length; omega⟩
        generalize upd (upd H7 p1 (.lst [])) tp (.tup [.int 0, .int 0, .int 1, .int 1]) = H8 at e68 s8 htp
        have hp8 := e68 _ _ nsp hp6
        have hca8 := (e68.tups s6) _ _ hca6
        walk_at "x"
        refine ⟨p, tp, rows, n, t, rfl, hp8, pr, hn, htp, htr, fun pa H9 xs ss e9 na hpa hss l1 l2 => ?_⟩
        have s9 := s8.same e9
        have hp9 := e9 _ _ hp8
        have hsl := hss.len
        walk_at "x"
        refine ⟨sp, p, pa, rows, n, xs, ss, rfl, s9, hp9, pr, hn, hpa, hss, by omega, by omega, nsp, s8.ne na, fun pb H10 ys e10 s10 hpb hyl hyk => ?_⟩
        have hp10 := e10 _ _ nsp hp9
        have hca10 := (e10.tups s9) _ _ (e9 _ _ hca8)
        have e610 : Ex sp H6 H10 := (e68.trans (Ex.of e9)).trans e10
        walk_at "x"
        refine ⟨pb, ys, rfl, .inl ⟨SqL.of hpb, fun pp npp => ?_⟩⟩
        have e11 := same_new (u := .tup ys) (Same.refl H10) npp
        have hpap : PapAt (upd H10 pp (.tup ys)) (.ref pp) (some (ys.map (tupOf (upd H10 pp (.tup ys))))) := pap_of upd_same hyl fun y hy => (hyk y hy).same e11
        have hpp : upd H10 pp (.tup ys) pp = some (.tup ys) := upd_same
        have hp11 := e11 _ _ hp10
        have hca11 := e11 _ _ hca10
        have s11 := s10.same e11
        have e611 : Ex sp H6 (upd H10 pp (.tup ys)) := e610.trans (Ex.of e11)
        generalize upd H10 pp (.tup ys) = H11 at hpap hpp hp11 hca11 s11 e611
        generalize ys.map (tupOf H11) = its at hpap
        walk_at "x"
        refine ⟨"\n", p, rows.map Row.text, rfl, rfl, .inl (by rw [← texts_map]; exact SqL.of hp11), join_len pr.most, ?_⟩
        walk_at "x"
        refine ⟨by walk_at "sz", fun pc npc => ?_⟩
        have hclaim : upd H11 pc (.tup [.str "stuck", .str (progText rows), .int n, .int full, .ref ca]) pc = some (.tup [.str "stuck", .str (progText rows), .int n, .int full, .ref ca]) := upd_same
        have e12 := same_new (u := .tup [.str "stuck", .str (progText rows), .int n, .int full, .ref ca]) (Same.refl H11) npc
        have hp12 := e12 _ _ hp11
        have hca12 := e12 _ _ hca11
        have hpp12 := e12 _ _ hpp
        have hpap12 := hpap.same e12
        have s12 := s11.same e12
        have e612 : Ex sp H6 (upd H11 pc (.tup [.str "stuck", .str (progText rows), .int n, .int full, .ref ca])) := e611.trans (Ex.of e12)
        show gName 9 _ _ (upd H11 pc (.tup [.str "stuck", .str (progText rows), .int n, .int full, .ref ca])) _
        generalize upd H11 pc (.tup [.str "stuck", .str (progText rows), .int n, .int full, .ref ca]) = H12 at hclaim hp12 hca12 hpp12 hpap12 s12 e612
        walk_at "x"
        refine ⟨p, rows, n, full, ca, road, .ref pp, some its, rfl, hp12, pr, hn, hca12, hzr, hpap12, fun H13 e13 => ?_⟩
        generalize hB : courseB rows n full road (some its) = B
        refine ⟨B, rfl, ?_⟩
        have hclaim13 := e13 _ _ hclaim
        walk_at "x"
        refine ⟨pc, .ref pp, rfl, .inr ⟨rows, "stuck", [.int n, .int full, .ref ca], hclaim13, pr, .inl rfl, .inr ⟨n, full, ca, road, some its, rfl, hn, e13 _ _ hca12, hzr, hpap12.same e13, fun H14 e14 => ?_⟩⟩⟩
        rw [hB]
        have e1214 := e13.trans e14
        walk_at "x"
        refine ⟨pp, ys, rfl, .inr (SqT.of (e1214 _ _ hpp12)), fun pl npl => ?_⟩
        have e15 := same_new (u := .lst ys) (Same.refl H14) npl
        have e1215 := e1214.trans e15
        have hpl15 : PapAt (upd H14 pl (.lst ys)) (.ref pl) none := ⟨.inl ⟨ys, upd_same⟩, by rw [isT_tup]; show (seqT (upd H14 pl (.lst ys) pl)).isSome = false; rw [upd_same]; rfl⟩
        generalize upd H14 pl (.lst ys) = H15 at e1215 hpl15
        walk_at "x"
        refine ⟨pc, .ref pl, rfl, .inr ⟨rows, "stuck", [.int n, .int full, .ref ca], e1215 _ _ hclaim, pr, .inl rfl, .inr ⟨n, full, ca, road, none, rfl, hn, e1215 _ _ hca12, hzr, hpl15, fun H16 e16 => ?_⟩⟩⟩
        rw [course_list, Bool.and_false]
        walk_at "x"
        refine ⟨by walk_at "sz", fun p17 n17 => ?_⟩
        refine ⟨p17, (decide (("stuck" : Str) = "stuck") && B), false, rfl, upd_same, ?_⟩
        rw [show (decide (("stuck" : Str) = "stuck") && B) = B by rw [decide_eq_true rfl, Bool.true_and]]
        have e1217 := same_new (u := .lst [.bl B, .bl false]) (e1215.trans e16) n17
        generalize upd H16 p17 (.lst [.bl B, .bl false]) = H17 at e1217
        have hdl := due_len B
        walk_at "x"
        refine ⟨szl (by rw [show ("[" : Str).length = 1 by decide +kernel]; omega), ?_⟩
        walk_at "x"
        refine ⟨szl (by rw [PySem.Str.length_append, show ("[" : Str).length = 1 by decide +kernel, show (", False]" : Str).length = 8 by decide +kernel]; omega), ?_⟩
        walk_at "x"
        refine x_F (by rw [dV_str, due_eq]; rfl) ?_
        have hclaim17 := e1217 _ _ hclaim
        have s17 := s12.same e1217
        walk_at "x"
        refine x_sl5to hclaim17 fun w1 nw1 => ?_
        have eA := same_new (u := .tup [.str "stuck", .str (progText rows), .int n, .int full]) e1217 nw1
        have sA := s17.keep (u := .tup [.str "stuck", .str (progText rows), .int n, .int full]) nw1
        have hw1 : upd H17 w1 (.tup [.str "stuck", .str (progText rows), .int n, .int full]) w1 = some (.tup [.str "stuck", .str (progText rows), .int n, .int full]) := upd_same
        generalize upd H17 w1 (.tup [.str "stuck", .str (progText rows), .int n, .int full]) = HA at eA hw1 sA
        walk_at "x"
        refine ⟨by walk_at "sz", fun q0 nq0 => ?_⟩
        refine x_catT (get_keep nq0 (eA _ _ hclaim)) upd_same (by simp) fun w2 nw2 => ?_
        have eB := same_new (u := .tup ([V.str "stuck", .str (progText rows), .int n, .int full, .ref ca] ++ [.int 0])) (same_new (u := .tup [.int 0]) eA nq0) nw2
        have sB := (sA.keep (u := .tup [.int 0]) nq0).keep (u := .tup ([V.str "stuck", .str (progText rows), .int n, .int full, .ref ca] ++ [.int 0])) nw2
        have hw1B := get_keep (u := .tup ([V.str "stuck", .str (progText rows), .int n, .int full, .ref ca] ++ [.int 0])) nw2 (get_keep (u := .tup [.int 0]) nq0 hw1)
        have hw2 : upd (upd HA q0 (.tup [.int 0])) w2 (.tup ([V.str "stuck", .str (progText rows), .int n, .int full, .ref ca] ++ [.int 0])) w2 = some (.tup ([V.str "stuck", .str (progText rows), .int n, .int full, .ref ca] ++ [.int 0])) := upd_same
        generalize hHB : upd (upd HA q0 (.tup [.int 0])) w2 (.tup ([V.str "stuck", .str (progText rows), .int n, .int full, .ref ca] ++ [.int 0])) = HB at eB hw1B hw2 sB
        have hHB' : upd (upd HA q0 (.tup [.int 0])) w2 (.tup (V.str "stuck" :: [.str (progText rows), .int n, .int full, .ref ca] ++ [.int 0])) = HB := hHB
        try rw [hHB']
        walk_at "x"
        refine ⟨pc, _, rfl, .inr (SqT.of (eB _ _ hclaim)), fun w3 nw3 => ?_⟩
        have eC := same_new (u := .lst [.str "stuck", .str (progText rows), .int n, .int full, .ref ca]) eB nw3
        have sC := sB.keep (u := .lst [.str "stuck", .str (progText rows), .int n, .int full, .ref ca]) nw3
        have ne3 := sB.ne nw3
        have hw1C := get_keep (u := .lst [.str "stuck", .str (progText rows), .int n, .int full, .ref ca]) nw3 hw1B
        have hw2C := get_keep (u := .lst [.str "stuck", .str (progText rows), .int n, .int full, .ref ca]) nw3 hw2
        have hw3 : upd HB w3 (.lst [.str "stuck", .str (progText rows), .int n, .int full, .ref ca]) w3 = some (.lst [.str "stuck", .str (progText rows), .int n, .int full, .ref ca]) := upd_same
        generalize upd HB w3 (.lst [.str "stuck", .str (progText rows), .int n, .int full, .ref ca]) = HC at eC hw1C hw2C hw3 sC
        walk_at "x"
        refine ⟨by walk_at "sz", fun q1 nq1 => ?_⟩
        walk_at "x"
        refine x_sl5from (get_keep nq1 (eC _ _ hclaim)) fun q2 nq2 => ?_
        refine x_catT (get_keep nq2 upd_same) upd_same (by simp) fun w4 nw4 => ?_
        have eD : Same HC (upd (upd (upd HC q1 (.tup [.str "stick"])) q2 (.tup [.str (progText rows), .int n, .int full, .ref ca])) w4 (.tup ([V.str "stick"] ++ [.str (progText rows), .int n, .int full, .ref ca]))) := same_new (same_new (same_new (Same.refl _) nq1) nq2) nw4
        have hw4 : upd (upd (upd HC q1 (.tup [.str "stick"])) q2 (.tup [.str (progText rows), .int n, .int full, .ref ca])) w4 (.tup ([V.str "stick"] ++ [.str (progText rows), .int n, .int full, .ref ca])) w4 = some (.tup [.str "stick", .str (progText rows), .int n, .int full, .ref ca]) := upd_same
        generalize hHD : upd (upd (upd HC q1 (.tup [.str "stick"])) q2 (.tup [.str (progText rows), .int n, .int full, .ref ca])) w4 (.tup ([V.str "stick"] ++ [.str (progText rows), .int n, .int full, .ref ca])) = HD at eD hw4
        have hHD' : upd (upd (upd HC q1 (.tup [.str "stick"])) q2 (.tup [.str (progText rows), .int n, .int full, .ref ca])) w4 (.tup (V.str "stick" :: [] ++ V.str (progText rows) :: [.int n, .int full, .ref ca])) = HD := hHD
        try rw [hHD']
        have sD := sC.same eD
        have eCD := eC.trans eD
        walk_at "x"
        refine ⟨by walk_at "sz", fun pmn nmn => ?_⟩
        walk_at "x"
        refine ⟨sp, pmn, _, rfl, sD.keep nmn, upd_same, sD.ne nmn, by simp, by simp, fun x H20 e20 s20 hx => ?_⟩
        have eE : Same H12 (upd HD pmn (.lst [.ref w1, .ref w2, .ref w3, .ref w4])) := same_new eCD nmn
        have sE : SprAt sp (upd HD pmn (.lst [.ref w1, .ref w2, .ref w3, .ref w4])) := sD.keep nmn
        have t20 : TupSame (upd HD pmn (.lst [.ref w1, .ref w2, .ref w3, .ref w4])) H20 := e20.tups sE
        have e1220 : Ex sp H12 H20 := (Ex.of eE).trans e20
        have k1 := t20 _ _ (get_keep nmn (eD _ _ hw1C))
        have k2 := t20 _ _ (get_keep nmn (eD _ _ hw2C))
        have k3 := e20 _ _ ne3 (get_keep nmn (eD _ _ hw3))
        have k4 := t20 _ _ (get_keep nmn hw4)
        have hclaim20 := (e1220.tups s12) _ _ hclaim
        have hca20 := (e1220.tups s12) _ _ hca12
        have hpap20 := hpap12.ex e1220 s12 s20
        have hacc : ∀ QV : VK, (∀ H', Same H20 H' → QV (.bl false) H') → spAccepts K [x, .ref pp] H20 QV E0 := by
          intro QV hQ
          simp only [List.mem_cons, List.not_mem_nil, or_false] at hx
          rcases hx with rfl | rfl | rfl | rfl
          · exact ⟨w1, .ref pp, rfl, .inr ⟨rows, "stuck", _, k1, pr, .inl rfl, .inl ⟨by simp, by simp, hQ⟩⟩⟩
          · exact ⟨w2, .ref pp, rfl, .inr ⟨rows, "stuck", _, k2, pr, .inl rfl, .inl ⟨by simp, by simp, hQ⟩⟩⟩
          · exact ⟨w3, .ref pp, rfl, .inl ⟨_, k3, hQ⟩⟩
          · refine ⟨w4, .ref pp, rfl, .inr ⟨rows, "stick", _, k4, pr, .inr rfl, .inr ⟨n, full, ca, road, some its, rfl, hn, hca20, hzr, hpap20, fun H' e' => ?_⟩⟩⟩
            rw [show decide (("stick" : Str) = "stuck") = false by decide +kernel, Bool.false_and]
            exact hQ H' e'
        walk_at "x"
        refine hacc _ fun H21 e21 => ?_
        walk_at "x"
        refine ⟨Nat.zero_le _, fun pe npe => ?_⟩
        have e22 := same_new (u := .tup []) e21 npe
        have hpe : upd H21 pe (.tup []) pe = some (.tup []) := upd_same
        generalize upd H21 pe (.tup []) = H22 at e22 hpe
        walk_at "x"
        refine ⟨pc, .ref pe, rfl, .inr ⟨rows, "stuck", [.int n, .int full, .ref ca], e22 _ _ hclaim20, pr, .inl rfl, .inr ⟨n, full, ca, road, some [], rfl, hn, e22 _ _ hca20, hzr, ⟨pe, [], rfl, hpe, by decide, .nil⟩, fun H23 e23 => ?_⟩⟩⟩
        rw [course_nil, Bool.and_false]
        walk_at "x"
        refine ⟨by walk_at "sz", fun p24 n24 => ?_⟩
        refine ⟨p24, false, false, rfl, upd_same, ?_⟩
        have e24 := same_new (u := .lst [.bl false, .bl false]) (e22.trans e23) n24
        have s24 := s20.same e24
        walk_at "x"
        exact ⟨_, _, _, _, _, _, _, _, _, _, _, rfl, ((e06.trans e612).trans e1220).trans (Ex.of e24), s24⟩
      | some st =>
        have hroad0 := (course_some hbg).2.2
        obtain ⟨jl, hjl, hlast⟩ := lastOf_get hroad0
        have hrange := begin_road hbg
        intro bl H7 e7 hbl
        walk_at "x"
        refine ⟨Nat.zero_le _, fun p1 n1 => ?_⟩
        have e2' := same_new (u := .lst []) (Same.refl H7) n1
        have hbl2 := e2' _ _ hbl
        refine ⟨.list ([st.2.1, st.2.2.1, st.2.2.2].map PyData.int), .list [], .lst (SqL.of hbl2) (dp_ints [st.2.1, st.2.2.1, st.2.2.2]), .lst (SqL.of upd_same) .nil, shaped_lst (lay_ints _) (Nat.le_trans (depth_ints _) (by decide)), shaped_nilL, ?_⟩
        rw [eqv_lst_nil]
        have e7' : Same H6 (upd H7 p1 (.lst [])) := e7.trans e2'
        generalize upd H7 p1 (.lst []) = H7' at e7' hbl2
        refine x_bl ?_
        refine x_T rfl ?_
        walk_at "x"
        refine x_ixT (SqT.of (e7' _ _ hca6)) (at_last (j := jl) (by rw [List.length_map]; exact hjl) (by rw [List.getElem?_map, hlast]; rfl)) ?_
        walk_at "x"
        refine ⟨by walk_at "sz", fun p4 n4 => ?_⟩
        walk_at "x"
        refine ⟨p4, bl, _, _, rfl, rfl, upd_same, get_keep n4 hbl2, by walk_at "sz", fun p5 n5 => ?_⟩
        walk_at "x"
        refine ⟨p5, _, rfl, .inl ⟨SqL.of upd_same, fun tp ntp => ?_⟩⟩
        have e68' : Same H6 (upd (upd (upd H7' p4 (.lst [.int (lastOf road)])) p5 (.lst ([V.int (lastOf road)] ++ [.int st.2.1, .int st.2.2.1, .int st.2.2.2]))) tp (.tup ([V.int (lastOf road)] ++ [.int st.2.1, .int st.2.2.1, .int st.2.2.2]))) := same_new (same_new (same_new e7' n4) n5) ntp
        have e68 := Ex.of (sp := sp) e68'
        have s8 := s6.same e68'
        obtain ⟨t, htE⟩ : ∃ t : Spot, t = (lastOf road, st.2) := ⟨_, rfl⟩
        have htp : upd (upd (upd H7' p4 (.lst [.int (lastOf road)])) p5 (.lst ([V.int (lastOf road)] ++ [.int st.2.1, .int st.2.2.1, .int st.2.2.2]))) tp (.tup ([V.int (lastOf road)] ++ [.int st.2.1, .int st.2.2.1, .int st.2.2.2])) tp = some (.tup (spV t)) := by rw [htE]; exact upd_same
        have htr : 0 ≤ t.1 ∧ t.1 < rows.length := by
          rw [htE]
          exact hrange
        generalize upd (upd (upd H7' p4 (.lst [.int (lastOf road)])) p5 (.lst ([V.int (lastOf road)] ++ [.int st.2.1, .int st.2.2.1, .int st.2.2.2]))) tp (.tup ([V.int (lastOf road)] ++ [.int st.2.1, .int st.2.2.1, .int st.2.2.2])) = H8 at e68 s8 htp
        have hp8 := e68 _ _ nsp hp6
        have hca8 := (e68.tups s6) _ _ hca6
        walk_at "x"
        refine ⟨p, tp, rows, n, t, rfl, hp8, pr, hn, htp, htr, fun pa H9 xs ss e9 na hpa hss l1 l2 => ?_⟩
        have s9 := s8.same e9
        have hp9 := e9 _ _ hp8
        have hsl := hss.len
        walk_at "x"
        refine ⟨sp, p, pa, rows, n, xs, ss, rfl, s9, hp9, pr, hn, hpa, hss, by omega, by omega, nsp, s8.ne na, fun pb H10 ys e10 s10 hpb hyl hyk => ?_⟩
        have hp10 := e10 _ _ nsp hp9
        have hca10 := (e10.tups s9) _ _ (e9 _ _ hca8)
        have e610 : Ex sp H6 H10 := (e68.trans (Ex.of e9)).trans e10
        walk_at "x"
        refine ⟨pb, ys, rfl, .inl ⟨SqL.of hpb, fun pp npp => ?_⟩⟩
        have e11 := same_new (u := .tup ys) (Same.refl H10) npp
        have hpap : PapAt (upd H10 pp (.tup ys)) (.ref pp) (some (ys.map (tupOf (upd H10 pp (.tup ys))))) := pap_of upd_same hyl fun y hy => (hyk y hy).same e11
        have hpp : upd H10 pp (.tup ys) pp = some (.tup ys) := upd_same
        have hp11 := e11 _ _ hp10
        have hca11 := e11 _ _ hca10
        have s11 := s10.same e11
        have e611 : Ex sp H6 (upd H10 pp (.tup ys)) := e610.trans (Ex.of e11)
        generalize upd H10 pp (.tup ys) = H11 at hpap hpp hp11 hca11 s11 e611
        generalize ys.map (tupOf H11) = its at hpap
        walk_at "x"
        refine ⟨"\n", p, rows.map Row.text, rfl, rfl, .inl (by rw [← texts_map]; exact SqL.of hp11), join_len pr.most, ?_⟩
        walk_at "x"
        refine ⟨by walk_at "sz", fun pc npc => ?_⟩
        have hclaim : upd H11 pc (.tup [.str "stuck", .str (progText rows), .int n, .int full, .ref ca]) pc = some (.tup [.str "stuck", .str (progText rows), .int n, .int full, .ref ca]) := upd_same
        have e12 := same_new (u := .tup [.str "stuck", .str (progText rows), .int n, .int full, .ref ca]) (Same.refl H11) npc
        have hp12 := e12 _ _ hp11
        have hca12 := e12 _ _ hca11
        have hpp12 := e12 _ _ hpp
        have hpap12 := hpap.same e12
        have s12 := s11.same e12
        have e612 : Ex sp H6 (upd H11 pc (.tup [.str "stuck", .str (progText rows), .int n, .int full, .ref ca])) := e611.trans (Ex.of e12)
        show gName 9 _ _ (upd H11 pc (.tup [.str "stuck", .str (progText rows), .int n, .int full, .ref ca])) _
        generalize upd H11 pc (.tup [.str "stuck", .str (progText rows), .int n, .int full, .ref ca]) = H12 at hclaim hp12 hca12 hpp12 hpap12 s12 e612
        walk_at "x"
        refine ⟨p, rows, n, full, ca, road, .ref pp, some its, rfl, hp12, pr, hn, hca12, hzr, hpap12, fun H13 e13 => ?_⟩
        generalize hB : courseB rows n full road (some its) = B
        refine ⟨B, rfl, ?_⟩
        have hclaim13 := e13 _ _ hclaim
        walk_at "x"
        refine ⟨pc, .ref pp, rfl, .inr ⟨rows, "stuck", [.int n, .int full, .ref ca], hclaim13, pr, .inl rfl, .inr ⟨n, full, ca, road, some its, rfl, hn, e13 _ _ hca12, hzr, hpap12.same e13, fun H14 e14 => ?_⟩⟩⟩
        rw [hB]
        have e1214 := e13.trans e14
        walk_at "x"
        refine ⟨pp, ys, rfl, .inr (SqT.of (e1214 _ _ hpp12)), fun pl npl => ?_⟩
        have e15 := same_new (u := .lst ys) (Same.refl H14) npl
        have e1215 := e1214.trans e15
        have hpl15 : PapAt (upd H14 pl (.lst ys)) (.ref pl) none := ⟨.inl ⟨ys, upd_same⟩, by rw [isT_tup]; show (seqT (upd H14 pl (.lst ys) pl)).isSome = false; rw [upd_same]; rfl⟩
        generalize upd H14 pl (.lst ys) = H15 at e1215 hpl15
        walk_at "x"
        refine ⟨pc, .ref pl, rfl, .inr ⟨rows, "stuck", [.int n, .int full, .ref ca], e1215 _ _ hclaim, pr, .inl rfl, .inr ⟨n, full, ca, road, none, rfl, hn, e1215 _ _ hca12, hzr, hpl15, fun H16 e16 => ?_⟩⟩⟩
        rw [course_list, Bool.and_false]
        walk_at "x"
        refine ⟨by walk_at "sz", fun p17 n17 => ?_⟩
        refine ⟨p17, (decide (("stuck" : Str) = "stuck") && B), false, rfl, upd_same, ?_⟩
        rw [show (decide (("stuck" : Str) = "stuck") && B) = B by rw [decide_eq_true rfl, Bool.true_and]]
        have e1217 := same_new (u := .lst [.bl B, .bl false]) (e1215.trans e16) n17
        generalize upd H16 p17 (.lst [.bl B, .bl false]) = H17 at e1217
        have hdl := due_len B
        walk_at "x"
        refine ⟨szl (by rw [show ("[" : Str).length = 1 by decide +kernel]; omega), ?_⟩
        walk_at "x"
        refine ⟨szl (by rw [PySem.Str.length_append, show ("[" : Str).length = 1 by decide +kernel, show (", False]" : Str).length = 8 by decide +kernel]; omega), ?_⟩
        walk_at "x"
        refine x_F (by rw [dV_str, due_eq]; rfl) ?_
        have hclaim17 := e1217 _ _ hclaim
        have s17 := s12.same e1217
        walk_at "x"
        refine x_sl5to hclaim17 fun w1 nw1 => ?_
        have eA := same_new (u := .tup [.str "stuck", .str (progText rows), .int n, .int full]) e1217 nw1
        have sA := s17.keep (u := .tup [.str "stuck", .str (progText rows), .int n, .int full]) nw1
        have hw1 : upd H17 w1 (.tup [.str "stuck", .str (progText rows), .int n, .int full]) w1 = some (.tup [.str "stuck", .str (progText rows), .int n, .int full]) := upd_same
        generalize upd H17 w1 (.tup [.str "stuck", .str (progText rows), .int n, .int full]) = HA at eA hw1 sA
        walk_at "x"
        refine ⟨by walk_at "sz", fun q0 nq0 => ?_⟩
        refine x_catT (get_keep nq0 (eA _ _ hclaim)) upd_same (by simp) fun w2 nw2 => ?_
        have eB := same_new (u := .tup ([V.str "stuck", .str (progText rows), .int n, .int full, .ref ca] ++ [.int 0])) (same_new (u := .tup [.int 0]) eA nq0) nw2
        have sB := (sA.keep (u := .tup [.int 0]) nq0).keep (u := .tup ([V.str "stuck", .str (progText rows), .int n, .int full, .ref ca] ++ [.int 0])) nw2
        have hw1B := get_keep (u := .tup ([V.str "stuck", .str (progText rows), .int n, .int full, .ref ca] ++ [.int 0])) nw2 (get_keep (u := .tup [.int 0]) nq0 hw1)
        have hw2 : upd (upd HA q0 (.tup [.int 0])) w2 (.tup ([V.str "stuck", .str (progText rows), .int n, .int full, .ref ca] ++ [.int 0])) w2 = some (.tup ([V.str "stuck", .str (progText rows), .int n, .int full, .ref ca] ++ [.int 0])) := upd_same
        generalize hHB : upd (upd HA q0 (.tup [.int 0])) w2 (.tup ([V.str "stuck", .str (progText rows), .int n, .int full, .ref ca] ++ [.int 0])) = HB at eB hw1B hw2 sB
        have hHB' : upd (upd HA q0 (.tup [.int 0])) w2 (.tup (V.str "stuck" :: [.str (progText rows), .int n, .int full, .ref ca] ++ [.int 0])) = HB := hHB
        try rw [hHB']
        walk_at "x"
        refine ⟨pc, _, rfl, .inr (SqT.of (eB _ _ hclaim)), fun w3 nw3 => ?_⟩
        have eC := same_new (u := .lst [.str "stuck", .str (progText rows), .int n, .int full, .ref ca]) eB nw3
        have sC := sB.keep (u := .lst [.str "stuck", .str (progText rows), .int n, .int full, .ref ca]) nw3
        have ne3 := sB.ne nw3
        have hw1C := get_keep (u := .lst [.str "stuck", .str (progText rows), .int n, .int full, .ref ca]) nw3 hw1B
        have hw2C := get_keep (u := .lst [.str "stuck", .str (progText rows), .int n, .int full, .ref ca]) nw3 hw2
        have hw3 : upd HB w3 (.lst [.str "stuck", .str (progText rows), .int n, .int full, .ref ca]) w3 = some (.lst [.str "stuck", .str (progText rows), .int n, .int full, .ref ca]) := upd_same
        generalize upd HB w3 (.lst [.str "stuck", .str (progText rows), .int n, .int full, .ref ca]) = HC at eC hw1C hw2C hw3 sC
        walk_at "x"
        refine ⟨by walk_at "sz", fun q1 nq1 => ?_⟩
        walk_at "x"
        refine x_sl5from (get_keep nq1 (eC _ _ hclaim)) fun q2 nq2 => ?_
        refine x_catT (get_keep nq2 upd_same) upd_same (by simp) fun w4 nw4 => ?_
        have eD : Same HC (upd (upd (upd HC q1 (.tup [.str "stick"])) q2 (.tup [.str (progText rows), .int n, .int full, .ref ca])) w4 (.tup ([V.str "stick"] ++ [.str (progText rows), .int n, .int full, .ref ca]))) := same_new (same_new (same_new (Same.refl _) nq1) nq2) nw4
        have hw4 : upd (upd (upd HC q1 (.tup [.str "stick"])) q2 (.tup [.str (progText rows), .int n, .int full, .ref ca])) w4 (.tup ([V.str "stick"] ++ [.str (progText rows), .int n, .int full, .ref ca])) w4 = some (.tup [.str "stick", .str (progText rows), .int n, .int full, .ref ca]) := upd_same
        generalize hHD : upd (upd (upd HC q1 (.tup [.str "stick"])) q2 (.tup [.str (progText rows), .int n, .int full, .ref ca])) w4 (.tup ([V.str "stick"] ++ [.str (progText rows), .int n, .int full, .ref ca])) = HD at eD hw4
        have hHD' : upd (upd (upd HC q1 (.tup [.str "stick"])) q2 (.tup [.str (progText rows), .int n, .int full, .ref ca])) w4 (.tup (V.str "stick" :: [] ++ V.str (progText rows) :: [.int n, .int full, .ref ca])) = HD := hHD
        try rw [hHD']
        have sD := sC.same eD
        have eCD := eC.trans eD
        walk_at "x"
        refine ⟨by walk_at "sz", fun pmn nmn => ?_⟩
        walk_at "x"
        refine ⟨sp, pmn, _, rfl, sD.keep nmn, upd_same, sD.ne nmn, by simp, by simp, fun x H20 e20 s20 hx => ?_⟩
        have eE : Same H12 (upd HD pmn (.lst [.ref w1, .ref w2, .ref w3, .ref w4])) := same_new eCD nmn
        have sE : SprAt sp (upd HD pmn (.lst [.ref w1, .ref w2, .ref w3, .ref w4])) := sD.keep nmn
        have t20 : TupSame (upd HD pmn (.lst [.ref w1, .ref w2, .ref w3, .ref w4])) H20 := e20.tups sE
        have e1220 : Ex sp H12 H20 := (Ex.of eE).trans e20
        have k1 := t20 _ _ (get_keep nmn (eD _ _ hw1C))
        have k2 := t20 _ _ (get_keep nmn (eD _ _ hw2C))
        have k3 := e20 _ _ ne3 (get_keep nmn (eD _ _ hw3))
        have k4 := t20 _ _ (get_keep nmn hw4)
        have hclaim20 := (e1220.tups s12) _ _ hclaim
        have hca20 := (e1220.tups s12) _ _ hca12
        have hpap20 := hpap12.ex e1220 s12 s20
        have hacc : ∀ QV : VK, (∀ H', Same H20 H' → QV (.bl false) H') → spAccepts K [x, .ref pp] H20 QV E0 := by
          intro QV hQ
          simp only [List.mem_cons, List.not_mem_nil, or_false] at hx
          rcases hx with rfl | rfl | rfl | rfl
          · exact ⟨w1, .ref pp, rfl, .inr ⟨rows, "stuck", _, k1, pr, .inl rfl, .inl ⟨by simp, by simp, hQ⟩⟩⟩
          · exact ⟨w2, .ref pp, rfl, .inr ⟨rows, "stuck", _, k2, pr, .inl rfl, .inl ⟨by simp, by simp, hQ⟩⟩⟩
          · exact ⟨w3, .ref pp, rfl, .inl ⟨_, k3, hQ⟩⟩
          · refine ⟨w4, .ref pp, rfl, .inr ⟨rows, "stick", _, k4, pr, .inr rfl, .inr ⟨n, full, ca, road, some its, rfl, hn, hca20, hzr, hpap20, fun H' e' => ?_⟩⟩⟩
            rw [show decide (("stick" : Str) = "stuck") = false by decide +kernel, Bool.false_and]
            exact hQ H' e'
        walk_at "x"
        refine hacc _ fun H21 e21 => ?_
        walk_at "x"
        refine ⟨Nat.zero_le _, fun pe npe => ?_⟩
        have e22 := same_new (u := .tup []) e21 npe
        have hpe : upd H21 pe (.tup []) pe = some (.tup []) := upd_same
        generalize upd H21 pe (.tup []) = H22 at e22 hpe
        walk_at "x"
        refine ⟨pc, .ref pe, rfl, .inr ⟨rows, "stuck", [.int n, .int full, .ref ca], e22 _ _ hclaim20, pr, .inl rfl, .inr ⟨n, full, ca, road, some [], rfl, hn, e22 _ _ hca20, hzr, ⟨pe, [], rfl, hpe, by decide, .nil⟩, fun H23 e23 => ?_⟩⟩⟩
        rw [course_nil, Bool.and_false]
        walk_at "x"
        refine ⟨by walk_at "sz", fun p24 n24 => ?_⟩
        refine ⟨p24, false, false, rfl, upd_same, ?_⟩
        have e24 := same_new (u := .lst [.bl false, .bl false]) (e22.trans e23) n24
        have s24 := s20.same e24
        walk_at "x"
        exact ⟨_, _, _, _, _, _, _, _, _, _, _, rfl, ((e06.trans e612).trans e1220).trans (Ex.of e24), s24⟩
    · obtain ⟨v1, v2, v3, v4, v5, v6, v7, v8, v9, v10, v11, rfl, e0, s0⟩ := hP
      exact q H' e0 s0
end
end K48
namespace K48
open PySem PySem.Spec PyProof.Rows L2
local macro_rules | `(tactic| walk_at "hg") => `(tactic| first | assumption | exact upd_same | (apply get_keep; assumption; walk_at "hg") | (apply get_same; assumption; walk_at "hg") | (apply get_mut; assumption; walk_at "hg"))
local macro_rules | `(tactic| walk_at "sq") => `(tactic| first | assumption | (apply SqT.of; walk_at "hg") | (apply SqL.of; walk_at "hg") | (apply same_t; assumption; walk_at "sq") | (apply Same.seq; assumption; walk_at "sq"))
local macro_rules | `(tactic| walk_at "sc") => `(tactic| first | omega | decide | assumption | (unfold CMul; omega) | (unfold CDiv; omega) | (show (0 : Int) < _; omega) | (exact cdivw (by omega) (by omega)) | (exact cdivp (by omega) (by omega)))
local macro_rules | `(tactic| walk_at "x1") => `(tactic| first
  | with_reducible refine x_seq ?_
  | with_reducible refine x_var (by with_unfolding_all rfl) ?_
  | with_reducible refine x_c ?_
  | with_reducible refine x_op ?_
  | with_reducible refine x_rI0 ?_
  | with_reducible refine x_bl ?_
  | with_reducible refine x_rEq (by with_unfolding_all rfl) ?_
  | with_reducible refine x_rNe (by with_unfolding_all rfl) ?_
  | with_reducible refine x_asg ?_
  | with_reducible refine x_gname ?_
  | with_reducible refine x_gcons ?_
  | with_reducible refine x_gnil ?_
  | with_reducible refine x_ret ?_
  | with_reducible refine x_drop ?_
  | with_reducible refine x_next ?_
  | with_reducible refine x_cont ?_
  | with_reducible refine x_brk ?_
  | with_reducible refine x_ifS ?_
  | with_reducible refine x_ifE ?_
  | with_reducible refine x_cons ?_
  | with_reducible refine x_nil ?_
  | with_reducible refine x_test ?_
  | with_reducible refine x_tB ?_
  | with_reducible refine x_and ?_
  | with_reducible refine x_or ?_
  | with_reducible refine x_not ?_
  | with_reducible refine x_andV ?_
  | with_reducible refine x_orV ?_
  | with_reducible refine x_notV ?_
  | with_reducible refine x_chain ?_
  | with_reducible refine x_par ?_
  | with_reducible refine x_two ?_
  | with_reducible refine x_un ?_
  | with_reducible refine x_rU ?_
  | with_reducible refine x_cb ?_
  | with_reducible refine x_call ?_
  | with_reducible refine x_sl ?_
  | with_reducible refine x_nopart ?_
  | with_reducible refine x_part ?_
  | with_reducible refine x_int ?_
  | with_reducible refine x_tup ?_
  | with_reducible refine x_lst ?_
  | with_reducible refine x_bm ?_
  | with_reducible refine x_fld ?_
  | with_reducible refine x_chain3 ?_
  | with_reducible refine x_yes ?_
  | with_reducible refine x_lcT ?_
  | with_reducible refine x_lcL ?_
  | with_reducible refine x_for ?_
  | with_reducible refine x_iT ?_
  | with_reducible refine x_iL ?_
  | with_reducible refine x_rng1 ?_
  | with_reducible refine x_rng2 ?_
  | with_reducible refine x_dcT ?_
  | with_reducible refine x_din ?_
  | with_reducible refine x_dni ?_
  | with_reducible refine x_lcE ?_
  | with_reducible refine x_enS ?_
  | with_reducible refine x_m1 ?_
  | with_reducible refine x_gsub ?_
  | ((with_reducible apply x_setl); (focus (walk_at "hg"; done)); (focus (with_unfolding_all rfl; done)))
  | with_reducible refine x_int1 ?_
  | with_reducible refine x_str2 ?_
  | ((with_reducible apply x_rI); (focus (walk_at "sc"; done)))
  | with_reducible refine x_sw ?_
  | with_reducible refine x_ss ?_
  | ((with_reducible apply x_ixT); (focus (walk_at "sq"; done)); (focus (with_unfolding_all rfl; done)))
  | ((with_reducible apply x_ixL); (focus (walk_at "sq"; done)); (focus (with_unfolding_all rfl; done)))
  | ((with_reducible apply x_gtup); (focus (walk_at "sq"; done)); (focus (with_unfolding_all rfl; done)))
  | ((with_reducible apply x_glst); (focus (walk_at "sq"; done)); (focus (with_unfolding_all rfl; done)))
  | with_reducible refine x_F dn_int ?_
  | with_reducible refine x_F dn_ref ?_
  | with_reducible refine x_T dn_non ?_
  | with_reducible refine x_T (by decide +kernel) ?_
  | with_reducible refine x_F (by decide +kernel) ?_)
local macro_rules | `(tactic| walk_at "sz") => `(tactic| first | (exact Nat.le_of_ble_eq_true rfl) | decide | omega)
local macro_rules | `(tactic| walk_at "x") => `(tactic| ((walk_at "x1"); repeat (walk_at "x1")))
section
variable {P : Program} {w : World} {K : PySem.W.Frag} {mg : Str → Option Value} {base : Heap}
/-! ### a spring for a cell -/
def spSpring2 (K : PySem.W.Frag) : Sp := fun vs H Q _ => ∃ (c : Addr) (cells : List Int) (k : Nat), vs = [.ref c, .int k] ∧ SqL K H c (cells.map V.int) ∧ k < 100 ∧ ∀ sp H', Same H H' → H sp = none → SprAt sp H' → Q (.ref sp) H'
theorem ok__law_spring2 (T : Tx w K mg) (B : HasDef K mg "_law_spring" s__law_spring ["_law_cells", "_law_k"]) : Def P w K mg base "_law_spring" 1 ["_law_cells", "_law_k"] (spSpring2 K) := by
  refine Def.mk B sc_law_spring (fun vs H Q E h => ?_) (fun f cdv A outer s H vs Q E hr h => ?_)
  · obtain ⟨c, cells, k, rfl, _⟩ := h
    rfl
  · obtain ⟨c, cells, k, rfl, hc, hk, q⟩ := h
    refine ⟨_, (pss_cons (ps_set (i := 2) sc_law_spring.nd rfl (Or.inl rfl) (pe_ifExp (pt_cmpR op_lt (pv 1) (pe_callB call_len_seq (by rfl) T.z_len boot_len' (pa_cons (pv 0) pa_nil)) (nomark _)) (pe_ix ix_list (pv 0) (pv 1) (fun _ _ => rfl)) (pe_op op_add (pe_op op_mul pe_int (pv 1)) pe_int)))
      (pss_cons (ps_set (i := 3) sc_law_spring.nd rfl (Or.inl rfl) (pe_op op_add pe_int (pe_op op_mul pe_int (pv 1))))
      (pss_cons (ps_for PassesOwn.never (by rfl) (pi_list (pe_op op_cat (pe_slice sl_list (pv 0) po_none (po_some pe_int)) (pe_lst (pa_cons (pv 2) pa_nil)))) (pg_name (i := 4) sc_law_spring.nd rfl (Or.inl rfl))
      (pss_one (ps_set (i := 3) sc_law_spring.nd rfl (Or.inl rfl) (pe_op op_mod (pe_callTy call_int1 (by rfl) T.z_int boot_int' (pa_cons (pe_op op_add (pe_op op_add (pe_op op_mul (pv 3) pe_int) (pe_callTy call_int1 (by rfl) T.z_int boot_int' (pa_cons (pv 4) pa_nil))) (pe_op op_mul pe_int (pv 1))) pa_nil)) pe_int))))
      (pss_one (ps_ret (pe_lst (pa_cons (pe_ifExp (PW.pt (pw_or (pt_cmpR op_lt (pv 2) pe_int (nomark _)) (pw_or1 (pt_cmpR op_ge (pv 2) (pe_op op_pow pe_int pe_int) (nomark _))))) (pe_callB call_abs (by rfl) T.z_abs boot_abs' (pa_cons (pv 2) pa_nil)) pe_int) (pa_cons (pv 3) (pa_cons pe_int pa_nil))))))))), ?_⟩
    walk_at "x"
    refine ⟨c, _, rfl, .inl (hc), ?_⟩
    walk_at "x"
    refine x_TF (fun h1 => ?a) (fun h1 => ?b)
    case' a =>
      have hk2 : k < cells.length := by
        have := of_decide_eq_true h1
        rw [List.length_map] at this
        omega
      walk_at "x"
      refine x_ixL (hc) (atI_nat (v := .int cells[k]) (by rw [List.getElem?_map, List.getElem?_eq_getElem hk2]; rfl)) ?_
      generalize cells[k] = cell
    case' b =>
      walk_at "x"
      generalize 7 * (k : Int) + 2 = cell
    all_goals
      try walk_at "x"
      refine ⟨c, _, rfl, hc, fun p1 n1 => ?_⟩
      walk_at "x"
      refine ⟨by walk_at "sz", fun p2 n2 => ?_⟩
      have hcut : ∀ x ∈ cutV (cells.map V.int) none (some 8) ++ [V.int cell], ∃ i, x = V.int i := fun x hx => by
        rcases List.mem_append.mp hx with hx | hx
        · obtain ⟨i, _, rfl⟩ := List.mem_map.mp (List.mem_of_mem_drop (List.mem_of_mem_take hx))
          exact ⟨i, rfl⟩
        · exact ⟨cell, List.mem_singleton.mp hx⟩
      have hcl : (cutV (cells.map V.int) none (some 8)).length ≤ 8 := by
        unfold cutV
        rw [List.length_take]
        refine Nat.le_trans (Nat.min_le_left _ _) ?_
        have e0 : HT.sIx (cells.map V.int).length 0 none = 0 := rfl
        rw [e0, Nat.sub_zero]
        exact sIx_le8 _
      refine ⟨p1, p2, _, _, rfl, rfl, get_keep n2 upd_same, upd_same, Nat.le_trans (Nat.add_le_add_right hcl 1) (by decide), fun p3 n3 => ?_⟩
      have e3 := same_new (u := .lst (cutV (cells.map V.int) none (some 8) ++ [V.int cell])) (same_new (u := .lst [V.int cell]) (same_new (u := .lst (cutV (cells.map V.int) none (some 8))) (Same.refl H) n1) n2) n3
      refine ⟨p3, rfl, ⟨_, SqL.of upd_same⟩, ?_⟩
      have h3 : upd (upd (upd H p1 (.lst (cutV (cells.map V.int) none (some 8)))) p2 (.lst [.int cell])) p3 (.lst (cutV (cells.map V.int) none (some 8) ++ [.int cell])) p3 = some (.lst (cutV (cells.map V.int) none (some 8) ++ [V.int cell])) := upd_same
      generalize upd (upd (upd H p1 (.lst (cutV (cells.map V.int) none (some 8)))) p2 (.lst [.int cell])) p3 (.lst (cutV (cells.map V.int) none (some 8) ++ [.int cell])) = H3 at e3 h3
      generalize cutV (cells.map V.int) none (some 8) ++ [V.int cell] = xs at hcut h3
      refine for_list (xs := xs) (fun i σ H' => ∃ (m : Int) (v4 : Option V), σ = [some (.ref c), some (.int k), some (.int cell), some (.int m), v4] ∧ 0 ≤ m ∧ m < 2147483647 ∧ H' = H3) ⟨90001 + 7919 * k, none, rfl, by omega, by omega, rfl⟩ (fun i σ H' _ ⟨_, _, _, _, _, eH⟩ => by rw [eH]; exact SqL.of h3) (fun i x σ H' hi hP => ?_) (fun σ H' hP => ?_)
      · obtain ⟨m, v4, rfl, hm1, hm2, rfl⟩ := hP
        obtain ⟨z, rfl⟩ := hcut x (List.mem_of_getElem? hi)
        walk_at "x"
        exact ⟨_, _, rfl, Int.emod_nonneg _ (by decide), Int.emod_lt_of_pos _ (by decide), rfl⟩
      · obtain ⟨m, v4, rfl, hm1, hm2, rfl⟩ := hP
        have fin : ∀ g : Int, 0 ≤ g → ∀ sp, H' sp = none → Q (.ref sp) (upd H' sp (.lst [.int g, .int m, .int 0])) := fun g hg sp nsp => q sp _ (same_new e3 nsp) (e3.free nsp) ⟨g, m, 0, upd_same, hg, hm1, hm2⟩
        walk_at "x"
        refine x_TF (fun g1 => ?_) (fun g1 => ?_)
        · walk_at "x"
          refine ⟨cell, rfl, ?_⟩
          walk_at "x"
          exact ⟨by walk_at "sz", fun sp nsp => fin _ (by split <;> omega) sp nsp⟩
        · walk_at "x"
          refine x_rI ⟨by decide, by decide, by decide⟩ ?_
          walk_at "x"
          refine x_TF (fun g2 => ?_) (fun g2 => ?_)
          · walk_at "x"
            refine ⟨cell, rfl, ?_⟩
            walk_at "x"
            exact ⟨by walk_at "sz", fun sp nsp => fin _ (by split <;> omega) sp nsp⟩
          · walk_at "x"
            exact ⟨by walk_at "sz", fun sp nsp => fin 0 (by decide) sp nsp⟩
/-- over a range, nothing of what was there changes -/
theorem lcRS_go {tt : TT} {te : TE} {vs : List Nat} {σ : L2.St} {H : Hp} {Q : VK} {j n : Nat} (G : Nat → Hp → List V → Prop) (hn : n < 1000000) (g0 : G 0 H []) (mono : ∀ i H H' l, TupSame H H' → G i H l → G i H' l) (hw : ∀ x, wipe ((wipe σ vs).set j (some x)) vs = wipe σ vs)
    (turn : ∀ i H' l, i < n → Same H H' → l.length ≤ i → G i H' l → ∀ (KT : VK) (KF : Hp → Prop), (∀ y H4, Same H' H4 → G (i + 1) H4 (l ++ [y]) → KT y H4) → (∀ H3, Same H' H3 → G (i + 1) H3 l → KF H3) → tt ((wipe σ vs).set j (some (.int (i : Nat)))) H' fun b H3 => if b = true then te ((wipe σ vs).set j (some (.int (i : Nat)))) H3 KT else KF H3)
    (q : ∀ D H' l, H D = none → Same H H' → H' D = some (.lst l) → G n H' l → Q (.ref D) H') : LcR (gName j) tt te vs σ Q [.int (n : Nat)] H := by
  refine ⟨n, rfl, by omega, by omega, fun D nD => ?_⟩
  rw [Int.toNat_natCast]
  refine ⟨fun i m H' => m = n - i ∧ i ≤ n ∧ Same H H' ∧ ∃ l, l.length ≤ i ∧ H' D = some (.lst l) ∧ G i H' l, ⟨n, rfl, Nat.zero_le _, same_new (Same.refl _) nD, [], Nat.le_refl _, upd_same, mono _ _ _ _ (Same.tups (same_new (Same.refl _) nD)) g0⟩, ?_⟩
  rintro i m H' ⟨rfl, hi, e, l, hl, hD, hG⟩
  by_cases hlt : i < n
  · refine .inr ⟨hlt, fun H' => Same H H' ∧ ∃ l, l.length ≤ i + 1 ∧ H' D = some (.lst l) ∧ G (i + 1) H' l, fun H' p' => ⟨n - (i + 1), by omega, rfl, hlt, p'⟩, fun x H2 y => ?_⟩
    obtain ⟨rfl, rfl⟩ := y
    refine x_gname ⟨hw _, ?_⟩
    rw [Int.zero_add]
    refine turn i H2 l hlt e hl hG _ _ (fun y H4 e4 g4 => ?_) (fun H3 e3 g3 => ⟨e.trans e3, l, by omega, e3 _ _ hD, g3⟩)
    have hD4 := e4 _ _ hD
    have ts : TupSame H4 (upd H4 D (.lst (l ++ [y]))) := fun b zs hb => (upd_ne (fun z => by rw [z, hD4] at hb; cases hb)).trans hb
    exact ⟨l, hD4, Nat.lt_of_le_of_lt hl (Nat.lt_of_lt_of_le (Nat.lt_trans hlt hn) (by decide)), same_mut (e.trans e4) nD, l ++ [y], by rw [List.length_append, List.length_singleton]; omega, upd_same, mono _ _ _ _ ts g4⟩
  · have en : i = n := by omega
    subst en
    exact .inl ⟨Nat.le_refl _, q D H' l nD e hD hG⟩
def spLaw (K : PySem.W.Frag) : Sp := fun vs H Q _ => ∃ a ns, vs = [.ref a] ∧ SqL K H a (List.map V.int ns) ∧ ns.length ≤ 63 ∧ ∀ H', Q (.bl true) H'
theorem sc_law : FnScope ["_law_script", "_law_k"] ["_law_script"] (defScope s_law) := ⟨rfl, rfl, rfl, by decide +kernel, rfl, by decide +kernel, by decide +kernel⟩
theorem ok_law (T : Tx w K mg) {f : Addr} {fd : FuncData} (F : Fun K "law" "law" s_law f fd) (D_law_spring : Def P w K mg base "_law_spring" 1 ["_law_cells", "_law_k"] (spSpring2 K)) (D_law_right : DefG P w K mg base "_law_right" 10 ["_law_spring_here"] spRight)  : FnG P w K mg base 11 f fd ["_law_script"] (spLaw K) := by
  refine FnG.of F sc_law (fun vs H Q E h => ?_) (fun cdv A outer s H vs Q E hgd hr h => ?_)
  · obtain ⟨a, ns, rfl, _⟩ := h
    rfl
  · obtain ⟨a, ns, rfl, ha, hl, q⟩ := h
    refine ⟨_, (pss_one (ps_ret (pe_callB (cr_all rfl) (by rfl) T.z_all boot_all' (pa_cons (pe_lc (own := [("_law_k", 1)]) (by rfl) sc_law.nd (pi_range1 (by rfl) T.z_range (pa_cons (pe_callB (call_max2 rfl) (by rfl) T.z_max boot_max' (pa_cons pe_int (pa_cons (pe_callB (call_min2 rfl) (by rfl) T.z_min boot_min' (pa_cons (pe_callB call_len_seq (by rfl) T.z_len boot_len' (pa_cons (pv 0) pa_nil)) (pa_cons pe_int pa_nil))) pa_nil))) pa_nil)) (blkOk_by (N := ["_law_script", "_law_k"]) (sc := defScope s_law) (by decide +kernel)) (fun _ _ _ _ _ => (pg_name (i := 1) sc_law.nd rfl (Or.inl rfl))) (fun _ _ _ _ _ => pts_nil) (fun _ _ _ _ _ => (pe_dG D_law_right hgd hr (pa_cons (pe_d D_law_spring hr (pa_cons (pv 0) (pa_cons (pv 1) pa_nil))) pa_nil)))) pa_nil)))), ?_⟩
    walk_at "x"
    refine x_lcR ?_
    walk_at "x"
    refine ⟨a, _, rfl, .inl ha, ?_⟩
    walk_at "x"
    refine ⟨_, _, rfl, ?_⟩
    walk_at "x"
    refine ⟨_, _, rfl, ?_⟩
    rw [List.length_map]
    obtain ⟨N, hN, hN2⟩ : ∃ N : Nat, (if (if (3 : Int) < (ns.length : Int) then (3 : Int) else (ns.length : Int)) > 2 then (if (3 : Int) < (ns.length : Int) then (3 : Int) else (ns.length : Int)) else 2) = (N : Int) ∧ N ≤ 3 := by
      have h : ∀ z : Int, 0 ≤ z → z ≤ 3 → ∃ N : Nat, z = (N : Int) ∧ N ≤ 3 := fun z h0 h1 => ⟨z.toNat, by omega, by omega⟩
      refine h _ ?_ ?_ <;> (repeat' split) <;> omega
    rw [hN]
    walk_at "x"
    refine lcRS_go (fun i _ l => l = List.replicate i (V.bl true)) (by omega) rfl (fun _ _ _ _ _ h => h) (fun x => rfl) (fun i H' l hi e hli hG KT KF kT kF => ?_) (fun D H' l nD e hD hG => ?_)
    · walk_at "x"
      refine ⟨a, ns, i, rfl, Same.seq e ha, by omega, fun sp H2 e2 nsp hsp => ?_⟩
      walk_at "x"
      refine ⟨sp, rfl, hsp, fun H3 e3 s3 => ?_⟩
      refine kT _ _ (fun b o hb => e3 b o (ne_of_none hb nsp) (e2 b o hb)) ?_
      rw [hG, List.replicate_succ']
    · walk_at "x"
      refine ⟨D, List.replicate N true, rfl, SqL.of (by rw [hD, hG, List.map_replicate]), ?_⟩
      rw [show (List.replicate N true).all id = true from by rw [List.all_eq_true]; intro x hx; rw [(List.mem_replicate.mp hx).2]; rfl]
      exact q H'
end
end K48
namespace K48
open PySem PySem.Spec PyProof.Rows L2
local macro_rules | `(tactic| walk_at "hg") => `(tactic| first | assumption | exact upd_same | (apply get_keep; assumption; walk_at "hg") | (apply get_same; assumption; walk_at "hg") | (apply get_mut; assumption; walk_at "hg"))
local macro_rules | `(tactic| walk_at "sq") => `(tactic| first | assumption | (apply SqT.of; walk_at "hg") | (apply SqL.of; walk_at "hg") | (apply same_t; assumption; walk_at "sq") | (apply Same.seq; assumption; walk_at "sq"))
local macro_rules | `(tactic| walk_at "sc") => `(tactic| first | omega | decide | assumption | (unfold CMul; omega) | (unfold CDiv; omega) | (show (0 : Int) < _; omega) | (exact cdivw (by omega) (by omega)) | (exact cdivp (by omega) (by omega)))
local macro_rules | `(tactic| walk_at "x1") => `(tactic| first
  | with_reducible refine x_seq ?_
  | with_reducible refine x_var (by with_unfolding_all rfl) ?_
  | with_reducible refine x_c ?_
  | with_reducible refine x_op ?_
  | with_reducible refine x_rI0 ?_
  | with_reducible refine x_bl ?_
  | with_reducible refine x_rEq (by with_unfolding_all rfl) ?_
  | with_reducible refine x_rNe (by with_unfolding_all rfl) ?_
  | with_reducible refine x_asg ?_
  | with_reducible refine x_gname ?_
  | with_reducible refine x_gcons ?_
  | with_reducible refine x_gnil ?_
  | with_reducible refine x_ret ?_
  | with_reducible refine x_drop ?_
  | with_reducible refine x_next ?_
  | with_reducible refine x_cont ?_
  | with_reducible refine x_brk ?_
  | with_reducible refine x_ifS ?_
  | with_reducible refine x_ifE ?_
  | with_reducible refine x_cons ?_
  | with_reducible refine x_nil ?_
  | with_reducible refine x_test ?_
  | with_reducible refine x_tB ?_
  | with_reducible refine x_and ?_
  | with_reducible refine x_or ?_
  | with_reducible refine x_not ?_
  | with_reducible refine x_andV ?_
  | with_reducible refine x_orV ?_
  | with_reducible refine x_notV ?_
  | with_reducible refine x_chain ?_
  | with_reducible refine x_par ?_
  | with_reducible refine x_two ?_
  | with_reducible refine x_un ?_
  | with_reducible refine x_rU ?_
  | with_reducible refine x_cb ?_
  | with_reducible refine x_call ?_
  | with_reducible refine x_sl ?_
  | with_reducible refine x_nopart ?_
  | with_reducible refine x_part ?_
  | with_reducible refine x_int ?_
  | with_reducible refine x_tup ?_
  | with_reducible refine x_lst ?_
  | with_reducible refine x_bm ?_
  | with_reducible refine x_fld ?_
  | with_reducible refine x_chain3 ?_
  | with_reducible refine x_yes ?_
  | with_reducible refine x_lcT ?_
  | with_reducible refine x_lcL ?_
  | with_reducible refine x_for ?_
  | with_reducible refine x_iT ?_
  | with_reducible refine x_iL ?_
  | with_reducible refine x_rng1 ?_
  | with_reducible refine x_rng2 ?_
  | with_reducible refine x_dcT ?_
  | with_reducible refine x_din ?_
  | with_reducible refine x_dni ?_
  | with_reducible refine x_lcE ?_
  | with_reducible refine x_enS ?_
  | with_reducible refine x_m1 ?_
  | with_reducible refine x_gsub ?_
  | ((with_reducible apply x_setl); (focus (walk_at "hg"; done)); (focus (with_unfolding_all rfl; done)))
  | with_reducible refine x_int1 ?_
  | with_reducible refine x_str2 ?_
  | ((with_reducible apply x_rI); (focus (walk_at "sc"; done)))
  | with_reducible refine x_sw ?_
  | with_reducible refine x_ss ?_
  | ((with_reducible apply x_ixT); (focus (walk_at "sq"; done)); (focus (with_unfolding_all rfl; done)))
  | ((with_reducible apply x_ixL); (focus (walk_at "sq"; done)); (focus (with_unfolding_all rfl; done)))
  | ((with_reducible apply x_gtup); (focus (walk_at "sq"; done)); (focus (with_unfolding_all rfl; done)))
  | ((with_reducible apply x_glst); (focus (walk_at "sq"; done)); (focus (with_unfolding_all rfl; done)))
  | with_reducible refine x_F dn_int ?_
  | with_reducible refine x_F dn_ref ?_
  | with_reducible refine x_T dn_non ?_
  | with_reducible refine x_T (by decide +kernel) ?_
  | with_reducible refine x_F (by decide +kernel) ?_)
local macro_rules | `(tactic| walk_at "sz") => `(tactic| first | (exact Nat.le_of_ble_eq_true rfl) | decide | omega)
local macro_rules | `(tactic| walk_at "x") => `(tactic| ((walk_at "x1"); repeat (walk_at "x1")))
/-! ### the call of the law, from a promise under no guard -/
theorem law_callG {P : Program} {w : World} {K : PySem.W.Frag} {mg mb : Str → Option Value} {k : Nat} {fa a : Addr} {fd : FuncData} {x : Str} {sp : Sp} {s₁ : Shared} {vs : List Value} {ns : List Int}
    (KX : K.In s₁.heap) (hns : s₁.heap.Ns mainGlobals mg) (hb : s₁.heap.Ns builtinsNs mb) (hbb : ∀ x : Str, x ≠ "__name__" → mb x = bootBuiltins x) (hlim : s₁.heap.NoLimit) (hg : s₁.gens = #[])
    (ha : s₁.heap.get? a = some { cls := .type "list", data := .seq vs.toArray }) (hi : IntsAre vs ns) (hl : ns.length ≤ sizeLine) (hr : Room k callerA)
    (F : ∀ base : Heap, K.In base → base.Ns mainGlobals mg → FnG P w K mg base k fa fd [x] sp) (hbind : ∀ (s : Shared) (u : Value), BindsTo s fd ⟨[u], []⟩ [(x, u)])
    (hsp : ∀ H : Hp, SqL K H a (ns.map V.int) → sp [.ref a] H (fun v _ => v = .bl true) E0) :
    codeAny (model P w) callerA (.call (.ref fa) ⟨[.ref a], []⟩) (fun r s' => r = .ok (.ret (.bool true)) ∧ OldK s₁.heap s'.heap ∧ s'.os = s₁.os ∧ AllBare s'.gens) s₁ := by
  have rv := vals_ints hi
  have lenV := hi.length
  -- one heap of tracked objects: nothing, or the script as a list that stays
  have core : ∀ (H : Hp) (o0 : Obj), (∀ b u, H b = some u → b = a ∧ u = .frz o0 (.lst (ns.map V.int))) → SqL K H a (ns.map V.int) → HOk P w H s₁.heap → (H a ≠ none → K.lookup a = none) →
      codeAny (model P w) callerA (.call (.ref fa) ⟨[.ref a], []⟩) (fun r s' => r = .ok (.ret (.bool true)) ∧ OldK s₁.heap s'.heap ∧ s'.os = s₁.os ∧ AllBare s'.gens) s₁ := by
    intro H o0 hO hS hok hK
    have free : ∀ {b : Addr} {o : Obj} {es : Array DictEntry} {ep : Nat}, s₁.heap.get? b = some o → o.data = .dict es ep → H b = none := fun {b o es ep} e d => by
      cases q : H b with
      | none => rfl
      | some u =>
        obtain ⟨rfl, _⟩ := hO b u q
        rw [ha] at e
        cases e
        exact absurd (show Data.seq vs.toArray _ = Data.dict es ep from d) (fun z => nomatch z)
    have nsK : ∀ {b : Addr} {m : Str → Option Value}, s₁.heap.Ns b m → (hidT s₁.heap H).Ns b m := fun {b m} ⟨o, es, ep, e, d, r⟩ => ⟨o, es, ep, hidT_get e (free e d), d, r⟩
    have hKb : K.In (hidT s₁.heap H) := fun b o e => hidT_get (KX b o e) (by
      cases q : H b with
      | none => rfl
      | some u =>
        obtain ⟨rfl, _⟩ := hO b u q
        rw [hK (by rw [q]; simp)] at e
        cases e)
    have hM : Mod K mg (hidT s₁.heap H) := ⟨hKb, nsK hns, ⟨mb, nsK hb, hbb⟩, let ⟨mc, h1, h2⟩ := hlim; ⟨mc, nsK h1, h2⟩⟩
    have e0 : Env0 P w K mg (hidT s₁.heap H) callerA [] s₁ H := ⟨rfl, hM, fun b o e => of_hidT e, Nat.le_of_eq (hidT_size _ _), trivial, fun b hb => absurd (show b ∈ ([] : List Addr) from hb) (by simp), hok, .of_eq hg⟩
    refine codeAny_mono ((F _ hKb (nsK hns)).run callerA [] s₁ H ⟨[.ref a], []⟩ [.ref a] [.ref a] _ _ rfl hr e0 (hbind s₁ (.ref a)) (.cons rfl .nil) (hsp H hS)) fun r s' h => ?_
    cases r with
    | error e => exact h.elim
    | ok fl =>
      cases fl with
      | next => exact False.elim h
      | brk => exact False.elim h
      | cont => exact False.elim h
      | ret u =>
        obtain ⟨v, H', os, bare, un, hok', r', q⟩ := h
        have q' : v = .bl true := q
        subst q'
        cases (show u = Value.bool true from r')
        refine ⟨rfl, OldK.of_keep fun b o e => ?_, os, bare⟩
        cases q : H b with
        | none => exact un.keep b o e q (by intro z; exact absurd (show b ∈ ([] : List Addr) from z) (by simp)) (by simp)
        | some u =>
          obtain ⟨_, rfl⟩ := hO b u q
          have z2 := un.frzs b o0 _ q
          obtain ⟨e1, _⟩ := hok b _ q
          obtain ⟨e2, _⟩ := hok' b _ z2
          rw [e] at e1
          cases e1
          exact e2
  cases hk : K.lookup a with
  | some o =>
    have e := KX a o hk
    rw [ha] at e
    cases e
    exact core (fun _ => none) default (fun b u z => nomatch z) (.inr ⟨_, vs.toArray, _, hk, rfl, rfl, rfl, by rw [List.size_toArray, lenV]; exact hl, by simpa using rv⟩) (fun b u z => nomatch z) fun z => absurd rfl z
  | none =>
    have ho : ∀ b u, (fun b => if b = a then some (HO.frz { cls := .type "list", data := .seq vs.toArray } (.lst (ns.map V.int))) else none) b = some u → b = a ∧ u = .frz { cls := .type "list", data := .seq vs.toArray } (.lst (ns.map V.int)) := fun b u z => by
      by_cases hb : b = a
      · have z' := (if_pos hb).symm.trans z
        exact ⟨hb, (Option.some.inj z').symm⟩
      · have z' := (if_neg hb).symm.trans z
        cases z'
    refine core (fun b => if b = a then some (.frz { cls := .type "list", data := .seq vs.toArray } (.lst (ns.map V.int))) else none) _ ho (.inl (.inr ⟨{ cls := .type "list", data := .seq vs.toArray }, if_pos rfl⟩)) (fun b u z => ?_) fun _ => hk
    obtain ⟨rfl, rfl⟩ := ho b u z
    exact ⟨ha, by rw [List.length_map]; exact hl, vs, _, rv, ha⟩
theorem walk_ofG {l : PySem.W.OpenLaw} {n k : Nat} {q : Program} {loose : List Str} {XP : (Str → Option Value) → Heap → Prop} {YP : World → Heap → Prop} {d : DefRec} {x : Str}
    (hn : l.most = some n) (hn2 : n ≤ sizeLine) (hdf : d.params.defaults = []) (hr : Room k callerA)
    (F : ∀ (w : World) (mg : Str → Option Value) (fa : Addr) (h : Heap), YP w h → h.Ns mainGlobals mg → mg d.name = some (.ref fa) →
      ∃ (K : PySem.W.Frag) (fd : FuncData) (sp : Sp), K.In h ∧ (∀ (s : Shared) (u : Value), BindsTo s fd ⟨[u], []⟩ [(x, u)]) ∧
        (∀ (H : Hp) (a : Addr) (ns : List Int), ns.length ≤ n → SqL K H a (ns.map V.int) → sp [.ref a] H (fun v _ => v = .bl true) E0) ∧
        ∀ base : Heap, K.In base → base.Ns mainGlobals mg → FnG l.prog w K mg base k fa fd [x] sp) :
    PySem.W.WalkO q loose XP YP l.row.toRowW d [] (fun f vs => PySem.call f vs) := by
  refine Att.attach_call hn hdf fun w s₀ s₁ mg mb fa o pm cd doc a vs ns G Y ho hd hcd hmg hobj hints hlen hg => ?_
  obtain ⟨K, fd, sp, KX, hb, hsp, hF⟩ := F w mg fa _ Y G.T.g hmg
  exact law_callG KX G.T.g G.T.b G.T.builtins G.T.nolimit hg hobj hints (Nat.le_trans hlen hn2) hr hF hb (fun H hS => hsp H a ns hlen hS)
end K48
namespace K48
open PySem PySem.Spec PyProof.Rows L2
section
variable {w : World} {K : PySem.W.Frag} {h : Heap} {mg : Str → Option Value}
theorem SaysK.a (c : SaysK fas fns tabs exB w K) : He5.SaysA fas fns K := congrArg (fun p : AlK => p.1.1) c
theorem SaysK.t (c : SaysK fas fns tabs exB w K) : tabs.map (fun t => He.dicW K (t.1 K)) = tabs.map (fun t => some (He.keysIn w.params t.2)) := congrArg (fun p : AlK => p.1.2) c
theorem SaysK.e (c : SaysK fas fns tabs exB w K) : exB K = true := congrArg (fun p : AlK => p.2) c
theorem tx_of (X : K.In h) (G : h.Ns mainGlobals mg) (c : SaysK fas fns tabs exB w K) : Tx w K mg := by
  have a := c.a
  have e := c.e
  unfold exB at e
  simp only [Bool.and_eq_true] at e
  obtain ⟨e1, e2, e3, e4, e5, e6, e7, e8, e9, e10, e11⟩ := e
  have t := c.t
  unfold tabs at t
  simp only [List.map_cons, List.map_nil, List.cons.injEq, and_true] at t
  obtain ⟨t1, t2, t3⟩ := t
  exact {
    z_isinstance := He.free_ok X G (a.fact 54 (f := .free "isinstance") rfl),
    z_int := He.free_ok X G (a.fact 55 (f := .free "int") rfl),
    z_bool := He.free_ok X G (a.fact 56 (f := .free "bool") rfl),
    z_str := He.free_ok X G (a.fact 57 (f := .free "str") rfl),
    z_tuple := He.free_ok X G (a.fact 58 (f := .free "tuple") rfl),
    z_list := He.free_ok X G (a.fact 59 (f := .free "list") rfl),
    z_dict := He.free_ok X G (a.fact 60 (f := .free "dict") rfl),
    z_len := He.free_ok X G (a.fact 61 (f := .free "len") rfl),
    z_enumerate := He.free_ok X G (a.fact 62 (f := .free "enumerate") rfl),
    z_range := He.free_ok X G (a.fact 63 (f := .free "range") rfl),
    z_min := He.free_ok X G (a.fact 64 (f := .free "min") rfl),
    z_max := He.free_ok X G (a.fact 65 (f := .free "max") rfl),
    z_all := He.free_ok X G (a.fact 66 (f := .free "all") rfl),
    z_abs := He.free_ok X G (a.fact 67 (f := .free "abs") rfl),
    z_divmod := He.free_ok X G (a.fact 68 (f := .free "divmod") rfl),
    z_repr := He.free_ok X G (a.fact 69 (f := .free "repr") rfl),
    mostRows := He.int_ok X G (a.fact 70 (f := .int "MOST_ROWS" 8) rfl),
    mostFull := He.int_ok X G (a.fact 71 (f := .int "MOST_FULL" 2) rfl),
    mostWide := He.int_ok X G (a.fact 72 (f := .int "MOST_WIDE" 8) rfl),
    fit := He.int_ok X G (a.fact 73 (f := .int "FIT" 0) rfl),
    figures := He.str_ok X G (a.fact 74 (f := .str "FIGURES" "01234567") rfl),
    gP := He.glo_ok X G (a.fact 0 (f := .glo "Program") rfl),
    gQ := He.glo_ok X G (a.fact 1 (f := .glo "QUANTITIES") rfl),
    gS := He.glo_ok X G (a.fact 2 (f := .glo "SUBJECTS") rfl),
    gC := He.glo_ok X G (a.fact 3 (f := .glo "CLOSED") rfl),
    gW := He.glo_ok X G (a.fact 4 (f := .glo "SHOWN") rfl),
    clP := He.cls_ok (a.fact 75 (f := .cls "Program") rfl),
    nW := He.noat_ok (a.fact 76 (f := .noat "Program" "written") rfl),
    nS := He.noat_ok (a.fact 77 (f := .noat "Program" "steps") rfl),
    mkP := He.mkr_ok (a.fact 78 (f := .mkr "Program") rfl),
    lnP := He.meth_ok (a.fact 79 (f := .meth "Program" "__len__") rfl),
    crP := ⟨e6, He.eqO_ok e7⟩,
    cmP := He5.cmet_of e4 e5,
    closed := fun H => He.tupB_ok e1 H,
    kdQ := He.dicW_ok t1,
    kdS := He.dicW_ok t2,
    kdW := He.dicW_ok t3,
    vQ := fun q hq => He.valsB_ok e2 hq,
    vS := fun q hq => He.valsB_ok e3 hq,
    oW := He.eqO_ok e8,
    oS0 := He.eqO_ok e9,
    oS1 := He.eqO_ok e10,
    oS2 := He.eqO_ok e11 }
end
section
variable {P : Program} {w : World} {K : PySem.W.Frag} {h : Heap} {mg : Str → Option Value} {f : Addr}
theorem facts (X : K.In h) (G : h.Ns mainGlobals mg) (hfa : mg ("law" : Str) = some (.ref f)) (c : SaysK fas fns tabs exB w K) :
    ∃ fd : FuncData, (∀ (s : Shared) (v : Value), BindsTo s fd ⟨[v], []⟩ [("_law_script", v)]) ∧ ∀ base : Heap, K.In base → base.Ns mainGlobals mg → FnG P w K mg base 11 f fd ["_law_script"] (spLaw K) := by
  have T := tx_of X G c
  have a := c.a
  have B_is_integer : HasDef K mg "is_integer" s_is_integer ["value"] := by
    obtain ⟨fd, F0⟩ := a.def_ 0 (d := gd "is_integer" 13) rfl
    exact ⟨_, fd, He5.fun_of F0, He.glo_ok X G (a.fact 6 (f := .glo "is_integer") rfl), FunD.bindsN (ps := ["value"]) F0 fun _ _ _ _ _ _ us hl => match us, hl with | [_], _ => rfl⟩
  have B_is_between : HasDef K mg "is_between" s_is_between ["value", "least", "most"] := by
    obtain ⟨fd, F0⟩ := a.def_ 1 (d := gd "is_between" 14) rfl
    exact ⟨_, fd, He5.fun_of F0, He.glo_ok X G (a.fact 7 (f := .glo "is_between") rfl), FunD.bindsN (ps := ["value", "least", "most"]) F0 fun _ _ _ _ _ _ us hl => match us, hl with | [_, _, _], _ => rfl⟩
  have B_amount : HasDef K mg "amount" s_amount ["times", "number", "size"] := by
    obtain ⟨fd, F0⟩ := a.def_ 6 (d := gd "amount" 30) rfl
    exact ⟨_, fd, He5.fun_of F0, He.glo_ok X G (a.fact 12 (f := .glo "amount") rfl), FunD.bindsN (ps := ["times", "number", "size"]) F0 fun _ _ _ _ _ _ us hl => match us, hl with | [_, _, _], _ => rfl⟩
  have B_moved : HasDef K mg "moved" s_moved ["step", "number", "value", "size"] := by
    obtain ⟨fd, F0⟩ := a.def_ 7 (d := gd "moved" 32) rfl
    exact ⟨_, fd, He5.fun_of F0, He.glo_ok X G (a.fact 13 (f := .glo "moved") rfl), FunD.bindsN (ps := ["step", "number", "value", "size"]) F0 fun _ _ _ _ _ _ us hl => match us, hl with | [_, _, _, _], _ => rfl⟩
  have B_is_bounded : HasDef K mg "is_bounded" s_is_bounded ["number", "spot"] := by
    obtain ⟨fd, F0⟩ := a.def_ 11 (d := gd "is_bounded" 44) rfl
    exact ⟨_, fd, He5.fun_of F0, He.glo_ok X G (a.fact 17 (f := .glo "is_bounded") rfl), FunD.bindsN (ps := ["number", "spot"]) F0 fun _ _ _ _ _ _ us hl => match us, hl with | [_, _], _ => rfl⟩
  have B_behind : HasDef K mg "behind" s_behind ["step", "row", "number", "spot"] := by
    obtain ⟨fd, F0⟩ := a.def_ 8 (d := gd "behind" 35) rfl
    exact ⟨_, fd, He5.fun_of F0, He.glo_ok X G (a.fact 14 (f := .glo "behind") rfl), FunD.bindsN (ps := ["step", "row", "number", "spot"]) F0 fun _ _ _ _ _ _ us hl => match us, hl with | [_, _, _, _], _ => rfl⟩
  have B_is_spot : HasDef K mg "is_spot" s_is_spot ["program", "value"] := by
    obtain ⟨fd, F0⟩ := a.def_ 13 (d := gd "is_spot" 48) rfl
    exact ⟨_, fd, He5.fun_of F0, He.glo_ok X G (a.fact 19 (f := .glo "is_spot") rfl), FunD.bindsN (ps := ["program", "value"]) F0 fun _ _ _ _ _ _ us hl => match us, hl with | [_, _], _ => rfl⟩
  have B_is_course : HasDef K mg "is_course" s_is_course ["program", "course"] := by
    obtain ⟨fd, F0⟩ := a.def_ 9 (d := gd "is_course" 36) rfl
    exact ⟨_, fd, He5.fun_of F0, He.glo_ok X G (a.fact 15 (f := .glo "is_course") rfl), FunD.bindsN (ps := ["program", "course"]) F0 fun _ _ _ _ _ _ us hl => match us, hl with | [_, _], _ => rfl⟩
  have B_stretch_of : HasDef K mg "stretch_of" s_stretch_of ["program", "number", "full", "course"] := by
    obtain ⟨fd, F0⟩ := a.def_ 12 (d := gd "stretch_of" 45) rfl
    exact ⟨_, fd, He5.fun_of F0, He.glo_ok X G (a.fact 18 (f := .glo "stretch_of") rfl), FunD.bindsN (ps := ["program", "number", "full", "course"]) F0 fun _ _ _ _ _ _ us hl => match us, hl with | [_, _, _, _], _ => rfl⟩
  have B_sticks : HasDef K mg "sticks" s_sticks ["program", "parts", "paper"] := by
    obtain ⟨fd, F0⟩ := a.def_ 14 (d := gd "sticks" 49) rfl
    exact ⟨_, fd, He5.fun_of F0, He.glo_ok X G (a.fact 20 (f := .glo "sticks") rfl), FunD.bindsN (ps := ["program", "parts", "paper"]) F0 fun _ _ _ _ _ _ us hl => match us, hl with | [_, _, _], _ => rfl⟩
  have B_accepts_course : HasDef K mg "accepts_course" s_accepts_course ["claim", "program", "certificate"] := by
    obtain ⟨fd, F0⟩ := a.def_ 15 (d := gd "accepts_course" 51) rfl
    exact ⟨_, fd, He5.fun_of F0, He.glo_ok X G (a.fact 21 (f := .glo "accepts_course") rfl), FunD.bindsN (ps := ["claim", "program", "certificate"]) F0 fun _ _ _ _ _ _ us hl => match us, hl with | [_, _, _], _ => rfl⟩
  have B_place_in : HasDef K mg "place_in" s_place_in ["word", "many"] := by
    obtain ⟨fd, F0⟩ := a.def_ 2 (d := gd "place_in" 15) rfl
    exact ⟨_, fd, He5.fun_of F0, He.glo_ok X G (a.fact 8 (f := .glo "place_in") rfl), FunD.bindsN (ps := ["word", "many"]) F0 fun _ _ _ _ _ _ us hl => match us, hl with | [_, _], _ => rfl⟩
  have B_plain_step_in : HasDef K mg "plain_step_in" s_plain_step_in ["words", "many"] := by
    obtain ⟨fd, F0⟩ := a.def_ 3 (d := gd "plain_step_in" 16) rfl
    exact ⟨_, fd, He5.fun_of F0, He.glo_ok X G (a.fact 9 (f := .glo "plain_step_in") rfl), FunD.bindsN (ps := ["words", "many"]) F0 fun _ _ _ _ _ _ us hl => match us, hl with | [_, _], _ => rfl⟩
  have B_step_in : HasDef K mg "step_in" s_step_in ["row", "at", "many"] := by
    obtain ⟨fd, F0⟩ := a.def_ 4 (d := gd "step_in" 17) rfl
    exact ⟨_, fd, He5.fun_of F0, He.glo_ok X G (a.fact 10 (f := .glo "step_in") rfl), FunD.bindsN (ps := ["row", "at", "many"]) F0 fun _ _ _ _ _ _ us hl => match us, hl with | [_, _, _], _ => rfl⟩
  have B_wrong_row : HasDef K mg "wrong_row" s_wrong_row ["rows"] := by
    obtain ⟨fd, F0⟩ := a.def_ 5 (d := gd "wrong_row" 18) rfl
    exact ⟨_, fd, He5.fun_of F0, He.glo_ok X G (a.fact 11 (f := .glo "wrong_row") rfl), FunD.bindsN (ps := ["rows"]) F0 fun _ _ _ _ _ _ us hl => match us, hl with | [_], _ => rfl⟩
  have B_program_of : HasDef K mg "program_of" s_program_of ["text"] := by
    obtain ⟨fd, F0⟩ := a.def_ 10 (d := gd "program_of" 40) rfl
    exact ⟨_, fd, He5.fun_of F0, He.glo_ok X G (a.fact 16 (f := .glo "program_of") rfl), FunD.bindsN (ps := ["text"]) F0 fun _ _ _ _ _ _ us hl => match us, hl with | [_], _ => rfl⟩
  have B_accepts : HasDef K mg "accepts" s_accepts ["claim", "certificate"] := by
    obtain ⟨fd, F0⟩ := a.def_ 16 (d := gd "accepts" 53) rfl
    exact ⟨_, fd, He5.fun_of F0, He.glo_ok X G (a.fact 22 (f := .glo "accepts") rfl), FunD.bindsN (ps := ["claim", "certificate"]) F0 fun _ _ _ _ _ _ us hl => match us, hl with | [_, _], _ => rfl⟩
  have B__law_draw : HasDef K mg "_law_draw" s__law_draw ["_law_spring_here", "_law_size_here"] := by
    obtain ⟨fd, F0⟩ := a.def_ 18 (d := gd "_law_draw" 56) rfl
    exact ⟨_, fd, He5.fun_of F0, He.glo_ok X G (a.fact 24 (f := .glo "_law_draw") rfl), FunD.bindsN (ps := ["_law_spring_here", "_law_size_here"]) F0 fun _ _ _ _ _ _ us hl => match us, hl with | [_, _], _ => rfl⟩
  have B__law_spring : HasDef K mg "_law_spring" s__law_spring ["_law_cells", "_law_k"] := by
    obtain ⟨fd, F0⟩ := a.def_ 17 (d := gd "_law_spring" 55) rfl
    exact ⟨_, fd, He5.fun_of F0, He.glo_ok X G (a.fact 23 (f := .glo "_law_spring") rfl), FunD.bindsN (ps := ["_law_cells", "_law_k"]) F0 fun _ _ _ _ _ _ us hl => match us, hl with | [_, _], _ => rfl⟩
  have B__law_of : HasDef K mg "_law_of" s__law_of ["_law_spring_here", "_law_menu"] := by
    obtain ⟨fd, F0⟩ := a.def_ 19 (d := gd "_law_of" 57) rfl
    exact ⟨_, fd, He5.fun_of F0, He.glo_ok X G (a.fact 25 (f := .glo "_law_of") rfl), FunD.bindsN (ps := ["_law_spring_here", "_law_menu"]) F0 fun _ _ _ _ _ _ us hl => match us, hl with | [_, _], _ => rfl⟩
  have B__law_measure : HasDef K mg "_law_measure" s__law_measure ["_law_spring_here"] := by
    obtain ⟨fd, F0⟩ := a.def_ 20 (d := gd "_law_measure" 58) rfl
    exact ⟨_, fd, He5.fun_of F0, He.glo_ok X G (a.fact 26 (f := .glo "_law_measure") rfl), FunD.bindsN (ps := ["_law_spring_here"]) F0 fun _ _ _ _ _ _ us hl => match us, hl with | [_], _ => rfl⟩
  have B__law_place : HasDef K mg "_law_place" s__law_place ["_law_spring_here", "_law_many", "_law_barred"] := by
    obtain ⟨fd, F0⟩ := a.def_ 21 (d := gd "_law_place" 59) rfl
    exact ⟨_, fd, He5.fun_of F0, He.glo_ok X G (a.fact 27 (f := .glo "_law_place") rfl), FunD.bindsN (ps := ["_law_spring_here", "_law_many", "_law_barred"]) F0 fun _ _ _ _ _ _ us hl => match us, hl with | [_, _, _], _ => rfl⟩
  have B__law_last_row : HasDef K mg "_law_last_row" s__law_last_row ["_law_spring_here", "_law_many"] := by
    obtain ⟨fd, F0⟩ := a.def_ 22 (d := gd "_law_last_row" 60) rfl
    exact ⟨_, fd, He5.fun_of F0, He.glo_ok X G (a.fact 28 (f := .glo "_law_last_row") rfl), FunD.bindsN (ps := ["_law_spring_here", "_law_many"]) F0 fun _ _ _ _ _ _ us hl => match us, hl with | [_, _], _ => rfl⟩
  have B__law_row : HasDef K mg "_law_row" s__law_row ["_law_spring_here", "_law_at", "_law_many"] := by
    obtain ⟨fd, F0⟩ := a.def_ 23 (d := gd "_law_row" 61) rfl
    exact ⟨_, fd, He5.fun_of F0, He.glo_ok X G (a.fact 29 (f := .glo "_law_row") rfl), FunD.bindsN (ps := ["_law_spring_here", "_law_at", "_law_many"]) F0 fun _ _ _ _ _ _ us hl => match us, hl with | [_, _, _], _ => rfl⟩
  have B__law_base : HasDef K mg "_law_base" s__law_base ["_law_spring_here"] := by
    obtain ⟨fd, F0⟩ := a.def_ 24 (d := gd "_law_base" 62) rfl
    exact ⟨_, fd, He5.fun_of F0, He.glo_ok X G (a.fact 30 (f := .glo "_law_base") rfl), FunD.bindsN (ps := ["_law_spring_here"]) F0 fun _ _ _ _ _ _ us hl => match us, hl with | [_], _ => rfl⟩
  have B__law_rows : HasDef K mg "_law_rows" s__law_rows ["_law_spring_here"] := by
    obtain ⟨fd, F0⟩ := a.def_ 25 (d := gd "_law_rows" 63) rfl
    exact ⟨_, fd, He5.fun_of F0, He.glo_ok X G (a.fact 31 (f := .glo "_law_rows") rfl), FunD.bindsN (ps := ["_law_spring_here"]) F0 fun _ _ _ _ _ _ us hl => match us, hl with | [_], _ => rfl⟩
  have B__law_looped_rows : HasDef K mg "_law_looped_rows" s__law_looped_rows ["_law_spring_here"] := by
    obtain ⟨fd, F0⟩ := a.def_ 42 (d := gd "_law_looped_rows" 80) rfl
    exact ⟨_, fd, He5.fun_of F0, He.glo_ok X G (a.fact 48 (f := .glo "_law_looped_rows") rfl), FunD.bindsN (ps := ["_law_spring_here"]) F0 fun _ _ _ _ _ _ us hl => match us, hl with | [_], _ => rfl⟩
  have B__law_size : HasDef K mg "_law_size" s__law_size ["_law_word", "_law_number_here", "_law_full"] := by
    obtain ⟨fd, F0⟩ := a.def_ 26 (d := gd "_law_size" 64) rfl
    exact ⟨_, fd, He5.fun_of F0, He.glo_ok X G (a.fact 32 (f := .glo "_law_size") rfl), FunD.bindsN (ps := ["_law_word", "_law_number_here", "_law_full"]) F0 fun _ _ _ _ _ _ us hl => match us, hl with | [_, _, _], _ => rfl⟩
  have B__law_is_far : HasDef K mg "_law_is_far" s__law_is_far ["_law_number_here", "_law_low", "_law_full"] := by
    obtain ⟨fd, F0⟩ := a.def_ 29 (d := gd "_law_is_far" 67) rfl
    exact ⟨_, fd, He5.fun_of F0, He.glo_ok X G (a.fact 35 (f := .glo "_law_is_far") rfl), FunD.bindsN (ps := ["_law_number_here", "_law_low", "_law_full"]) F0 fun _ _ _ _ _ _ us hl => match us, hl with | [_, _, _], _ => rfl⟩
  have B__law_is_wide_spot : HasDef K mg "_law_is_wide_spot" s__law_is_wide_spot ["_law_number_here", "_law_spot"] := by
    obtain ⟨fd, F0⟩ := a.def_ 35 (d := gd "_law_is_wide_spot" 73) rfl
    exact ⟨_, fd, He5.fun_of F0, He.glo_ok X G (a.fact 41 (f := .glo "_law_is_wide_spot") rfl), FunD.bindsN (ps := ["_law_number_here", "_law_spot"]) F0 fun _ _ _ _ _ _ us hl => match us, hl with | [_, _], _ => rfl⟩
  have B__law_end : HasDef K mg "_law_end" s__law_end ["_law_line", "_law_number_here", "_law_low", "_law_full"] := by
    obtain ⟨fd, F0⟩ := a.def_ 28 (d := gd "_law_end" 66) rfl
    exact ⟨_, fd, He5.fun_of F0, He.glo_ok X G (a.fact 34 (f := .glo "_law_end") rfl), FunD.bindsN (ps := ["_law_line", "_law_number_here", "_law_low", "_law_full"]) F0 fun _ _ _ _ _ _ us hl => match us, hl with | [_, _, _, _], _ => rfl⟩
  have B__law_goes : HasDef K mg "_law_goes" s__law_goes ["_law_lines", "_law_row_at", "_law_number_here", "_law_low", "_law_full"] := by
    obtain ⟨fd, F0⟩ := a.def_ 27 (d := gd "_law_goes" 65) rfl
    exact ⟨_, fd, He5.fun_of F0, He.glo_ok X G (a.fact 33 (f := .glo "_law_goes") rfl), FunD.bindsN (ps := ["_law_lines", "_law_row_at", "_law_number_here", "_law_low", "_law_full"]) F0 fun _ _ _ _ _ _ us hl => match us, hl with | [_, _, _, _, _], _ => rfl⟩
  have B__law_next : HasDef K mg "_law_next" s__law_next ["_law_lines", "_law_number_here", "_law_spot"] := by
    obtain ⟨fd, F0⟩ := a.def_ 34 (d := gd "_law_next" 72) rfl
    exact ⟨_, fd, He5.fun_of F0, He.glo_ok X G (a.fact 40 (f := .glo "_law_next") rfl), FunD.bindsN (ps := ["_law_lines", "_law_number_here", "_law_spot"]) F0 fun _ _ _ _ _ _ us hl => match us, hl with | [_, _, _], _ => rfl⟩
  have B__law_is_whole : HasDef K mg "_law_is_whole" s__law_is_whole ["_law_value", "_law_least", "_law_most"] := by
    obtain ⟨fd, F0⟩ := a.def_ 36 (d := gd "_law_is_whole" 74) rfl
    exact ⟨_, fd, He5.fun_of F0, He.glo_ok X G (a.fact 42 (f := .glo "_law_is_whole") rfl), FunD.bindsN (ps := ["_law_value", "_law_least", "_law_most"]) F0 fun _ _ _ _ _ _ us hl => match us, hl with | [_, _, _], _ => rfl⟩
  have B__law_is_road : HasDef K mg "_law_is_road" s__law_is_road ["_law_lines", "_law_road"] := by
    obtain ⟨fd, F0⟩ := a.def_ 38 (d := gd "_law_is_road" 76) rfl
    exact ⟨_, fd, He5.fun_of F0, He.glo_ok X G (a.fact 44 (f := .glo "_law_is_road") rfl), FunD.bindsN (ps := ["_law_lines", "_law_road"]) F0 fun _ _ _ _ _ _ us hl => match us, hl with | [_, _], _ => rfl⟩
  have B__law_bounded : HasDef K mg "_law_bounded" s__law_bounded ["_law_lines", "_law_number_here", "_law_full", "_law_road"] := by
    obtain ⟨fd, F0⟩ := a.def_ 37 (d := gd "_law_bounded" 75) rfl
    exact ⟨_, fd, He5.fun_of F0, He.glo_ok X G (a.fact 43 (f := .glo "_law_bounded") rfl), FunD.bindsN (ps := ["_law_lines", "_law_number_here", "_law_full", "_law_road"]) F0 fun _ _ _ _ _ _ us hl => match us, hl with | [_, _, _, _], _ => rfl⟩
  have B__law_begin : HasDef K mg "_law_begin" s__law_begin ["_law_lines", "_law_number_here", "_law_full", "_law_road"] := by
    obtain ⟨fd, F0⟩ := a.def_ 39 (d := gd "_law_begin" 77) rfl
    exact ⟨_, fd, He5.fun_of F0, He.glo_ok X G (a.fact 45 (f := .glo "_law_begin") rfl), FunD.bindsN (ps := ["_law_lines", "_law_number_here", "_law_full", "_law_road"]) F0 fun _ _ _ _ _ _ us hl => match us, hl with | [_, _, _, _], _ => rfl⟩
  have B__law_is_spot : HasDef K mg "_law_is_spot" s__law_is_spot ["_law_lines", "_law_thing"] := by
    obtain ⟨fd, F0⟩ := a.def_ 40 (d := gd "_law_is_spot" 78) rfl
    exact ⟨_, fd, He5.fun_of F0, He.glo_ok X G (a.fact 46 (f := .glo "_law_is_spot") rfl), FunD.bindsN (ps := ["_law_lines", "_law_thing"]) F0 fun _ _ _ _ _ _ us hl => match us, hl with | [_, _], _ => rfl⟩
  have B__law_sticks : HasDef K mg "_law_sticks" s__law_sticks ["_law_lines", "_law_number_here", "_law_full", "_law_road", "_law_paper"] := by
    obtain ⟨fd, F0⟩ := a.def_ 41 (d := gd "_law_sticks" 79) rfl
    exact ⟨_, fd, He5.fun_of F0, He.glo_ok X G (a.fact 47 (f := .glo "_law_sticks") rfl), FunD.bindsN (ps := ["_law_lines", "_law_number_here", "_law_full", "_law_road", "_law_paper"]) F0 fun _ _ _ _ _ _ us hl => match us, hl with | [_, _, _, _, _], _ => rfl⟩
  have B__law_play : HasDef K mg "_law_play" s__law_play ["_law_lines", "_law_number_here", "_law_well_here", "_law_bits_here"] := by
    obtain ⟨fd, F0⟩ := a.def_ 30 (d := gd "_law_play" 68) rfl
    exact ⟨_, fd, He5.fun_of F0, He.glo_ok X G (a.fact 36 (f := .glo "_law_play") rfl), FunD.bindsN (ps := ["_law_lines", "_law_number_here", "_law_well_here", "_law_bits_here"]) F0 fun _ _ _ _ _ _ us hl => match us, hl with | [_, _, _, _], _ => rfl⟩
  have B__law_bits : HasDef K mg "_law_bits" s__law_bits ["_law_spring_here", "_law_most"] := by
    obtain ⟨fd, F0⟩ := a.def_ 31 (d := gd "_law_bits" 69) rfl
    exact ⟨_, fd, He5.fun_of F0, He.glo_ok X G (a.fact 37 (f := .glo "_law_bits") rfl), FunD.bindsN (ps := ["_law_spring_here", "_law_most"]) F0 fun _ _ _ _ _ _ us hl => match us, hl with | [_, _], _ => rfl⟩
  have B__law_number : HasDef K mg "_law_number" s__law_number ["_law_spring_here"] := by
    obtain ⟨fd, F0⟩ := a.def_ 32 (d := gd "_law_number" 70) rfl
    exact ⟨_, fd, He5.fun_of F0, He.glo_ok X G (a.fact 38 (f := .glo "_law_number") rfl), FunD.bindsN (ps := ["_law_spring_here"]) F0 fun _ _ _ _ _ _ us hl => match us, hl with | [_], _ => rfl⟩
  have B__law_well : HasDef K mg "_law_well" s__law_well ["_law_spring_here", "_law_number_here"] := by
    obtain ⟨fd, F0⟩ := a.def_ 33 (d := gd "_law_well" 71) rfl
    exact ⟨_, fd, He5.fun_of F0, He.glo_ok X G (a.fact 39 (f := .glo "_law_well") rfl), FunD.bindsN (ps := ["_law_spring_here", "_law_number_here"]) F0 fun _ _ _ _ _ _ us hl => match us, hl with | [_, _], _ => rfl⟩
  have B__law_all_from : HasDef K mg "_law_all_from" s__law_all_from ["_law_lines", "_law_number_here", "_law_begin_here"] := by
    obtain ⟨fd, F0⟩ := a.def_ 43 (d := gd "_law_all_from" 81) rfl
    exact ⟨_, fd, He5.fun_of F0, He.glo_ok X G (a.fact 49 (f := .glo "_law_all_from") rfl), FunD.bindsN (ps := ["_law_lines", "_law_number_here", "_law_begin_here"]) F0 fun _ _ _ _ _ _ us hl => match us, hl with | [_, _, _], _ => rfl⟩
  have B__law_bent_spot : HasDef K mg "_law_bent_spot" s__law_bent_spot ["_law_spring_here", "_law_lines", "_law_spot"] := by
    obtain ⟨fd, F0⟩ := a.def_ 44 (d := gd "_law_bent_spot" 82) rfl
    exact ⟨_, fd, He5.fun_of F0, He.glo_ok X G (a.fact 50 (f := .glo "_law_bent_spot") rfl), FunD.bindsN (ps := ["_law_spring_here", "_law_lines", "_law_spot"]) F0 fun _ _ _ _ _ _ us hl => match us, hl with | [_, _, _], _ => rfl⟩
  have B__law_bent : HasDef K mg "_law_bent" s__law_bent ["_law_spring_here", "_law_lines", "_law_number_here", "_law_some"] := by
    obtain ⟨fd, F0⟩ := a.def_ 45 (d := gd "_law_bent" 83) rfl
    exact ⟨_, fd, He5.fun_of F0, He.glo_ok X G (a.fact 51 (f := .glo "_law_bent") rfl), FunD.bindsN (ps := ["_law_spring_here", "_law_lines", "_law_number_here", "_law_some"]) F0 fun _ _ _ _ _ _ us hl => match us, hl with | [_, _, _, _], _ => rfl⟩
  have B__law_right : HasDef K mg "_law_right" s__law_right ["_law_spring_here"] := by
    obtain ⟨fd, F0⟩ := a.def_ 46 (d := gd "_law_right" 84) rfl
    exact ⟨_, fd, He5.fun_of F0, He.glo_ok X G (a.fact 52 (f := .glo "_law_right") rfl), FunD.bindsN (ps := ["_law_spring_here"]) F0 fun _ _ _ _ _ _ us hl => match us, hl with | [_], _ => rfl⟩
  have B__law_spring : HasDef K mg "_law_spring" s__law_spring ["_law_cells", "_law_k"] := by
    obtain ⟨fd, F0⟩ := a.def_ 17 (d := gd "_law_spring" 55) rfl
    exact ⟨_, fd, He5.fun_of F0, He.glo_ok X G (a.fact 23 (f := .glo "_law_spring") rfl), FunD.bindsN (ps := ["_law_cells", "_law_k"]) F0 fun _ _ _ _ _ _ us hl => match us, hl with | [_, _], _ => rfl⟩
  obtain ⟨fdI, FI⟩ := a.def_ 48 rfl
  obtain ⟨fdL, FL⟩ := a.def_ 49 rfl
  obtain ⟨fdR, FR⟩ := a.def_ 50 rfl
  have bL : Binds K fdL ["self"] [] := FunD.bindsN (ps := ["self"]) FL fun _ _ _ _ _ _ us hl => match us, hl with | [_], _ => rfl
  have bR : Binds K fdR ["cls", "text"] [] := FunD.bindsN (ps := ["cls", "text"]) FR fun _ _ _ _ _ _ us hl => match us, hl with | [_, _], _ => rfl
  obtain ⟨fd, F0⟩ := a.def_ 47 (d := gd "law" 85) rfl
  have e := hfa.symm.trans (He.glo_ok X G (a.fact 53 (f := .glo "law") rfl))
  cases e
  have b := FunD.bindsA (ps := ["_law_script"]) F0 fun _ _ _ _ _ _ us hl => match us, hl with | [_], _ => rfl
  refine ⟨fd, fun s v => b s [v] rfl, fun base _ _ => ?_⟩
  have D_is_integer := ok_is_integer (P := P) (w := w) (K := K) (mg := mg) (base := base) T B_is_integer
  have D_is_between := ok_is_between (P := P) (w := w) (K := K) (mg := mg) (base := base) T B_is_between D_is_integer
  have D_amount := ok_amount (P := P) (w := w) (K := K) (mg := mg) (base := base) T B_amount
  have D_moved := ok_moved (P := P) (w := w) (K := K) (mg := mg) (base := base) T B_moved D_amount
  have D_is_bounded := ok_is_bounded (P := P) (w := w) (K := K) (mg := mg) (base := base) T B_is_bounded
  have D_behind := ok_behind (P := P) (w := w) (K := K) (mg := mg) (base := base) T B_behind D_amount D_moved
  have L_len : HasLen P w K mg base := ok___len__ (P := P) (w := w) (K := K) (mg := mg) (base := base) T (He5.fun_of FL) bL
  have D_is_spot := ok_is_spot (P := P) (w := w) (K := K) (mg := mg) (base := base) T B_is_spot L_len D_is_integer D_is_between
  have D_is_course := ok_is_course (P := P) (w := w) (K := K) (mg := mg) (base := base) T B_is_course L_len D_is_between
  have D_stretch_of := ok_stretch_of (P := P) (w := w) (K := K) (mg := mg) (base := base) T B_stretch_of D_behind D_is_bounded
  have D_sticks := ok_sticks (P := P) (w := w) (K := K) (mg := mg) (base := base) T B_sticks D_stretch_of D_is_spot D_behind D_is_bounded
  have D_accepts_course := ok_accepts_course (P := P) (w := w) (K := K) (mg := mg) (base := base) T B_accepts_course D_is_integer D_is_between D_is_course D_sticks
  have D_place_in := ok_place_in (P := P) (w := w) (K := K) (mg := mg) (base := base) T B_place_in
  have D_plain_step_in := ok_plain_step_in (P := P) (w := w) (K := K) (mg := mg) (base := base) T B_plain_step_in D_place_in
  have D_step_in := ok_step_in (P := P) (w := w) (K := K) (mg := mg) (base := base) T B_step_in D_place_in D_plain_step_in
  have D_wrong_row := ok_wrong_row (P := P) (w := w) (K := K) (mg := mg) (base := base) T B_wrong_row D_step_in
  have L_init : FnR P w K mg base CX0 5 (He.ma K (aP K) "__init__") (spInit K) := ok___init__ (P := P) (w := w) (K := K) (mg := mg) (base := base) T (He5.fun_of FI) D_wrong_row D_step_in
  have L_read : FnR P w K mg base CX0 7 (He5.wf K (aP K) "classmethod" "read") (spRead K) := ok_read (P := P) (w := w) (K := K) (mg := mg) (base := base) T (He5.fun_of FR) bR D_wrong_row L_init
  have D_program_of := ok_program_of (P := P) (w := w) (K := K) (mg := mg) (base := base) T B_program_of L_read
  have D_accepts := ok_accepts (P := P) (w := w) (K := K) (mg := mg) (base := base) T B_accepts D_program_of D_accepts_course
  have D_law_draw := ok__law_draw (P := P) (w := w) (K := K) (mg := mg) (base := base) T B__law_draw
  have D_law_of := ok__law_of (P := P) (w := w) (K := K) (mg := mg) (base := base) T B__law_of D_law_draw
  have D_law_measure := ok__law_measure (P := P) (w := w) (K := K) (mg := mg) (base := base) T B__law_measure D_law_of
  have D_law_place := ok__law_place (P := P) (w := w) (K := K) (mg := mg) (base := base) T B__law_place D_law_draw
  have D_law_last_row := ok__law_last_row (P := P) (w := w) (K := K) (mg := mg) (base := base) T B__law_last_row D_law_of D_law_place
  have D_law_row := ok__law_row (P := P) (w := w) (K := K) (mg := mg) (base := base) T B__law_row D_law_draw D_law_of D_law_place D_law_measure D_law_last_row
  have D_law_base := ok__law_base (P := P) (w := w) (K := K) (mg := mg) (base := base) T B__law_base D_law_draw D_law_of
  have D_law_rows := ok__law_rows (P := P) (w := w) (K := K) (mg := mg) (base := base) T B__law_rows D_law_draw D_law_of D_law_row D_law_base
  have D_law_looped_rows := ok__law_looped_rows (P := P) (w := w) (K := K) (mg := mg) (base := base) T B__law_looped_rows D_law_draw D_law_rows
  have D_law_size := ok__law_size (P := P) (w := w) (K := K) (mg := mg) (base := base) T B__law_size
  have D_law_is_far := ok__law_is_far (P := P) (w := w) (K := K) (mg := mg) (base := base) T B__law_is_far
  have D_law_is_wide_spot := ok__law_is_wide_spot (P := P) (w := w) (K := K) (mg := mg) (base := base) T B__law_is_wide_spot D_law_is_far
  have D_law_end := ok__law_end (P := P) (w := w) (K := K) (mg := mg) (base := base) T B__law_end
  have D_law_goes := ok__law_goes (P := P) (w := w) (K := K) (mg := mg) (base := base) T B__law_goes D_law_size
  have D_law_next := ok__law_next (P := P) (w := w) (K := K) (mg := mg) (base := base) T B__law_next D_law_size D_law_goes
  have D_law_is_whole := ok__law_is_whole (P := P) (w := w) (K := K) (mg := mg) (base := base) T B__law_is_whole
  have D_law_is_road := ok__law_is_road (P := P) (w := w) (K := K) (mg := mg) (base := base) T B__law_is_road D_law_is_whole
  have D_law_bounded := ok__law_bounded (P := P) (w := w) (K := K) (mg := mg) (base := base) T B__law_bounded D_law_next D_law_is_wide_spot
  have D_law_begin := ok__law_begin (P := P) (w := w) (K := K) (mg := mg) (base := base) T B__law_begin D_law_is_whole D_law_is_road D_law_bounded
  have D_law_is_spot := ok__law_is_spot (P := P) (w := w) (K := K) (mg := mg) (base := base) T B__law_is_spot
  have D_law_sticks := ok__law_sticks (P := P) (w := w) (K := K) (mg := mg) (base := base) T B__law_sticks D_law_begin D_law_is_spot D_law_is_wide_spot D_law_next
  have D_law_play := ok__law_play (P := P) (w := w) (K := K) (mg := mg) (base := base) T B__law_play D_law_end D_law_goes D_law_is_far
  have D_law_bits := ok__law_bits (P := P) (w := w) (K := K) (mg := mg) (base := base) T B__law_bits D_law_draw D_law_of
  have D_law_number := ok__law_number (P := P) (w := w) (K := K) (mg := mg) (base := base) T B__law_number D_law_draw D_law_of
  have D_law_well := ok__law_well (P := P) (w := w) (K := K) (mg := mg) (base := base) T B__law_well D_law_draw
  have D_law_all_from := ok__law_all_from (P := P) (w := w) (K := K) (mg := mg) (base := base) T B__law_all_from D_law_is_wide_spot D_law_next
  have D_law_bent_spot := ok__law_bent_spot (P := P) (w := w) (K := K) (mg := mg) (base := base) T B__law_bent_spot D_law_draw D_law_of
  have D_law_bent := ok__law_bent (P := P) (w := w) (K := K) (mg := mg) (base := base) T B__law_bent D_law_draw D_law_all_from D_law_bent_spot
  have D_law_right := ok__law_right (P := P) (w := w) (K := K) (mg := mg) (base := base) T B__law_right D_law_looped_rows D_law_number D_law_well D_law_play D_law_bits D_law_of D_law_begin D_law_bent D_law_all_from D_law_sticks D_accepts
  have D_law_spring := ok__law_spring2 (P := P) (w := w) (K := K) (mg := mg) (base := base) T B__law_spring
  exact ok_law T (He5.fun_of F0) D_law_spring D_law_right
end
end K48
open PySem PySem.W PySem.Calls PyProof.Rows
theorem PySem.Challenge.cw_drawnbelow_k48_whole_draws_that_stick_holds : PySem.Challenge.rw_drawnbelow_k48_whole_draws_that_stick.Holds := by
  w_on; o_law
  refine HandSHeadRun.head_any (r := OpenLaw.row PySem.Challenge.rw_drawnbelow_k48_whole_draws_that_stick) (q := view (OpenLaw.row PySem.Challenge.rw_drawnbelow_k48_whole_draws_that_stick).prog [85]) (H := K48.hk) (ob := K48.ob) (M := 20000) (loose := K48.names) (d := HandSHeadRun.topDef (OpenLaw.row PySem.Challenge.rw_drawnbelow_k48_whole_draws_that_stick).prog 85) (kwd := []) K48.ob_eq (by kernel_rfl) (fun s => by kernel_rfl) K48.run (by kernel_rfl) (by kernel_rfl) (by kernel_rfl) (by rfl) (by first | assumption | decide +kernel) (by decide +kernel) ⟨rfl, rfl, rfl, rfl, rfl, by decide +kernel⟩ ?hw ?hc
  case hw => w_witness2
  case hc =>
    refine K48.walk_ofG (l := PySem.Challenge.rw_drawnbelow_k48_whole_draws_that_stick) (n := 63) (k := 11) (x := "_law_script") rfl (by decide) (by kernel_rfl) ⟨rfl, by decide, by decide⟩ ?F
    intro w mg fa h Y G hmg0
    obtain ⟨K, KX, c⟩ := Y
    have hmg : mg ("law" : PySem.Str) = some (.ref fa) := by
      have e : (HandSHeadRun.topDef (OpenLaw.row PySem.Challenge.rw_drawnbelow_k48_whole_draws_that_stick).prog 85).name = ("law" : PySem.Str) := by kernel_rfl
      rw [← e]
      exact hmg0
    obtain ⟨fd, hb, hF⟩ := K48.facts (P := (PySem.Challenge.rw_drawnbelow_k48_whole_draws_that_stick).prog) (w := w) KX G hmg c
    exact ⟨K, fd, K48.spLaw K, KX, hb, fun H a ns hl hS => ⟨a, ns, rfl, hS, hl, fun _ => rfl⟩, hF⟩
