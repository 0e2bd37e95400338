import PyProof.Rows.All
import Wide.All
import OpenK.AllK
import Wide.FinOn
import HandS.ForMost
import HandS.ForExc
import HandS.Codes
import HandS.Defaults
import HandS.CallSlots
import HandS.ExcInit
import HandS.ExcCtx
import HandS.HotCalls
import HandS.IsInst
import HandS.Gcd
import HandS.Lambda
import HandS.TupAny
import HandS.Style
import HandS.Dict
import HandS.RaiseMore
import HandS.Wide
import HandS.Head0
import HandS.Head1
import HandS.Head2
import HandS.Head3
import HandS.HeadHook4
import HandS.Walk
import HandS.Steps
import PyProof.Draws
import HandS.Zip0
import HandS.EndTab
import HandS.ExcField
import HandS.ExcIs
import PyProof.ReprRoads
import HandS.EndOwn
import PyProof.StrBlock2
import HandS.HeadWalk
import PySem.Challenge.RW_fieldpapers_k75_whole_plain_values
set_option Elab.async false
set_option linter.all false
set_option maxRecDepth 100000
namespace FP
open PySem PySem.Spec PyProof.Rows L2

section
variable {CX : CXT} {P : Program} {w : World} {K : PySem.W.Frag} {mg : Str → Option Value} {base : Heap} {N : List Str} {qual : Str} {scope : Scope} {f : Addr} {cd : Value} {A : Around} {outer : List Env} {s : Shared} {H : Hp} {E : XK}
theorem cx_K : (cxOf CX P w K mg base N qual scope f cd A outer s H E).K = K := rfl
theorem cx_w : (cxOf CX P w K mg base N qual scope f cd A outer s H E).w = w := rfl
theorem cx_prog : (cxOf CX P w K mg base N qual scope f cd A outer s H E).prog = P := rfl
end
/-- a def that may be called by its name -/
structure CalX (P : Program) (w : World) (K : PySem.W.Frag) (mg : Str → Option Value) (base : Heap) (k : Nat) (x : Str) (sp : Sp) : Prop where
  ex : ∃ (f : Addr) (fd : FuncData) (ps : List Str), FnOk P w K mg base (L2N.CX P w) k f fd ps sp ∧ mg x = some (.ref f) ∧ PySem.W.keepIn K (.ref f) = true ∧ Binds K fd ps []
/-- a method of the class at C -/
structure MetX (P : Program) (w : World) (K : PySem.W.Frag) (mg : Str → Option Value) (base : Heap) (k : Nat) (C : Addr) (m : Str) (sp : Sp) : Prop where
  ex : ∃ (f : Addr) (fd : FuncData) (ps : List Str), Cls K C ∧ Meth K C m f ∧ FnOk P w K mg base (L2N.CX P w) k f fd ps sp ∧ Binds K fd ps []
section
variable {P : Program} {w : World} {K : PySem.W.Frag} {mg : Str → Option Value} {base : Heap}
/-- a def by its body -/
theorem fnX {x qual : Str} {st : Stmt} {f : Addr} {fd : FuncData} {N ps : List Str} {k : Nat} {sp : Sp} (F : C8.Fun K x qual st f fd) (S : FnScope N ps (C8.fnScope st)) (len : ∀ vs H Q E, sp vs H Q E → vs.length = ps.length)
    (hbody : ∀ (cdv : Value) (A : Around) (outer : List Env) (s : Shared) (H : Hp) (vs : List V) (Q : VK) (E : XK), Room k (A.deeper (envOfC qual (C8.fnScope st) s.heap.objs.size f cdv)) → sp vs H Q E →
      ∃ t, PSs (cxOf (L2N.CX P w) P w K mg base N qual (C8.fnScope st) f cdv A outer s H E) (C8.fnBody st) t ∧ t { nx := fun _ H' => Q .non H', rt := Q } (start N vs) H) : FnOk P w K mg base (L2N.CX P w) (k + 1) f fd ps sp := by
  obtain ⟨oc, od, dV, kV, doc, pm, an, cdv, ct, osl, rfl, lk, hcd⟩ := F.ex
  exact fn_of lk hcd S len fun A outer s H vs Q E hr hsp => hbody cdv A outer s H vs Q E hr hsp
theorem calX {x : Str} {st : Stmt} {f : Addr} {fd : FuncData} {N ps : List Str} {k : Nat} {sp : Sp} (D : C8.Def K mg x st f fd) (b : Binds K fd ps []) (S : FnScope N ps (C8.fnScope st)) (len : ∀ vs H Q E, sp vs H Q E → vs.length = ps.length)
    (hbody : ∀ (cdv : Value) (A : Around) (outer : List Env) (s : Shared) (H : Hp) (vs : List V) (Q : VK) (E : XK), Room k (A.deeper (envOfC x (C8.fnScope st) s.heap.objs.size f cdv)) → sp vs H Q E →
      ∃ t, PSs (cxOf (L2N.CX P w) P w K mg base N x (C8.fnScope st) f cdv A outer s H E) (C8.fnBody st) t ∧ t { nx := fun _ H' => Q .non H', rt := Q } (start N vs) H) : CalX P w K mg base (k + 1) x sp :=
  ⟨f, fd, ps, fnX D.fn S len hbody, D.mgf, D.kp, b⟩
theorem CalX.mono {x : Str} {k j : Nat} {sp : Sp} (c : CalX P w K mg base k x sp) (h : k ≤ j) : CalX P w K mg base j x sp := by
  obtain ⟨f, fd, ps, F, m, kp, b⟩ := c.ex
  exact ⟨f, fd, ps, ⟨F.len, fun A outer s H args us vs Q E hr => F.run A outer s H args us vs Q E (hr.mono h)⟩, m, kp, b⟩
/-- a weaker promise -/
theorem CalX.imp {x : Str} {k : Nat} {sp sp' : Sp} (c : CalX P w K mg base k x sp) (h : ∀ vs H Q E, sp' vs H Q E → sp vs H Q E) : CalX P w K mg base k x sp' := by
  obtain ⟨f, fd, ps, F, m, kp, b⟩ := c.ex
  exact ⟨f, fd, ps, ⟨fun vs H Q E q => F.len vs H Q E (h _ _ _ _ q), fun A outer s H args us vs Q E hr e bb v q => F.run A outer s H args us vs Q E hr e bb v (h _ _ _ _ q)⟩, m, kp, b⟩
end
section
variable {X : Cx} {k j : Nat} {C : Addr} {x m : Str} {sp : Sp} {W : WX} {p pos apos : Pos} {e o : Expr} {es : List Expr} {ta : TE} {t : TA}
/-- f(e, ..) -/
theorem pe_x (c : CalX X.prog X.w X.K X.mg X.base k x sp) (hr : Room j X.A) (hk : k ≤ j) (tk : L2N.Takes X W) (hg : Gl X x) (ha : PA X (e :: es) t)
    (hdb : (x == ("__debug__" : Str)) = false := by decide) (he : starEach (e :: es) X.env = (false, eval e X.env) :: starEach es X.env := by rfl) (hpl : (backTo pos (starEach es X.env)).any (·.1) = false := by rfl) :
    PE X (.Call (.Name x p) (e :: es) [] pos) (tCallS sp (WE W) t) := by
  obtain ⟨f, fd, ps, F, hm, kp, b⟩ := c.ex
  exact pe_callS F (hr.mono hk) hg hm kp b (L2N.passAt tk) ha hdb he hpl
end
section
variable {X : Cx} {x : Str} {pos : Pos}
/-- a built-in type's name; a class's name -/
theorem pe_ty {T : String} (hg : Gl X x) (hm : X.mg x = none) (hv : bootBuiltins x = some (.type T)) (hn : x ≠ "__name__" := by decide) (hd : (x == ("__debug__" : Str)) = false := by decide) : PE X (.Name x pos) (tC (.ty T)) := pe_bltn hg hm hv rfl hn hd
theorem pe_ref {C : Addr} (hg : Gl X x) (hm : X.mg x = some (.ref C)) (hd : (x == ("__debug__" : Str)) = false := by decide) : PE X (.Name x pos) (tC (.ref C)) := pe_glob hg hm rfl hd
theorem pe_ci {i : Int} (hg : Gl X x) (hm : ∃ t, X.mg x = some (.int i t)) (hd : (x == ("__debug__" : Str)) = false := by decide) : PE X (.Name x pos) (tC (.int i)) := by
  obtain ⟨t, hm⟩ := hm
  exact pe_glob hg hm ⟨t, rfl⟩ hd
theorem pe_cs {z : Str} (hg : Gl X x) (hm : ∃ t, X.mg x = some (.str z t)) (hd : (x == ("__debug__" : Str)) = false := by decide) : PE X (.Name x pos) (tC (.str z)) := by
  obtain ⟨t, hm⟩ := hm
  exact pe_glob hg hm ⟨t, rfl⟩ hd
end
/-- a def's wish -/
theorem tk_of {X : Cx} {E : XK} {E₁ : Value → Shared → Prop} (hs : X.stack = X.env :: X.outer) (hf : X.env.frame = some X.env.locals) (hex : X.ex = [])
    (hx : X.xe = fun e s' => wpAny (model X.prog X.w) X.A (leaving X.env e) (fun _ s'' => L2N.CX X.prog X.w X.outer X.H_0 X.s_0 E e s'') E₁ s') : L2N.Takes X (fun cls d _ H => E cls d H) := L2N.takes_of hs hf hex hx
theorem tk0 {X : Cx} : L2N.Takes X (fun _ _ _ _ => False) := fun _ _ x => by
  obtain ⟨_, _, _, _, _, _, _, _, _, _, _, _, _, _, _, _, z⟩ := x
  exact z.elim
end FP
set_option maxHeartbeats 4000000
namespace FP
open PySem PySem.Spec PyProof.Rows L2
def topS (i : Nat) : Stmt := PySem.Challenge.pw_fieldpapers_k75_whole_plain_values.main.body.getD i (.Pass ⟨0, 0, 0, 0⟩)
def inClass (st : Stmt) (j : Nat) : Stmt := (C8.clsBody st).getD j (.Pass ⟨0, 0, 0, 0⟩)
abbrev s_wall : Stmt := topS 1
theorem sc_wall : FnScope ["k"] ["k"] (C8.fnScope s_wall) := C8.fnScope_by (by decide +kernel)
abbrev s_BadNumber___init__ : Stmt := inClass (topS 4) 0
theorem sc_BadNumber___init__ : FnScope ["self", "what", "number"] ["self", "what", "number"] (C8.fnScope s_BadNumber___init__) := C8.fnScope_by (by decide +kernel)
abbrev s_BadRow___init__ : Stmt := inClass (topS 5) 0
theorem sc_BadRow___init__ : FnScope ["self", "what", "row"] ["self", "what", "row"] (C8.fnScope s_BadRow___init__) := C8.fnScope_by (by decide +kernel)
abbrev s_BadTable___init__ : Stmt := inClass (topS 6) 0
theorem sc_BadTable___init__ : FnScope ["self", "what"] ["self", "what"] (C8.fnScope s_BadTable___init__) := C8.fnScope_by (by decide +kernel)
abbrev s_BadPoly___init__ : Stmt := inClass (topS 7) 0
theorem sc_BadPoly___init__ : FnScope ["self", "what"] ["self", "what"] (C8.fnScope s_BadPoly___init__) := C8.fnScope_by (by decide +kernel)
abbrev s_BadPaper___init__ : Stmt := inClass (topS 8) 0
theorem sc_BadPaper___init__ : FnScope ["self", "what"] ["self", "what"] (C8.fnScope s_BadPaper___init__) := C8.fnScope_by (by decide +kernel)
abbrev s_BadName___init__ : Stmt := inClass (topS 9) 0
theorem sc_BadName___init__ : FnScope ["self", "name"] ["self", "name"] (C8.fnScope s_BadName___init__) := C8.fnScope_by (by decide +kernel)
abbrev s_BadText___init__ : Stmt := inClass (topS 10) 0
theorem sc_BadText___init__ : FnScope ["self", "line", "word"] ["self", "line", "word"] (C8.fnScope s_BadText___init__) := C8.fnScope_by (by decide +kernel)
abbrev s_NoPlace___init__ : Stmt := inClass (topS 11) 0
theorem sc_NoPlace___init__ : FnScope ["self", "what", "index"] ["self", "what", "index"] (C8.fnScope s_NoPlace___init__) := C8.fnScope_by (by decide +kernel)
abbrev s_NoName___init__ : Stmt := inClass (topS 12) 0
theorem sc_NoName___init__ : FnScope ["self", "name"] ["self", "name"] (C8.fnScope s_NoName___init__) := C8.fnScope_by (by decide +kernel)
abbrev s_TakenName___init__ : Stmt := inClass (topS 13) 0
theorem sc_TakenName___init__ : FnScope ["self", "name"] ["self", "name"] (C8.fnScope s_TakenName___init__) := C8.fnScope_by (by decide +kernel)
abbrev s_Unlike___init__ : Stmt := inClass (topS 14) 0
theorem sc_Unlike___init__ : FnScope ["self", "what"] ["self", "what"] (C8.fnScope s_Unlike___init__) := C8.fnScope_by (by decide +kernel)
abbrev s_NotThere___init__ : Stmt := inClass (topS 15) 0
theorem sc_NotThere___init__ : FnScope ["self", "paper"] ["self", "paper"] (C8.fnScope s_NotThere___init__) := C8.fnScope_by (by decide +kernel)
abbrev s_TooMany___init__ : Stmt := inClass (topS 16) 0
theorem sc_TooMany___init__ : FnScope ["self", "what", "many", "limit"] ["self", "what", "many", "limit"] (C8.fnScope s_TooMany___init__) := C8.fnScope_by (by decide +kernel)
abbrev s_NotKept___init__ : Stmt := inClass (topS 17) 0
theorem sc_NotKept___init__ : FnScope ["self", "promise", "witness"] ["self", "promise", "witness"] (C8.fnScope s_NotKept___init__) := C8.fnScope_by (by decide +kernel)
abbrev s_is_integer : Stmt := topS 21
theorem sc_is_integer : FnScope ["value"] ["value"] (C8.fnScope s_is_integer) := C8.fnScope_by (by decide +kernel)
abbrev s_is_ratio : Stmt := topS 22
theorem sc_is_ratio : FnScope ["value"] ["value"] (C8.fnScope s_is_ratio) := C8.fnScope_by (by decide +kernel)
abbrev s_pair : Stmt := topS 23
theorem sc_pair : FnScope ["number"] ["number"] (C8.fnScope s_pair) := C8.fnScope_by (by decide +kernel)
abbrev s_opposite : Stmt := topS 24
theorem sc_opposite : FnScope ["number"] ["number"] (C8.fnScope s_opposite) := C8.fnScope_by (by decide +kernel)
abbrev s_sign_of : Stmt := topS 25
theorem sc_sign_of : FnScope ["number", "top"] ["number"] (C8.fnScope s_sign_of) := C8.fnScope_by (by decide +kernel)
abbrev s_as_tuples : Stmt := topS 27
theorem sc_as_tuples : FnScope ["value", "one"] ["value"] (C8.fnScope s_as_tuples) := C8.fnScope_by (by decide +kernel)
abbrev s_is_list : Stmt := topS 28
theorem sc_is_list : FnScope ["value"] ["value"] (C8.fnScope s_is_list) := C8.fnScope_by (by decide +kernel)
abbrev s_run_of : Stmt := topS 35
theorem sc_run_of : FnScope ["text", "at", "some"] ["text", "at", "some"] (C8.fnScope s_run_of) := C8.fnScope_by (by decide +kernel)
abbrev s_tokens_of : Stmt := topS 36
theorem sc_tokens_of : FnScope ["text", "found", "at", "end"] ["text"] (C8.fnScope s_tokens_of) := C8.fnScope_by (by decide +kernel)
abbrev s_is_numeral : Stmt := topS 37
theorem sc_is_numeral : FnScope ["token", "sign"] ["token"] (C8.fnScope s_is_numeral) := C8.fnScope_by (by decide +kernel)
abbrev s_is_small : Stmt := topS 38
theorem sc_is_small : FnScope ["one", "top", "bottom", "most"] ["one"] (C8.fnScope s_is_small) := C8.fnScope_by (by decide +kernel)
abbrev s_Reader___init__ : Stmt := inClass (topS 39) 0
theorem sc_Reader___init__ : FnScope ["self", "tokens", "line"] ["self", "tokens", "line"] (C8.fnScope s_Reader___init__) := C8.fnScope_by (by decide +kernel)
abbrev s_Reader_wrong : Stmt := inClass (topS 39) 1
theorem sc_Reader_wrong : FnScope ["self"] ["self"] (C8.fnScope s_Reader_wrong) := C8.fnScope_by (by decide +kernel)
abbrev s_Reader_next_is : Stmt := inClass (topS 39) 2
theorem sc_Reader_next_is : FnScope ["self", "token"] ["self", "token"] (C8.fnScope s_Reader_next_is) := C8.fnScope_by (by decide +kernel)
abbrev s_Reader_need : Stmt := inClass (topS 39) 3
theorem sc_Reader_need : FnScope ["self", "token"] ["self", "token"] (C8.fnScope s_Reader_need) := C8.fnScope_by (by decide +kernel)
abbrev s_Reader_numeral : Stmt := inClass (topS 39) 4
theorem sc_Reader_numeral : FnScope ["self"] ["self"] (C8.fnScope s_Reader_numeral) := C8.fnScope_by (by decide +kernel)
abbrev s_Reader_integer : Stmt := inClass (topS 39) 5
theorem sc_Reader_integer : FnScope ["self", "below", "found"] ["self"] (C8.fnScope s_Reader_integer) := C8.fnScope_by (by decide +kernel)
abbrev s_Reader_end : Stmt := inClass (topS 39) 6
theorem sc_Reader_end : FnScope ["self"] ["self"] (C8.fnScope s_Reader_end) := C8.fnScope_by (by decide +kernel)
abbrev s_Reader_kept : Stmt := inClass (topS 39) 7
theorem sc_Reader_kept : FnScope ["self", "row", "one"] ["self", "row"] (C8.fnScope s_Reader_kept) := C8.fnScope_by (by decide +kernel)
abbrev s_Reader_noted : Stmt := inClass (topS 39) 8
theorem sc_Reader_noted : FnScope ["self", "what", "many", "most"] ["self", "what", "many", "most"] (C8.fnScope s_Reader_noted) := C8.fnScope_by (by decide +kernel)
abbrev s_Reader_atom : Stmt := inClass (topS 39) 9
theorem sc_Reader_atom : FnScope ["self"] ["self"] (C8.fnScope s_Reader_atom) := C8.fnScope_by (by decide +kernel)
abbrev s_Reader_power : Stmt := inClass (topS 39) 10
theorem sc_Reader_power : FnScope ["self"] ["self"] (C8.fnScope s_Reader_power) := C8.fnScope_by (by decide +kernel)
abbrev s_Reader_product : Stmt := inClass (topS 39) 11
theorem sc_Reader_product : FnScope ["self"] ["self"] (C8.fnScope s_Reader_product) := C8.fnScope_by (by decide +kernel)
abbrev s_Reader_whole_sum : Stmt := inClass (topS 39) 12
theorem sc_Reader_whole_sum : FnScope ["self"] ["self"] (C8.fnScope s_Reader_whole_sum) := C8.fnScope_by (by decide +kernel)
abbrev s_Reader_listed : Stmt := inClass (topS 39) 13
theorem sc_Reader_listed : FnScope ["self"] ["self"] (C8.fnScope s_Reader_listed) := C8.fnScope_by (by decide +kernel)
abbrev s_size_text : Stmt := topS 40
theorem sc_size_text : FnScope ["number", "top", "bottom"] ["number"] (C8.fnScope s_size_text) := C8.fnScope_by (by decide +kernel)
abbrev s_is_plain : Stmt := topS 41
theorem sc_is_plain : FnScope ["value", "deep", "one"] ["value", "deep"] (C8.fnScope s_is_plain) := C8.fnScope_by (by decide +kernel)
abbrev s_text_of_value : Stmt := topS 42
theorem sc_text_of_value : FnScope ["value", "one"] ["value"] (C8.fnScope s_text_of_value) := C8.fnScope_by (by decide +kernel)
abbrev s_value_text : Stmt := topS 43
theorem sc_value_text : FnScope ["value"] ["value"] (C8.fnScope s_value_text) := C8.fnScope_by (by decide +kernel)
abbrev s_ratio_by : Stmt := topS 44
theorem sc_ratio_by : FnScope ["reader", "below", "start", "top", "found"] ["reader"] (C8.fnScope s_ratio_by) := C8.fnScope_by (by decide +kernel)
abbrev s_value_by : Stmt := topS 45
theorem sc_value_by : FnScope ["reader", "found"] ["reader"] (C8.fnScope s_value_by) := C8.fnScope_by (by decide +kernel)
abbrev s_value_in : Stmt := topS 46
theorem sc_value_in : FnScope ["tokens", "at", "line", "reader", "found"] ["tokens", "at", "line"] (C8.fnScope s_value_in) := C8.fnScope_by (by decide +kernel)
abbrev s_value_of_text : Stmt := topS 47
theorem sc_value_of_text : FnScope ["text"] ["text"] (C8.fnScope s_value_of_text) := C8.fnScope_by (by decide +kernel)
abbrev s_law_pen : Stmt := topS 49
theorem sc_law_pen : FnScope ["script", "fold", "cell"] ["script"] (C8.fnScope s_law_pen) := C8.fnScope_by (by decide +kernel)
abbrev s_law_draw : Stmt := topS 50
theorem sc_law_draw : FnScope ["pen", "many", "cell", "digit", "blend"] ["pen", "many"] (C8.fnScope s_law_draw) := C8.fnScope_by (by decide +kernel)
abbrev s_law_pick : Stmt := topS 51
theorem sc_law_pick : FnScope ["pen", "some"] ["pen", "some"] (C8.fnScope s_law_pick) := C8.fnScope_by (by decide +kernel)
abbrev s_law_is : Stmt := topS 52
theorem sc_law_is : FnScope ["told", "due", "at"] ["told", "due"] (C8.fnScope s_law_is) := C8.fnScope_by (by decide +kernel)
abbrev s_law_divisor : Stmt := topS 53
theorem sc_law_divisor : FnScope ["one", "other"] ["one", "other"] (C8.fnScope s_law_divisor) := C8.fnScope_by (by decide +kernel)
abbrev s_law_low : Stmt := topS 54
theorem sc_law_low : FnScope ["top", "bottom", "by"] ["top", "bottom"] (C8.fnScope s_law_low) := C8.fnScope_by (by decide +kernel)
abbrev s_law_pair : Stmt := topS 55
theorem sc_law_pair : FnScope ["number"] ["number"] (C8.fnScope s_law_pair) := C8.fnScope_by (by decide +kernel)
abbrev s_law_times : Stmt := topS 56
theorem sc_law_times : FnScope ["one", "other", "first", "second"] ["one", "other"] (C8.fnScope s_law_times) := C8.fnScope_by (by decide +kernel)
abbrev s_law_sign : Stmt := topS 57
theorem sc_law_sign : FnScope ["number", "top"] ["number"] (C8.fnScope s_law_sign) := C8.fnScope_by (by decide +kernel)
abbrev s_law_is_ratio : Stmt := topS 58
theorem sc_law_is_ratio : FnScope ["value"] ["value"] (C8.fnScope s_law_is_ratio) := C8.fnScope_by (by decide +kernel)
abbrev s_law_is_whole : Stmt := topS 59
theorem sc_law_is_whole : FnScope ["value"] ["value"] (C8.fnScope s_law_is_whole) := C8.fnScope_by (by decide +kernel)
abbrev s_law_number : Stmt := topS 60
theorem sc_law_number : FnScope ["pen", "size"] ["pen", "size"] (C8.fnScope s_law_number) := C8.fnScope_by (by decide +kernel)
abbrev s_law_wide : Stmt := topS 61
theorem sc_law_wide : FnScope ["pen", "figures", "found", "top", "lap"] ["pen", "figures"] (C8.fnScope s_law_wide) := C8.fnScope_by (by decide +kernel)
abbrev s_law_fault : Stmt := topS 62
theorem sc_law_fault : FnScope ["call", "found", "e"] ["call"] (C8.fnScope s_law_fault) := C8.fnScope_by (by decide +kernel)
abbrev s_law_kinds : Stmt := topS 63
theorem sc_law_kinds : FnScope ["e", "found"] ["e"] (C8.fnScope s_law_kinds) := C8.fnScope_by (by decide +kernel)
abbrev s_law_more_kinds : Stmt := topS 64
theorem sc_law_more_kinds : FnScope ["e", "found"] ["e"] (C8.fnScope s_law_more_kinds) := C8.fnScope_by (by decide +kernel)
abbrev s_law_drawn_value : Stmt := topS 65
theorem sc_law_drawn_value : FnScope ["pen", "deep", "way", "lap"] ["pen", "deep"] (C8.fnScope s_law_drawn_value) := C8.fnScope_by (by decide +kernel)
abbrev s_law_tokens_of : Stmt := topS 66
theorem sc_law_tokens_of : FnScope ["value", "size", "found", "at", "one"] ["value"] (C8.fnScope s_law_tokens_of) := C8.fnScope_by (by decide +kernel)
abbrev s_law_text_of : Stmt := topS 67
theorem sc_law_text_of : FnScope ["value", "found", "tokens", "at", "token", "close"] ["value"] (C8.fnScope s_law_text_of) := C8.fnScope_by (by decide +kernel)
abbrev s_law_is_figures : Stmt := topS 68
theorem sc_law_is_figures : FnScope ["word", "one"] ["word"] (C8.fnScope s_law_is_figures) := C8.fnScope_by (by decide +kernel)
abbrev s_law_read : Stmt := topS 69
theorem sc_law_read : FnScope ["tokens", "at", "token", "right", "many", "start", "top", "low", "good"] ["tokens", "at"] (C8.fnScope s_law_read) := C8.fnScope_by (by decide +kernel)
abbrev s_law_right : Stmt := topS 70
theorem sc_law_right : FnScope ["pen", "value", "text", "tokens", "lap", "at", "some", "odd", "place", "good", "due"] ["pen"] (C8.fnScope s_law_right) := C8.fnScope_by (by decide +kernel)
abbrev s_law_read_fault : Stmt := topS 71
theorem sc_law_read_fault : FnScope ["text"] ["text"] (C8.fnScope s_law_read_fault) := C8.fnScope_by (by decide +kernel)
abbrev s_law : Stmt := topS 72
theorem sc_law : FnScope ["script", "pen", "lap", "bad", "odd"] ["script"] (C8.fnScope s_law) := C8.fnScope_by (by decide +kernel)
end FP
set_option maxHeartbeats 4000000
/-! the head's facts -/
namespace FP
open PySem PySem.Spec PyProof.Rows L2 LamX
def dG (x : Str) (st : Stmt) : He.DefD := ⟨(x, none), x, x, C8.fnArgs st, C8.fnBody st, C8.fnScope st, [], []⟩
def dM (c m q : Str) (st : Stmt) : He.DefD := ⟨(c, some m), m, q, C8.fnArgs st, C8.fnBody st, C8.fnScope st, [], []⟩
def dPl : He.DefD := ⟨("is_plain", none), "is_plain", "is_plain", C8.fnArgs s_is_plain, C8.fnBody s_is_plain, C8.fnScope s_is_plain, [.int 0], []⟩
def fns : List He.DefD := [dG "is_integer" s_is_integer,
  dG "is_ratio" s_is_ratio,
  dG "pair" s_pair,
  dG "opposite" s_opposite,
  dG "sign_of" s_sign_of,
  dG "as_tuples" s_as_tuples,
  dG "is_list" s_is_list,
  dG "run_of" s_run_of,
  dG "tokens_of" s_tokens_of,
  dG "is_numeral" s_is_numeral,
  dG "is_small" s_is_small,
  dG "size_text" s_size_text,
  dPl,
  dG "text_of_value" s_text_of_value,
  dG "value_text" s_value_text,
  dG "ratio_by" s_ratio_by,
  dG "value_by" s_value_by,
  dG "value_in" s_value_in,
  dG "value_of_text" s_value_of_text,
  dG "_law_pen" s_law_pen,
  dG "_law_draw" s_law_draw,
  dG "_law_pick" s_law_pick,
  dG "_law_is" s_law_is,
  dG "_law_divisor" s_law_divisor,
  dG "_law_low" s_law_low,
  dG "_law_pair" s_law_pair,
  dG "_law_times" s_law_times,
  dG "_law_sign" s_law_sign,
  dG "_law_is_ratio" s_law_is_ratio,
  dG "_law_is_whole" s_law_is_whole,
  dG "_law_number" s_law_number,
  dG "_law_wide" s_law_wide,
  dG "_law_fault" s_law_fault,
  dG "_law_kinds" s_law_kinds,
  dG "_law_more_kinds" s_law_more_kinds,
  dG "_law_drawn_value" s_law_drawn_value,
  dG "_law_tokens_of" s_law_tokens_of,
  dG "_law_text_of" s_law_text_of,
  dG "_law_is_figures" s_law_is_figures,
  dG "_law_read" s_law_read,
  dG "_law_right" s_law_right,
  dG "_law_read_fault" s_law_read_fault,
  dG "law" s_law,
  dM "Reader" "__init__" "Reader.__init__" s_Reader___init__,
  dM "Reader" "wrong" "Reader.wrong" s_Reader_wrong,
  dM "Reader" "next_is" "Reader.next_is" s_Reader_next_is,
  dM "Reader" "need" "Reader.need" s_Reader_need,
  dM "Reader" "numeral" "Reader.numeral" s_Reader_numeral,
  dM "Reader" "end" "Reader.end" s_Reader_end,
  dM "BadRow" "__init__" "BadRow.__init__" s_BadRow___init__,
  dM "BadText" "__init__" "BadText.__init__" s_BadText___init__]
def facts : List He.Fa := [.glo "is_integer", .glo "is_ratio", .glo "pair", .glo "opposite", .glo "sign_of", .glo "as_tuples", .glo "is_list", .glo "run_of", .glo "tokens_of", .glo "is_numeral", .glo "is_small", .glo "size_text", .glo "is_plain", .glo "text_of_value", .glo "value_text", .glo "ratio_by", .glo "value_by", .glo "value_in", .glo "value_of_text", .glo "_law_pen", .glo "_law_draw", .glo "_law_pick", .glo "_law_is", .glo "_law_divisor", .glo "_law_low", .glo "_law_pair", .glo "_law_times", .glo "_law_sign", .glo "_law_is_ratio", .glo "_law_is_whole", .glo "_law_number", .glo "_law_wide", .glo "_law_fault", .glo "_law_kinds", .glo "_law_more_kinds", .glo "_law_drawn_value", .glo "_law_tokens_of", .glo "_law_text_of", .glo "_law_is_figures", .glo "_law_read", .glo "_law_right", .glo "_law_read_fault", .glo "law", .glo "FieldError", .glo "BadNumber", .glo "BadRow", .glo "BadTable", .glo "BadPoly", .glo "BadPaper", .glo "BadName", .glo "BadText", .glo "NoPlace", .glo "NoName", .glo "TakenName", .glo "Unlike", .glo "NotThere", .glo "TooMany", .glo "NotKept", .glo "NothingToUndo", .glo "NothingToRedo", .glo "Reader", .free "len", .free "isinstance", .free "int", .free "str", .free "bool", .free "list", .free "tuple", .free "abs", .free "all", .free "range", .free "enumerate", .free "repr", .free "ValueError", .int "MOST_FIGURES" 400, .int "MOST_DEEP" 50, .str "FIGURES" "0123456789", .str "LETTERS" "abcdefghijklmnopqrstuvwxyz", .cls "Reader", .noat "Reader" "tokens", .noat "Reader" "line", .noat "Reader" "at", .noat "Reader" "limit", .noat "Reader" "deep", .meth "Reader" "wrong", .meth "Reader" "next_is", .meth "Reader" "need", .meth "Reader" "numeral", .meth "Reader" "end", .mkr "Reader", .noat "BadText" "line", .noat "BadText" "word", .noat "BadRow" "what", .noat "BadRow" "row", .exm "BadText" "FieldError" true, .exm "BadRow" "FieldError" true]
def lams : List He.Defn := [("_law_right", none), ("_law_read_fault", none), ("law", none)]
/-- what an own error's class must be, looked at -/
def oexB (K : PySem.W.Frag) (C : Addr) : Bool := (match K.lookup C with
  | some ⟨.type z, _, .cls cd, sl⟩ => (match cd.mro, sl.toList with
    | .ref C' :: bm, [_, _, _, _, some (.builtin n), _] => decide (z = "type") && (decide (C' = C) && (decide (n = "ValueError.__new__") && (!cd.hasDel && (cd.hasDict && PySem.HandSPX.refsVE bm))))
    | _, _ => false)
  | _ => false) && (He.eqO (PySem.W.findIn K (.ref C) "__setattr__") (some (some (.builtin "object.__setattr__"))) && (decide (PySem.W.subIn K (.ref C) (.type "BaseException") = some true) && (decide (PySem.W.typeIn K (.ref C) = some (.type "type")) && PySem.W.keepIn K (.ref C))))
def exmB (K : PySem.W.Frag) (D : Addr) : Bool := He.eqO (PySem.W.findIn K (.ref D) "__getattribute__") (some (some (.builtin "BaseException.__getattribute__"))) && (He.eqO (PySem.W.findIn K (.ref D) "__getattr__") (some none) && (decide (PySem.W.subIn K (.ref D) (.type "BaseException") = some true) && (PySem.W.hasDictIn K D &&
  (He.eqO (PySem.W.findIn K (.ref D) "__class__") (some (some (.builtin "object.__class__"))) && (He.eqO (PySem.W.specialIn K (.builtin "object.__class__") "__get__") (some (some (.builtin "getset_descriptor.__get__"))) && (decide (PySem.W.takesIn K (.builtin "object.__class__") = some true) && decide (PySem.W.mroIn K D (.type "object") = some true)))))))
def kitL : List Str := ["BadNumber", "BadRow", "BadTable", "BadPoly", "BadPaper", "BadName", "BadText", "NoPlace", "NoName", "TakenName", "Unlike", "NotThere", "TooMany", "NotKept", "NothingToUndo", "NothingToRedo"]
/-- isinstance of an error of the class x by all classes of errors -/
def kitsB (K : PySem.W.Frag) (x : Str) : Bool := kitL.all fun y => decide (PySem.W.kitOne K (.ref (He.ga K x)) (.ref (He.ga K y)) = some (y == x))
def errB (K : PySem.W.Frag) (x : Str) : Bool := oexB K (He.ga K x) && (exmB K (He.ga K x) && (xfB K (He.ga K x) && (kitsB K x && (decide (PySem.W.kitOne K (.ref (He.ga K x)) (.type "ValueError") = some true) &&
  (He.eqO (PySem.W.findIn K (.ref (He.ga K x)) "__init__") (some (some (.ref (He.ma K (He.ga K x) "__init__")))) && decide (PySem.W.typeIn K (.ref (He.ma K (He.ga K x) "__init__")) = some (.type "function")))))))
def moreB (K : PySem.W.Frag) : Bool := He.eqO (PySem.W.nsIn K mainGlobals "gcd") (some (some (.builtin "math.gcd"))) && (errB K "BadText" && (errB K "BadRow" && decide (lams.map fun p => (He.cT K p).2).Nodup))
def nmL0 : List PySem.Str := [.ofString "_wall", .ofString "__name__", .ofString "FieldError", .ofString "BadNumber", .ofString "BadRow", .ofString "BadTable", .ofString "BadPoly", .ofString "BadPaper", .ofString "BadName", .ofString "BadText", .ofString "NoPlace", .ofString "NoName", .ofString "TakenName", .ofString "Unlike", .ofString "NotThere", .ofString "TooMany", .ofString "NotKept", .ofString "NothingToUndo", .ofString "NothingToRedo", .ofString "is_integer", .ofString "is_ratio", .ofString "pair", .ofString "opposite", .ofString "sign_of", .ofString "as_tuples", .ofString "is_list", .ofString "FIGURES", .ofString "LETTERS", .ofString "MOST_FIGURES", .ofString "MOST_DEGREE", .ofString "MOST_DEEP", .ofString "run_of", .ofString "tokens_of", .ofString "is_numeral", .ofString "is_small"]
def nmL1 : List PySem.Str := [.ofString "Reader", .ofString "size_text", .ofString "is_plain", .ofString "text_of_value", .ofString "value_text", .ofString "ratio_by", .ofString "value_by", .ofString "value_in", .ofString "value_of_text", .ofString "_law_pen", .ofString "_law_draw", .ofString "_law_pick", .ofString "_law_is", .ofString "_law_divisor", .ofString "_law_low", .ofString "_law_pair", .ofString "_law_times", .ofString "_law_sign", .ofString "_law_is_ratio", .ofString "_law_is_whole", .ofString "_law_number", .ofString "_law_wide", .ofString "_law_fault", .ofString "_law_kinds", .ofString "_law_more_kinds", .ofString "_law_drawn_value", .ofString "_law_tokens_of", .ofString "_law_text_of", .ofString "_law_is_figures", .ofString "_law_read", .ofString "_law_right", .ofString "_law_read_fault"]
def nmL : List PySem.Str := nmL0 ++ nmL1
abbrev RR : PySem.W.OpenRow := PySem.W.OpenLaw.row PySem.Challenge.rw_fieldpapers_k75_whole_plain_values
abbrev qV : Program := PySem.W.view RR.prog [0, 72]
abbrev hkX : PySem.W.Hook := He.hookX 4 facts fns [] lams moreB
def obX (s : PySem.W.SharedT) : He.AlX := He.obsX 4 facts fns [] lams moreB (HandSHeadRun.getT s)
theorem obX_eq (s : PySem.W.SharedT) : obX s = hkX.obs s.abs := He.obsX_eq (HandSHeadRun.getT_eq s)
set_option maxHeartbeats 0 in
theorem runX (w : World) : HandSHeadRun.RunEqI RR qV hkX obX 20000 nmL w := by
  unfold HandSHeadRun.RunEqI
  kernel_rfl
end FP
set_option maxHeartbeats 4000000
namespace FP
open PySem PySem.Spec PyProof.Rows L2
local macro_rules | `(tactic| walk_at "rd") => `(tactic| dsimp only [tVar, tC, tCmp, tIsN, tNotN, tB, tAnd, tOr, tNot, tAndV, tOrV, tNotV, tIf, tNext, tSeq, tBreak, tCont, tDrop, tRet, tRetN, tIfS, tNever, tAsg, tPar, tAug, tOp, tUn, tTest, tChain, tFld, tNil, tCons, tTup, tLst, tCB, tPart, tNoPart, tSl, tBM, tCallS, WE, tDGet, tDIn, gName, gTup, gCons, gNil, gSub, sFld, sFldAug, rI, rI0, rU, rEq, rNe, rIx, rIxL, rIxT, rIxS, rAdd, rSub, t2I, tYes, cx_K, cx_w, cx_prog])
local macro_rules | `(tactic| walk_at "rs") => `(tactic| (try simp only [L2.start, List.map_cons, List.map_nil, List.length_cons, List.length_nil, List.cons_append, List.nil_append, Nat.reduceAdd, Nat.reduceSub, Nat.zero_add, List.replicate, List.getElem?_cons_zero, List.getElem?_cons_succ, Option.some.injEq, exists_eq_left', exists_eq_left, V.int.injEq, V.str.injEq, V.bl.injEq, V.ref.injEq, List.set_cons_zero, List.set_cons_succ, exists_and_left, List.cons.injEq, and_true, true_and, wipe, if_true, if_false, Bool.not_true, Bool.not_false, Bool.false_eq_true, decide_true, decide_false]))

/-- built-in names that no text rebinds -/
structure Zb (mg : Str → Option Value) : Prop where
  len : mg "len" = none
  isinstance : mg "isinstance" = none
  int : mg "int" = none
  str : mg "str" = none
  bool : mg "bool" = none
  list : mg "list" = none
  tuple : mg "tuple" = none
  abs : mg "abs" = none
  all : mg "all" = none
  range : mg "range" = none
  enumerate : mg "enumerate" = none
  repr : mg "repr" = none

/-! ### kinds of data -/
def tyOf : PyData → String
  | .none => "NoneType"
  | .bool _ => "bool"
  | .int _ => "int"
  | .str _ => "str"
  | .list _ => "list"
  | .tuple _ => "tuple"
  | .dict _ => "dict"
/-- a value and its built-in type -/
structure Kd (K : PySem.W.Frag) (H : Hp) (v : V) (t : String) : Prop where
  ty : TyX K H v (.type t)
  kn : t ∈ ["NoneType", "bool", "int", "str", "list", "tuple", "dict"]
theorem SqT.kd {K : PySem.W.Frag} {H : Hp} {a : Addr} {xs : List V} (h : SqT K H a xs) : Kd K H (.ref a) "tuple" := by
  refine ⟨?_, by decide⟩
  rcases h with (h | ⟨o, h⟩) | ⟨o, _, _, h, c, _⟩
  · exact .base (.tup h)
  · exact .fTuple h
  · exact .kTuple h c
theorem SqL.kd {K : PySem.W.Frag} {H : Hp} {a : Addr} {xs : List V} (h : SqL K H a xs) : Kd K H (.ref a) "list" := by
  refine ⟨?_, by decide⟩
  rcases h with (h | ⟨o, h⟩) | ⟨o, _, _, h, c, _⟩
  · exact .base (.lst h)
  · exact .base (.frz h)
  · exact .kList h c
theorem Dp.kd {K : PySem.W.Frag} {H : Hp} {v : V} {d : PyData} (h : Dp K H v d) : Kd K H v (tyOf d) := by
  cases h with
  | non => exact ⟨.base .non, by decide⟩
  | bl b => exact ⟨.base (.bl b), by simp [tyOf]⟩
  | int i => exact ⟨.base (.int i), by simp [tyOf]⟩
  | str x => exact ⟨.base (.str x), by simp [tyOf]⟩
  | lst s _ => exact SqL.kd s
  | tup s _ => exact SqT.kd s
theorem Kd.dct {K : PySem.W.Frag} {H : Hp} {a : Addr} {kvs : List (Key × V)} (h : H a = some (.dK kvs)) : Kd K H (.ref a) "dict" := ⟨.base (.dK h), by decide⟩
theorem kit_int {K : PySem.W.Frag} {t : String} (h : t ∈ ["NoneType", "bool", "int", "str", "list", "tuple", "dict"]) : PySem.W.kitOne K (.type t) (.type "int") = some (t == "int" || t == "bool") := by
  simp only [List.mem_cons, List.not_mem_nil, or_false] at h
  rcases h with rfl | rfl | rfl | rfl | rfl | rfl | rfl <;> exact kit_ty (by decide +kernel)
theorem kit_bool {K : PySem.W.Frag} {t : String} (h : t ∈ ["NoneType", "bool", "int", "str", "list", "tuple", "dict"]) : PySem.W.kitOne K (.type t) (.type "bool") = some (t == "bool") := by
  simp only [List.mem_cons, List.not_mem_nil, or_false] at h
  rcases h with rfl | rfl | rfl | rfl | rfl | rfl | rfl <;> exact kit_ty (by decide +kernel)
theorem kit_str {K : PySem.W.Frag} {t : String} (h : t ∈ ["NoneType", "bool", "int", "str", "list", "tuple", "dict"]) : PySem.W.kitOne K (.type t) (.type "str") = some (t == "str") := by
  simp only [List.mem_cons, List.not_mem_nil, or_false] at h
  rcases h with rfl | rfl | rfl | rfl | rfl | rfl | rfl <;> exact kit_ty (by decide +kernel)
theorem kit_tuple {K : PySem.W.Frag} {t : String} (h : t ∈ ["NoneType", "bool", "int", "str", "list", "tuple", "dict"]) : PySem.W.kitOne K (.type t) (.type "tuple") = some (t == "tuple") := by
  simp only [List.mem_cons, List.not_mem_nil, or_false] at h
  rcases h with rfl | rfl | rfl | rfl | rfl | rfl | rfl <;> exact kit_ty (by decide +kernel)
theorem kit_list {K : PySem.W.Frag} {t : String} (h : t ∈ ["NoneType", "bool", "int", "str", "list", "tuple", "dict"]) : PySem.W.kitOne K (.type t) (.type "list") = some (t == "list") := by
  simp only [List.mem_cons, List.not_mem_nil, or_false] at h
  rcases h with rfl | rfl | rfl | rfl | rfl | rfl | rfl <;> exact kit_ty (by decide +kernel)
/-- isinstance(v, T) -/
theorem isi_int {K : PySem.W.Frag} {H : Hp} {v : V} {t : String} {Q : VK} (k : Kd K H v t) (q : Q (.bl (t == "int" || t == "bool")) H) : rIsi K [v, .ty "int"] H Q := ⟨v, _, _, _, _, rfl, .ty _, k.ty, kit_int k.kn, q⟩
theorem isi_bool {K : PySem.W.Frag} {H : Hp} {v : V} {t : String} {Q : VK} (k : Kd K H v t) (q : Q (.bl (t == "bool")) H) : rIsi K [v, .ty "bool"] H Q := ⟨v, _, _, _, _, rfl, .ty _, k.ty, kit_bool k.kn, q⟩
theorem isi_str {K : PySem.W.Frag} {H : Hp} {v : V} {t : String} {Q : VK} (k : Kd K H v t) (q : Q (.bl (t == "str")) H) : rIsi K [v, .ty "str"] H Q := ⟨v, _, _, _, _, rfl, .ty _, k.ty, kit_str k.kn, q⟩
theorem isi_tuple {K : PySem.W.Frag} {H : Hp} {v : V} {t : String} {Q : VK} (k : Kd K H v t) (q : Q (.bl (t == "tuple")) H) : rIsi K [v, .ty "tuple"] H Q := ⟨v, _, _, _, _, rfl, .ty _, k.ty, kit_tuple k.kn, q⟩
theorem kit_lt {K : PySem.W.Frag} {t : String} (h : t ∈ ["NoneType", "bool", "int", "str", "list", "tuple", "dict"]) : PySem.W.kitAny K (.type t) [.type "list", .type "tuple"] = some (t == "list" || t == "tuple") := by
  refine kitAny_cons (kit_list h) (fun e => ?_) (fun e => by rw [e]; rfl)
  rw [e]
  refine kitAny_cons (kit_tuple h) (fun e => ?_) (fun e => by rw [e]; rfl)
  rw [e]
  exact kitAny_nil
/-- isinstance(v, (list, tuple)) -/
theorem isi_lt {K : PySem.W.Frag} {H : Hp} {v : V} {t : String} {T : Addr} {Q : VK} (k : Kd K H v t) (hT : H T = some (.tup [.ty "list", .ty "tuple"])) (q : Q (.bl (t == "list" || t == "tuple")) H) : rIsiT K [v, .ref T] H Q :=
  ⟨v, T, _, _, _, _, rfl, hT, .cons (.ty _) (.cons (.ty _) .nil), k.ty, kit_lt k.kn, q⟩
theorem Kd.up {K : PySem.W.Frag} {H : Hp} {v : V} {t : String} {a : Addr} {o : HO} (k : Kd K H v t) (h : H a = none) : Kd K (upd H a o) v t := by
  refine ⟨?_, k.kn⟩
  cases k.ty with
  | base b =>
    refine .base ?_
    cases b with
    | non => exact .non
    | bl x => exact .bl x
    | int x => exact .int x
    | str x => exact .str x
    | flt x => exact .flt x
    | lst e => exact .lst (by rw [upd_ne (ne_of_none e h)]; exact e)
    | frz e => exact .frz (by rw [upd_ne (ne_of_none e h)]; exact e)
    | tup e => exact .tup (by rw [upd_ne (ne_of_none e h)]; exact e)
    | dK e => exact .dK (by rw [upd_ne (ne_of_none e h)]; exact e)
    | dT e => exact .dT (by rw [upd_ne (ne_of_none e h)]; exact e)
  | byt b => exact .byt b
  | set e => exact .set (by rw [upd_ne (ne_of_none e h)]; exact e)
  | kList e c => exact .kList e c
  | kTuple e c => exact .kTuple e c
  | kDict e c => exact .kDict e c
  | fTuple e => exact .fTuple (by rw [upd_ne (ne_of_none e h)]; exact e)
  | fDict e => exact .fDict (by rw [upd_ne (ne_of_none e h)]; exact e)

section
variable {P : Program} {w : World} {K : PySem.W.Frag} {mg : Str → Option Value} {base : Heap} {f : Addr} {fd : FuncData}

/-! ### is_integer -/
def sp_is_integer (K : PySem.W.Frag) : Sp := fun vs H Q _ => ∃ v t, vs = [v] ∧ Kd K H v t ∧ Q (.bl (t == "int")) H
theorem ok_is_integer (Z : Zb mg) (D : C8.Def K mg "is_integer" s_is_integer f fd) (b : Binds K fd ["value"] []) : CalX P w K mg base 1 "is_integer" (sp_is_integer K) := by
  refine calX D b sc_is_integer (fun vs H Q E h => by obtain ⟨v, t, rfl, _⟩ := h; rfl) fun cdv A outer s H vs Q E hr h => ?_
  obtain ⟨v, t, rfl, k, q⟩ := h
  refine ⟨_, (pss_one (ps_ret (pe_and (pe_callB call_isi rfl Z.isinstance PyProof.Rows.boot_isinstance (pa_cons (pv 0) (pa_cons (pe_ty rfl Z.int PyProof.Rows.boot_int) pa_nil))) (pe_one (pe_not (pe_callB call_isi rfl Z.isinstance PyProof.Rows.boot_isinstance (pa_cons (pv 0) (pa_cons (pe_ty rfl Z.bool PyProof.Rows.boot_bool) pa_nil)))))))), ?_⟩
  walk_at "rd"
  walk_at "rs"
  refine isi_int k ?_
  walk_at "rs"
  by_cases e : (t == "int" || t == "bool") = true
  · rw [if_pos e]
    refine isi_bool k ?_
    walk_at "rs"
    have e2 : (!(t == "bool")) = (t == "int") := by
      have kn := k.kn
      simp only [List.mem_cons, List.not_mem_nil, or_false] at kn
      rcases kn with rfl | rfl | rfl | rfl | rfl | rfl | rfl <;> first | rfl | exact absurd e (by decide)
    rw [e2]; exact q
  · rw [if_neg e]
    have e2 : (t == "int") = false := by
      cases h : (t == "int") with
      | false => rfl
      | true => rw [h] at e; exact absurd rfl e
    rw [e2] at q; exact q
end
end FP
set_option maxHeartbeats 4000000
/-! an error of an own class is made: what HandS.ExcInit says of it, and that its context is None -/
namespace FP
open PySem PySem.Spec PyProof.Rows L2
section
variable {X : Cx} {e : Expr} {es : List Expr} {ta : TA} {p pos : Pos}
theorem pmkN {CX : CXT} {x : Str} {C fI : Addr} {k : Nat} {fd : FuncData} {ps : List Str} {sp : Sp} (T : OexC X.K C)
    (iC : PySem.W.findIn X.K (.ref C) "__init__" = some (some (.ref fI)))
    (tI : PySem.W.typeIn X.K (.ref fI) = some (.type "function"))
    (F1 : FnOk X.prog X.w X.K X.mg X.base CX k fI fd ps sp) (hr : Room (k + 1) X.A)
    (hb : Binds X.K fd ps []) (hx : Passes CX X (fun _ _ _ => False)) (hg : Gl X x)
    (hm : X.mg x = some (.ref C)) (ha : PA X (e :: es) ta)
    (hdb : (x == ("__debug__" : Str)) = false := by decide)
    (he : starEach (e :: es) X.env = (false, eval e X.env) :: starEach es X.env := by rfl)
    (hpl : (backTo pos (starEach es X.env)).any (·.1) = false := by rfl) :
    L2N.PMk X (.Call (.Name x p) (e :: es) [] pos) (tMkO C sp [] ta) := by
  intro pins s σ H Q I h
  obtain ⟨nm, q, N, bs, bm, sn, sub, ab, col, dd, k0, k1, k2, k3, k5, cC, cm⟩ := T.cls
  refine wpAny_Call_Name_kw (ld_glob I hg hm ?_ hdb)
  refine PySem.W.callWith_K (h₀ := X.base) I.ok.mod.kin T.kC
    (thn (ha.run pos pins s σ H _ I h) fun us s1 ⟨vs, H1, I1, rv, lv, q1⟩ => ⟨I1.kIn, ?_⟩) he hpl
  change wpAny _ _ (call (.ref C) us) _ _ _
  obtain ⟨hp, g, dr, tk, os⟩ := s1
  have up1 : hp.objs.size ≤ hp.objs.size + 1 := by omega
  have fresh1 : H1 (hp.objs.size + 1) = none := I1.hok.fresh up1
  have told := q1 _ fresh1
  have stay : ∀ b o, hp.get? b = some o → ((hp.push (PySem.W.kdv_tup us)).push
    (PySem.HandSPX.excO C hp.objs.size)).get? b = some o :=
    fun b o z => Heap.get?_push_of_some _ (Heap.get?_push_of_some _ z)
  have there : ((hp.push (PySem.W.kdv_tup us)).push
    (PySem.HandSPX.excO C hp.objs.size)).get? (hp.objs.size + 1) = some (PySem.HandSPX.excO C hp.objs.size) := by
    heap_get
  have J : Inv X pins σ (upd H1 (hp.objs.size + 1) (exo (hp.objs.size + 1) C none)) ⟨((hp.push (PySem.W.kdv_tup us)).push
    (PySem.HandSPX.excO C hp.objs.size)), g, dr, tk, os⟩ :=
    I1.laid (t' := tk) (h' := ((hp.push (PySem.W.kdv_tup us)).push
    (PySem.HandSPX.excO C hp.objs.size))) stay up1 (exo_ok there)
  have rel : Vals (V.ref (hp.objs.size + 1) :: (vs ++ [])) (Value.ref (hp.objs.size + 1) :: (us ++ [])) :=
    .cons rfl (rv.append .nil)
  have len1 : (Value.ref (hp.objs.size + 1) :: us ++ []).length = ps.length :=
    (show _ = _ from rel.length).symm.trans (F1.len _ _ _ _ told)
  have bb := hb _ (Value.ref (hp.objs.size + 1) :: us) J.kIn len1
  rw [List.cons_append] at bb
  have few : us.length ≤ sizeLine := by
    have z := Paired.length rv
    rw [sizeLine_eq]; omega
  refine wpAny_call (PySem.HandSPX.call_own F.excBase_ValueError (fun Y => PySem.HandSPX.refsVE_contains Y bm cm)
    (I1.kIn _ _ cC) (PySem.W.looks_findIn I1.kIn iC) (fun self => PySem.W.bind_fn I1.kIn self tI) few
    (codeAny_mono (F1.run _ X.stack _ _ ⟨Value.ref (hp.objs.size + 1) :: us, []⟩
      (Value.ref (hp.objs.size + 1) :: (us ++ [])) _ _ (fun _ _ _ => False) (hr.make C us []) (J.env0.make C us [])
      bb rel told) fun r s' back => ?_))
  cases r with
  | error er => exact hx pins σ _ _ er s' J back
  | ok fl =>
    cases fl with
    | ret u =>
      obtain ⟨v, H2, o2, b2, u2, ok2, rv2, ev, d, fs, ea, ed, fr, q2⟩ := back
      subst ev
      obtain ⟨h2, g2, d2, t2, os'⟩ := s'
      obtain ⟨t0, G, JG, kG, ge, oe, na⟩ := mk_end0 (d2 := d2) (t2 := t2) I1 up1 stay u2 ok2 o2 b2 ea ed fr
      refine ⟨rv2, _, _, _, ⟨G, g2, d2, t2, os'⟩, _, .ref C, some d, rfl, JG, kG, ge, oe, ⟨rfl, rfl, ?_⟩, rfl, rfl, na, rfl, b2,
        raises_own T.exC T.tyC, q2⟩
      intro ws z
      cases z
      rfl
    | next => exact False.elim back
    | brk => exact False.elim back
    | cont => exact False.elim back
end
end FP
set_option maxHeartbeats 4000000
namespace FP
open PySem PySem.Spec PyProof.Rows L2
local macro_rules | `(tactic| walk_at "rd") => `(tactic| dsimp only [tVar, tC, tCmp, tIsN, tNotN, tB, tAnd, tOr, tNot, tAndV, tOrV, tNotV, tIf, tNext, tSeq, tBreak, tCont, tDrop, tRet, tRetN, tIfS, tNever, tAsg, tPar, tAug, tOp, tUn, tTest, tChain, tFld, tNil, tCons, tTup, tLst, tCB, iList, iTup, iStr, tLc, tM0, tM1, tPart, tNoPart, tSl, tBM, tCallS, tCallSD, WE, tDGet, tDIn, gName, gTup, gCons, gNil, gSub, sFld, sFldAug, rI, rI0, rU, rEq, rNe, rAdd, rSub, t2I, tYes, cx_K, cx_w, cx_prog])
local macro_rules | `(tactic| walk_at "rs") => `(tactic| (try simp only [L2.start, List.map_cons, List.map_nil, List.length_cons, List.length_nil, List.cons_append, List.nil_append, Nat.reduceAdd, Nat.reduceSub, Nat.zero_add, List.replicate, List.getElem?_cons_zero, List.getElem?_cons_succ, Option.some.injEq, exists_eq_left', exists_eq_left, V.int.injEq, V.str.injEq, V.bl.injEq, V.ref.injEq, List.set_cons_zero, List.set_cons_succ, exists_and_left, List.cons.injEq, and_true, true_and, wipe, if_true, if_false, Bool.not_true, Bool.not_false, Bool.false_eq_true, decide_true, decide_false]))
local macro_rules | `(tactic| walk_at "r") => `(tactic| (walk_at "rd"; walk_at "rs"))
local macro_rules | `(tactic| walk_at "T") => `(tactic| (rw [if_pos (by first | assumption | rfl | decide | exact decide_eq_true (by assumption) | (simp [tyOf]; done) | (simp; omega) | omega)]; walk_at "rs"))
local macro_rules | `(tactic| walk_at "F") => `(tactic| (rw [if_neg (by first | assumption | decide | (simp [tyOf]; done) | (simp; omega) | (simp; assumption) | omega)]; walk_at "rs"))
/-! ### ratios among data -/
def ratioOf : PyData → Option (Int × Int)
  | .int i => some (i, 1)
  | .tuple [.int t, .int b] => if 1 < b ∧ Nat.gcd t.natAbs b.natAbs = 1 then some (t, b) else none
  | _ => none
theorem ratio_pair (i j : Int) : ratioOf (.tuple [.int i, .int j]) = if 1 < j ∧ Nat.gcd i.natAbs j.natAbs = 1 then some (i, j) else none := rfl
theorem ratio_some {d : PyData} {t b : Int} (h : ratioOf d = some (t, b)) : (d = .int t ∧ b = 1) ∨ (d = .tuple [.int t, .int b] ∧ 1 < b ∧ Nat.gcd t.natAbs b.natAbs = 1) := by
  unfold ratioOf at h
  split at h
  · cases h; exact .inl ⟨rfl, rfl⟩
  · split at h
    · rename_i c; cases h; exact .inr ⟨rfl, c⟩
    · cases h
  · cases h
theorem DpAll.length {K : PySem.W.Frag} {H : Hp} : ∀ {xs : List V} {ds : List PyData}, DpAll K H xs ds → xs.length = ds.length
  | _, _, .nil => rfl
  | _, _, .cons _ t => congrArg Nat.succ (DpAll.length t)
theorem DpAll.get {K : PySem.W.Frag} {H : Hp} : ∀ {xs : List V} {ds : List PyData} {i : Nat} {d : PyData}, DpAll K H xs ds → ds[i]? = some d → ∃ v, xs[i]? = some v ∧ Dp K H v d
  | _, _, _, _, .nil, h => by simp at h
  | _, _, 0, _, .cons h _, e => by simp at e; subst e; exact ⟨_, rfl, h⟩
  | _, _, i + 1, _, .cons _ t, e => by
    obtain ⟨v, h1, h2⟩ := DpAll.get (i := i) t (by simpa using e)
    exact ⟨v, by simpa using h1, h2⟩
theorem DpAll.append {K : PySem.W.Frag} {H : Hp} : ∀ {xs ys : List V} {ds es : List PyData}, DpAll K H xs ds → DpAll K H ys es → DpAll K H (xs ++ ys) (ds ++ es)
  | _, _, _, _, .nil, h => h
  | _, _, _, _, .cons a t, h => .cons a (DpAll.append t h)
theorem SqT.same {K : PySem.W.Frag} {H H' : Hp} {a : Addr} {xs : List V} (e : Same H H') (h : SqT K H a xs) : SqT K H' a xs := by
  rcases h with (h | ⟨o, h⟩) | h
  · exact .inl (.inl (e _ _ h))
  · exact .inl (.inr ⟨o, e _ _ h⟩)
  · exact .inr h
/-- what changes of the objects of S leave: all else is kept -/
def But (S : Addr → Prop) (H H' : Hp) : Prop := ∀ b o, ¬ S b → H b = some o → H' b = some o
theorem But.refl (S : Addr → Prop) (H : Hp) : But S H H := fun _ _ _ h => h
theorem But.trans {S : Addr → Prop} {H H1 H2 : Hp} (a : But S H H1) (b : But S H1 H2) : But S H H2 := fun c o n h => b c o n (a c o n h)
theorem Same.but {S : Addr → Prop} {H H' : Hp} (e : Same H H') : But S H H' := fun c o _ h => e c o h
theorem But.upd {S : Addr → Prop} {x : Addr} {H : Hp} {o : HO} (s : S x) : But S H (upd H x o) := fun c u n h => by rw [upd_ne (fun e => n (by rw [e]; exact s))]; exact h
theorem same_new {H : Hp} {p : Addr} (h : H p = none) (o : HO) : Same H (upd H p o) := fun b u q => by rw [upd_ne (ne_of_none q h)]; exact q
/-- no tuple is among S -/
def NoTup (H : Hp) (S : Addr → Prop) : Prop := ∀ x xs, S x → ¬ Rd H x (.tup xs)
theorem SqT.but {K : PySem.W.Frag} {S : Addr → Prop} {H H' : Hp} {a : Addr} {xs : List V} (z : NoTup H S) (e : But S H H') (h : SqT K H a xs) : SqT K H' a xs := by
  rcases h with h | h
  · have n : ¬ S a := fun s => z a xs s h
    rcases h with h | ⟨o, h⟩
    · exact .inl (.inl (e _ _ n h))
    · exact .inl (.inr ⟨o, e _ _ n h⟩)
  · exact .inr h
theorem SqL.but {K : PySem.W.Frag} {S : Addr → Prop} {H H' : Hp} {a : Addr} {xs : List V} (z : ¬ S a) (e : But S H H') (h : SqL K H a xs) : SqL K H' a xs := by
  rcases h with h | h
  · rcases h with h | ⟨o, h⟩
    · exact .inl (.inl (e _ _ z h))
    · exact .inl (.inr ⟨o, e _ _ z h⟩)
  · exact .inr h
/-- a list of the heap, an instance, a dict: no tuple -/
theorem noTup1 {H : Hp} {x : Addr} {o : HO} (h : H x = some o) (n1 : ∀ xs, o ≠ .tup xs) (n2 : ∀ ob u, o ≠ .frz ob u) : NoTup H (· = x) := by
  rintro y xs rfl (t | ⟨ob, t⟩)
  · rw [h] at t; cases t; exact n1 _ rfl
  · rw [h] at t; cases t; exact n2 _ _ rfl
/-- data without lists -/
inductive Nol : PyData → Prop
  | non : Nol .none
  | bl (b : Bool) : Nol (.bool b)
  | int (i : Int) : Nol (.int i)
  | str (x : Str) : Nol (.str x)
  | tup {ds : List PyData} : (∀ d, d ∈ ds → Nol d) → Nol (.tuple ds)
mutual
theorem Dp.but {K : PySem.W.Frag} {S : Addr → Prop} {H H' : Hp} (z : NoTup H S) (e : But S H H') : ∀ {v : V} {d : PyData}, Nol d → Dp K H v d → Dp K H' v d
  | _, _, _, .non => .non
  | _, _, _, .bl b => .bl b
  | _, _, _, .int i => .int i
  | _, _, _, .str x => .str x
  | _, _, n, .lst s t => nomatch n
  | _, _, n, .tup s t => .tup (SqT.but z e s) (DpAll.but z e (fun d h => match n with | .tup g => g d h) t)
theorem DpAll.but {K : PySem.W.Frag} {S : Addr → Prop} {H H' : Hp} (z : NoTup H S) (e : But S H H') : ∀ {vs : List V} {ds : List PyData}, (∀ d, d ∈ ds → Nol d) → DpAll K H vs ds → DpAll K H' vs ds
  | _, _, _, .nil => .nil
  | _, _, n, .cons a t => .cons (Dp.but z e (n _ List.mem_cons_self) a) (DpAll.but z e (fun d h => n d (List.mem_cons_of_mem _ h)) t)
end
mutual
theorem Dp.imp {K : PySem.W.Frag} {H H' : Hp} (hL : ∀ a xs, SqL K H a xs → SqL K H' a xs) (hT : ∀ a xs, SqT K H a xs → SqT K H' a xs) : ∀ {v : V} {d : PyData}, Dp K H v d → Dp K H' v d
  | _, _, .non => .non
  | _, _, .bl b => .bl b
  | _, _, .int i => .int i
  | _, _, .str x => .str x
  | _, _, .lst s t => .lst (hL _ _ s) (DpAll.imp hL hT t)
  | _, _, .tup s t => .tup (hT _ _ s) (DpAll.imp hL hT t)
theorem DpAll.imp {K : PySem.W.Frag} {H H' : Hp} (hL : ∀ a xs, SqL K H a xs → SqL K H' a xs) (hT : ∀ a xs, SqT K H a xs → SqT K H' a xs) : ∀ {vs : List V} {ds : List PyData}, DpAll K H vs ds → DpAll K H' vs ds
  | _, _, .nil => .nil
  | _, _, .cons a t => .cons (Dp.imp hL hT a) (DpAll.imp hL hT t)
end
theorem Dp.same {K : PySem.W.Frag} {H H' : Hp} {v : V} {d : PyData} (e : Same H H') (h : Dp K H v d) : Dp K H' v d := Dp.imp (fun _ _ => e.seq) (fun _ _ => SqT.same e) h
theorem DpAll.same {K : PySem.W.Frag} {H H' : Hp} {v : List V} {d : List PyData} (e : Same H H') (h : DpAll K H v d) : DpAll K H' v d := DpAll.imp (fun _ _ => e.seq) (fun _ _ => SqT.same e) h
/-- a pair of ints as data -/
theorem Dp.pair {K : PySem.W.Frag} {H : Hp} {v : V} {t b : Int} (h : Dp K H v (.tuple [.int t, .int b])) : ∃ a, v = .ref a ∧ SqT K H a [.int t, .int b] := by
  cases h with
  | tup s t =>
    cases t with
    | cons a t =>
      cases t with
      | cons b t =>
        cases t
        cases a
        cases b
        exact ⟨_, rfl, s⟩
theorem Dp.of_pair {K : PySem.W.Frag} {H : Hp} {a : Addr} {t b : Int} (h : SqT K H a [.int t, .int b]) : Dp K H (.ref a) (.tuple [.int t, .int b]) := .tup h (.cons (.int t) (.cons (.int b) .nil))
theorem Dp.tupI {K : PySem.W.Frag} {H : Hp} {v : V} {ds : List PyData} (h : Dp K H v (.tuple ds)) : ∃ a xs, v = .ref a ∧ SqT K H a xs ∧ DpAll K H xs ds := by
  cases h with
  | tup s t => exact ⟨_, _, rfl, s, t⟩
theorem Dp.lstI {K : PySem.W.Frag} {H : Hp} {v : V} {ds : List PyData} (h : Dp K H v (.list ds)) : ∃ a xs, v = .ref a ∧ SqL K H a xs ∧ DpAll K H xs ds := by
  cases h with
  | lst s t => exact ⟨_, _, rfl, s, t⟩
theorem Dp.intI {K : PySem.W.Frag} {H : Hp} {v : V} {i : Int} (h : Dp K H v (.int i)) : v = .int i := by cases h; rfl
theorem Dp.strI {K : PySem.W.Frag} {H : Hp} {v : V} {i : Str} (h : Dp K H v (.str i)) : v = .str i := by cases h; rfl
theorem ty_int {d : PyData} : (tyOf d == "int") = true ↔ ∃ i, d = .int i := by
  cases d <;> simp [tyOf]
theorem ty_tuple {d : PyData} : (tyOf d == "tuple") = true ↔ ∃ i, d = .tuple i := by
  cases d <;> simp [tyOf]
theorem op_pow2 {X : Cx} : OpR X (binaryOp .Pow) (rI (fun i j => 0 ≤ j ∧ (Builtin.Int.intBits i : Int) * j ≤ 2 ^ 27) fun i j => .int (i ^ j.toNat)) := opI fun _ _ _ _ _ _ _ hc q => PyProof.Rows.pow_int hc.1 hc.2 q

theorem ixT {K : PySem.W.Frag} {H : Hp} {a : Addr} {xs : List V} {i : Int} {v : V} {Q : VK} (h : SqT K H a xs) (e : atI xs i = some v) (q : Q v H) : rIxT K (.ref a) (.int i) H Q := ⟨a, xs, i, v, rfl, rfl, h, e, q⟩
theorem ixL {K : PySem.W.Frag} {H : Hp} {a : Addr} {xs : List V} {i : Int} {v : V} {Q : VK} (h : SqL K H a xs) (e : atI xs i = some v) (q : Q v H) : rIxL K (.ref a) (.int i) H Q := ⟨a, xs, i, v, rfl, rfl, h, e, q⟩
theorem lenT {K : PySem.W.Frag} {H : Hp} {a : Addr} {xs : List V} {R : Nat → Prop} (h : SqT K H a xs) (q : R xs.length) : ∃ n, LenV K (.ref a) H n ∧ R n := ⟨_, .inr ⟨xs, h, rfl⟩, q⟩
theorem lenL {K : PySem.W.Frag} {H : Hp} {a : Addr} {xs : List V} {R : Nat → Prop} (h : SqL K H a xs) (q : R xs.length) : ∃ n, LenV K (.ref a) H n ∧ R n := ⟨_, .inl ⟨xs, h, rfl⟩, q⟩
theorem eqI {i j : Int} {H : Hp} {Q : VK} (q : Q (.bl (decide (i = j))) H) : rEq (.int i) (.int j) H Q := ⟨rfl, by simpa using q⟩
section
variable {P : Program} {w : World} {K : PySem.W.Frag} {mg : Str → Option Value} {base : Heap} {f : Addr} {fd : FuncData}
/-! ### is_ratio -/
def sp_is_ratio (K : PySem.W.Frag) : Sp := fun vs H Q _ => ∃ v, vs = [v] ∧ ((∃ d, Dp K H v d ∧ Q (.bl (ratioOf d).isSome) H) ∨ (∃ t, Kd K H v t ∧ (t == "tuple") = false ∧ Q (.bl (t == "int")) H))
theorem ok_is_ratio (Z : Zb mg) (G_gcd : mg "gcd" = some (.builtin "math.gcd")) (D : C8.Def K mg "is_ratio" s_is_ratio f fd) (b : Binds K fd ["value"] []) (c_is_integer : CalX P w K mg base 1 "is_integer" (sp_is_integer K)) : CalX P w K mg base 2 "is_ratio" (sp_is_ratio K) := by
  refine calX D b sc_is_ratio (fun vs H Q E h => by obtain ⟨v, rfl, _⟩ := h; rfl) fun cdv A outer s H vs Q E hr h => ?_
  obtain ⟨v, rfl, h⟩ := h
  refine ⟨_, (pss_cons (ps_if (pt_not (pt_val (pe_callB call_isi rfl Z.isinstance PyProof.Rows.boot_isinstance (pa_cons (pv 0) (pa_cons (pe_ty rfl Z.tuple PyProof.Rows.boot_tuple) pa_nil))))) (pss_one (ps_ret (pe_x c_is_integer hr (by decide) tk0 rfl (pa_cons (pv 0) pa_nil)))) pss_nil)
    (pss_cons (ps_if (PW.pt (pw_or (pt_cmpR op_ne (pe_callB call_len rfl Z.len PySem.boot_len (pa_cons (pv 0) pa_nil)) pe_int (nomark _)) (pw_or (pt_not (pt_val (pe_x c_is_integer hr (by decide) tk0 rfl (pa_cons (pe_ix ix_tup (pv 0) pe_int (fun _ _ => rfl)) pa_nil)))) (pw_or1 (pt_not (pt_val (pe_x c_is_integer hr (by decide) tk0 rfl (pa_cons (pe_ix ix_tup (pv 0) pe_int (fun _ _ => rfl)) pa_nil)))))))) (pss_one (ps_ret pe_bl)) pss_nil)
    (pss_one (ps_ret (pe_and (pe_cmpR op_gt (pe_ix ix_tup (pv 0) pe_int (fun _ _ => rfl)) pe_int (nomark _)) (pe_one (pe_cmpR op_eq (pe_callBfun cr_gcd rfl G_gcd (pa_cons (pe_ix ix_tup (pv 0) pe_int (fun _ _ => rfl)) (pa_cons (pe_ix ix_tup (pv 0) pe_int (fun _ _ => rfl)) pa_nil))) pe_int (nomark _)))))))), ?_⟩
  walk_at "r"
  rcases h with ⟨d, hd, q⟩ | ⟨t, k, nt, q⟩
  · refine isi_tuple (Dp.kd hd) ?_
    walk_at "rs"
    by_cases ht : (tyOf d == "tuple") = true
    · obtain ⟨ds, rfl⟩ := ty_tuple.mp ht
      obtain ⟨a, xs, rfl, hs, al⟩ := Dp.tupI hd
      rw [ht]
      walk_at "rs"
      refine lenT hs ⟨rfl, ?_⟩
      have hl := DpAll.length al
      match xs, ds, al, hl, hs, q with
      | [x, y], [d, e], .cons hx (.cons hy _), _, hs, q =>
        walk_at "F"
        refine ixT hs rfl ⟨_, _, rfl, Dp.kd hx, ?_⟩
        walk_at "rs"
        by_cases hd : (tyOf d == "int") = true
        · rw [hd]
          walk_at "rs"
          obtain ⟨i, rfl⟩ := ty_int.mp hd
          cases hx
          refine ixT hs rfl ⟨_, _, rfl, Dp.kd hy, ?_⟩
          walk_at "rs"
          by_cases he : (tyOf e == "int") = true
          · rw [he]
            walk_at "rs"
            obtain ⟨j, rfl⟩ := ty_int.mp he
            cases hy
            refine ixT hs rfl ⟨_, rfl, ?_⟩
            by_cases hj : 1 < j
            · walk_at "T"
              refine ixT hs rfl (ixT hs rfl ⟨_, _, rfl, rfl, ?_⟩)
              have e : decide (V.int ((Nat.gcd i.natAbs j.natAbs : Nat) : Int) = V.int 1) = (ratioOf (.tuple [.int i, .int j])).isSome := by
                rw [ratio_pair]
                by_cases g : Nat.gcd i.natAbs j.natAbs = 1
                · rw [if_pos ⟨hj, g⟩, g]; rfl
                · rw [if_neg (fun z => g z.2)]
                  refine decide_eq_false fun z => g ?_
                  injection z with z
                  exact Int.ofNat_inj.mp z
              rw [e]; exact q
            · walk_at "F"
              have e : (ratioOf (.tuple [.int i, .int j])).isSome = false := by
                rw [ratio_pair, if_neg (fun z => hj z.1)]; rfl
              rw [e] at q; exact q
          · rw [Bool.eq_false_iff.mpr he]
            walk_at "rs"
            have e : (ratioOf (.tuple [.int i, e])).isSome = false := by
              cases e <;> first | rfl | exact absurd rfl he
            rw [e] at q; exact q
        · rw [Bool.eq_false_iff.mpr hd]
          walk_at "rs"
          have e : (ratioOf (.tuple [d, e])).isSome = false := by
            cases d <;> first | rfl | exact absurd rfl hd
          rw [e] at q; exact q
      | [], [], _, _, _, q => walk_at "T"; exact q
      | [_], [e], _, _, _, q =>
        walk_at "T"
        have e : (ratioOf (.tuple [e])).isSome = false := by cases e <;> rfl
        rw [e] at q; exact q
      | _ :: _ :: _ :: r, a :: b :: c :: r', _, _, _, q =>
        rw [if_pos (by simp; omega)]
        have e : (ratioOf (.tuple (a :: b :: c :: r'))).isSome = false := by cases a <;> first | rfl | (cases b <;> rfl)
        rw [e] at q; walk_at "rs"; exact q
    · rw [Bool.eq_false_iff.mpr ht]
      walk_at "rs"
      refine ⟨_, _, rfl, Dp.kd hd, ?_⟩
      have e : (ratioOf d).isSome = (tyOf d == "int") := by
        cases d <;> first | rfl | exact absurd rfl ht
      rw [e] at q; exact q
  · refine isi_tuple k ?_
    rw [nt]
    walk_at "rs"
    exact ⟨_, _, rfl, k, q⟩
/-! ### pair -/
def sp_pair (K : PySem.W.Frag) : Sp := fun vs H Q _ => ∃ v d t b, vs = [v] ∧ Dp K H v d ∧ ratioOf d = some (t, b) ∧ ∀ a H', Same H H' → SqT K H' a [.int t, .int b] → Q (.ref a) H'
theorem ok_pair (Z : Zb mg) (D : C8.Def K mg "pair" s_pair f fd) (b : Binds K fd ["number"] []) : CalX P w K mg base 1 "pair" (sp_pair K) := by
  refine calX D b sc_pair (fun vs H Q E h => by obtain ⟨v, d, t, b, rfl, _⟩ := h; rfl) fun cdv A outer s H vs Q E hr h => ?_
  obtain ⟨v, d, t, b, rfl, hd, hr', q⟩ := h
  refine ⟨_, (pss_one (ps_ret (pe_ifExp (pt_val (pe_callB call_isi rfl Z.isinstance PyProof.Rows.boot_isinstance (pa_cons (pv 0) (pa_cons (pe_ty rfl Z.int PyProof.Rows.boot_int) pa_nil)))) (pe_tup (pa_cons (pv 0) (pa_cons pe_int pa_nil))) (pv 0)))), ?_⟩
  walk_at "r"
  refine isi_int (Dp.kd hd) ?_
  walk_at "rs"
  rcases ratio_some hr' with ⟨rfl, rfl⟩ | ⟨rfl, _⟩
  · cases hd
    walk_at "T"
    refine ⟨by show 2 ≤ sizeLine; decide, fun p hp => q p _ (same_new hp _) (.inl (.inl upd_same))⟩
  · obtain ⟨a, rfl, s⟩ := Dp.pair hd
    walk_at "F"
    exact q a H (Same.refl H) s
/-! ### opposite -/
def oppD : PyData → PyData
  | .int i => .int (-i)
  | .tuple [.int t, .int b] => .tuple [.int (-t), .int b]
  | d => d
def sp_opposite (K : PySem.W.Frag) : Sp := fun vs H Q _ => ∃ v d, vs = [v] ∧ Dp K H v d ∧ (ratioOf d).isSome = true ∧ ∀ v' H', Same H H' → Dp K H' v' (oppD d) → Q v' H'
theorem ok_opposite (Z : Zb mg) (D : C8.Def K mg "opposite" s_opposite f fd) (b : Binds K fd ["number"] []) : CalX P w K mg base 1 "opposite" (sp_opposite K) := by
  refine calX D b sc_opposite (fun vs H Q E h => by obtain ⟨v, d, rfl, _⟩ := h; rfl) fun cdv A outer s H vs Q E hr h => ?_
  obtain ⟨v, d, rfl, hd, hr', q⟩ := h
  refine ⟨_, (pss_one (ps_ret (pe_ifExp (pt_val (pe_callB call_isi rfl Z.isinstance PyProof.Rows.boot_isinstance (pa_cons (pv 0) (pa_cons (pe_ty rfl Z.int PyProof.Rows.boot_int) pa_nil)))) (pe_un un_neg (pv 0)) (pe_tup (pa_cons (pe_un un_neg (pe_ix ix_tup (pv 0) pe_int (fun _ _ => rfl))) (pa_cons (pe_ix ix_tup (pv 0) pe_int (fun _ _ => rfl)) pa_nil)))))), ?_⟩
  walk_at "r"
  refine isi_int (Dp.kd hd) ?_
  walk_at "rs"
  obtain ⟨⟨t, b⟩, hr'⟩ := Option.isSome_iff_exists.mp hr'
  rcases ratio_some hr' with ⟨rfl, rfl⟩ | ⟨rfl, _⟩
  · cases hd
    walk_at "T"
    exact q _ _ (Same.refl H) (.int _)
  · obtain ⟨a, rfl, s⟩ := Dp.pair hd
    walk_at "F"
    refine ixT s rfl ⟨_, rfl, ixT s rfl ⟨by show 2 ≤ sizeLine; decide, fun p hp => q _ _ (same_new hp _) (Dp.of_pair (.inl (.inl upd_same)))⟩⟩
/-! ### sign_of -/
def sgn (t : Int) : Int := if 0 < t then 1 else if t < 0 then -1 else 0
def sp_sign_of (K : PySem.W.Frag) : Sp := fun vs H Q _ => ∃ v d t b, vs = [v] ∧ Dp K H v d ∧ ratioOf d = some (t, b) ∧ Q (.int (sgn t)) H
theorem ok_sign_of (Z : Zb mg) (D : C8.Def K mg "sign_of" s_sign_of f fd) (b : Binds K fd ["number"] []) : CalX P w K mg base 1 "sign_of" (sp_sign_of K) := by
  refine calX D b sc_sign_of (fun vs H Q E h => by obtain ⟨v, d, t, b, rfl, _⟩ := h; rfl) fun cdv A outer s H vs Q E hr h => ?_
  obtain ⟨v, d, t, b, rfl, hd, hr', q⟩ := h
  have nd := sc_sign_of.nd
  refine ⟨_, (pss_cons (ps_set (i := 1) nd rfl (Or.inl rfl) (pe_ifExp (pt_val (pe_callB call_isi rfl Z.isinstance PyProof.Rows.boot_isinstance (pa_cons (pv 0) (pa_cons (pe_ty rfl Z.int PyProof.Rows.boot_int) pa_nil)))) (pv 0) (pe_ix ix_tup (pv 0) pe_int (fun _ _ => rfl))))
    (pss_one (ps_ret (pe_ifExp (pt_cmpR op_gt (pv 1) pe_int (nomark _)) pe_int (pe_ifExp (pt_cmpR op_lt (pv 1) pe_int (nomark _)) (pe_un un_neg pe_int) pe_int))))), ?_⟩
  walk_at "r"
  refine isi_int (Dp.kd hd) ?_
  have fin : if decide (0 < t) = true then Q (V.int 1) H else if decide (t < 0) = true then Q (V.int (-1)) H else Q (V.int 0) H := by
    unfold sgn at q
    by_cases h1 : 0 < t
    · rw [if_pos h1] at q; walk_at "T"; exact q
    · rw [if_neg h1] at q; walk_at "F"
      by_cases h2 : t < 0
      · rw [if_pos h2] at q; walk_at "T"; exact q
      · rw [if_neg h2] at q; walk_at "F"; exact q
  walk_at "rs"
  rcases ratio_some hr' with ⟨rfl, rfl⟩ | ⟨rfl, _⟩
  · cases hd
    walk_at "T"
    exact fin
  · obtain ⟨a, rfl, s⟩ := Dp.pair hd
    walk_at "F"
    refine ixT s rfl ?_
    walk_at "rs"
    exact fin
end
end FP
set_option maxHeartbeats 4000000
namespace FP
open PySem PySem.Spec PyProof.Rows L2
local macro_rules | `(tactic| walk_at "rd") => `(tactic| dsimp only [tVar, tC, tCmp, tIsN, tNotN, tB, tAnd, tOr, tNot, tAndV, tOrV, tNotV, tIf, tNext, tSeq, tBreak, tCont, tDrop, tRet, tRetN, tIfS, tNever, tAsg, tPar, tAug, tOp, tUn, tTest, tChain, tFld, tNil, tCons, tTup, tLst, tCB, iList, iTup, iStr, tLc, tM0, tM1, tPart, tNoPart, tSl, tBM, tCallS, tCallSD, WE, tDGet, tDIn, gName, gTup, gCons, gNil, gSub, sFld, sFldAug, rI, rI0, rU, rEq, rNe, rAdd, rSub, t2I, tYes, cx_K, cx_w, cx_prog])
local macro_rules | `(tactic| walk_at "rs") => `(tactic| (try simp only [L2.start, List.map_cons, List.map_nil, List.length_cons, List.length_nil, List.cons_append, List.nil_append, Nat.reduceAdd, Nat.reduceSub, Nat.zero_add, List.replicate, List.getElem?_cons_zero, List.getElem?_cons_succ, Option.some.injEq, exists_eq_left', exists_eq_left, V.int.injEq, V.str.injEq, V.bl.injEq, V.ref.injEq, List.set_cons_zero, List.set_cons_succ, exists_and_left, List.cons.injEq, and_true, true_and, wipe, if_true, if_false, Bool.not_true, Bool.not_false, Bool.false_eq_true, decide_true, decide_false]))
local macro_rules | `(tactic| walk_at "r") => `(tactic| (walk_at "rd"; walk_at "rs"))
local macro_rules | `(tactic| walk_at "T") => `(tactic| (rw [if_pos (by first | assumption | rfl | decide | exact decide_eq_true (by assumption) | (simp [tyOf]; done) | (simp; omega) | omega)]; walk_at "rs"))
local macro_rules | `(tactic| walk_at "F") => `(tactic| (rw [if_neg (by first | assumption | decide | (simp [tyOf]; done) | (simp; omega) | (simp; assumption) | omega)]; walk_at "rs"))
/-! ### errors of own classes with two fields -/
def spInit2 (C : Addr) (f1 f2 : Str) : Sp := fun vs H Q _ => ∃ (a : Addr) (v1 v2 : V), vs = [.ref a, v1, v2] ∧ H a = some (exo a C none) ∧
  ∀ dx, H dx = none → dx ≠ a → Q .non (upd (upd (upd H dx (exd dx [(f1, v1)])) a (exo a C (some dx))) dx (exd dx [(f2, v2), (f1, v1)]))
theorem upd_ne_same {H : Hp} {a dx : Addr} {o u : HO} (ne : dx ≠ a) : upd (upd H dx o) a u dx = some o := by rw [upd_ne ne, upd_same]
structure ErrX (P : Program) (w : World) (K : PySem.W.Frag) (mg : Str → Option Value) (base : Heap) (x : Str) (C : Addr) (f1 f2 : Str) : Prop where
  T : OexC K C
  nm : mg x = some (.ref C)
  ini : ∃ (fI : Addr) (fd : FuncData) (ps : List Str), PySem.W.findIn K (.ref C) "__init__" = some (some (.ref fI)) ∧ PySem.W.typeIn K (.ref fI) = some (.type "function") ∧ FnOk P w K mg base (L2N.CX P w) 1 fI fd ps (spInit2 C f1 f2) ∧ Binds K fd ps []
theorem xd_heap {H : Hp} {a dx : Addr} {o1 o2 o3 o4 o : HO} (na : H a = none) (ne : dx ≠ a) : upd (del (upd (upd (upd (upd H a o1) dx o2) a o3) dx o4) a) dx o = upd H dx o := by
  funext b
  by_cases h : b = dx
  · subst h; rw [upd_same, upd_same]
  · rw [upd_ne h, upd_ne h]
    by_cases h2 : b = a
    · subst h2; rw [del_same, na]
    · rw [del_ne h2, upd_ne h, upd_ne h2, upd_ne h, upd_ne h2]
/-- a reading that may be weakened -/
def tMo (t : TE) : TE := fun σ H Q => ∃ Q0 : VK, t σ H Q0 ∧ ∀ x H1, Q0 x H1 → Q x H1
theorem pe_mo {X : Cx} {e : Expr} {t : TE} (h : PE X e t) : PE X e (tMo t) := ⟨fun pins s σ H Q I ⟨Q0, q, m⟩ =>
  thn (h.run pins s σ H Q0 I q) fun u s' ⟨v, H', I', r, z⟩ => ⟨v, H', I', r, m v H' z⟩⟩
section
variable {X : Cx} {x : Str} {C : Addr} {f1 f2 : Str} {W : WX} {e1 e2 : Expr} {t1 t2 : TE} {p pos pos' : Pos} {k : Nat}
/-- raise x(e1, e2) -/
theorem ps_raiseX (R : ErrX X.prog X.w X.K X.mg X.base x C f1 f2) (hc : X.calm = true) (hr : Room k X.A) (hk : 2 ≤ k) (tk : L2N.Takes X W) (hg : Gl X x) (h1 : PE X e1 t1) (h2 : PE X e2 t2)
    (hdb : (x == ("__debug__" : Str)) = false := by decide) (s1 : starEach [e2] X.env = (false, eval e2 X.env) :: starEach [] X.env := by rfl)
    (s2 : starEach [e1, e2] X.env = (false, eval e1 X.env) :: starEach [e2] X.env := by rfl) (hpl : (backTo pos (starEach [e2] X.env)).any (·.1) = false := by rfl) :
    PS X (.Raise (some (.Call (.Name x p) [e1, e2] [] pos)) none pos') (fun _ σ H => t1 σ H fun v1 H1 => t2 σ H1 fun v2 H2 => ∀ d, H2 d = none → W (.ref C) (some d) σ (upd H2 d (.xd [(f2, v2), (f1, v1)]))) := by
  obtain ⟨fI, fd, ps, i1, i2, F, b⟩ := R.ini
  have hx : Passes (L2N.CX X.prog X.w) X (fun _ _ _ => False) := fun _ _ _ _ _ _ _ h => by
    obtain ⟨_, _, _, _, _, _, _, _, _, _, _, _, z⟩ := h
    exact z.elim
  have m := pmkN (p := p) (pos := pos) R.T i1 i2 F (hr.mono hk) b hx hg R.nm (pa_cons (pe_mo h1) (pa_cons (pe_mo h2) pa_nil s1) s2) hdb s2 hpl
  refine ⟨fun pins s σ H D I h => ?_⟩
  refine (L2N.ps_raise (pos := pos') hc tk m).run pins s σ H D I ?_
  refine ⟨_, h, fun v1 H1 q1 => ⟨_, q1, fun v2 H2 q2 => ⟨(show 2 ≤ 1000 by decide), fun a na => ?_⟩⟩⟩
  refine ⟨a, v1, v2, rfl, upd_same, fun dx nd ne => ⟨rfl, dx, [(f2, v2), (f1, v1)], ?_, upd_same, ?_, ?_⟩⟩
  · rw [upd_ne (Ne.symm ne), upd_same]
  · rw [upd_ne ne] at nd; exact nd
  · rw [xd_heap na ne]
    rw [upd_ne ne] at nd
    exact q2 dx nd
end
section
variable {P : Program} {w : World} {K : PySem.W.Frag} {mg : Str → Option Value} {base : Heap} {f : Addr} {fd : FuncData}
theorem init_BadText {C : Addr} (F : C8.Fun K "__init__" "BadText.__init__" s_BadText___init__ f fd) (T : OexC K C) (n1 : PySem.W.findIn K (.ref C) "line" = some none) (n2 : PySem.W.findIn K (.ref C) "word" = some none) :
    FnOk P w K mg base (L2N.CX P w) 1 f fd ["self", "line", "word"] (spInit2 C "line" "word") := by
  refine fnX F sc_BadText___init__ (fun vs H Q E h => by obtain ⟨a, v1, v2, rfl, _⟩ := h; rfl) fun cdv A outer s H vs Q E hr h => ?_
  obtain ⟨a, v1, v2, rfl, ha, q⟩ := h
  refine ⟨_, pss_cons (ps_ost (pv 0) (pv 1)) (pss_one (ps_ost (pv 0) (pv 2))), ?_⟩
  refine ⟨_, rfl, _, rfl, a, C, rfl, T, n1, .inl ⟨ha, fun dx nd ne => ?_⟩⟩
  refine ⟨_, rfl, _, rfl, a, C, rfl, T, n2, .inr ⟨dx, _, upd_same, upd_ne_same ne, (by show 1 ≤ 900; decide), q dx nd ne⟩⟩

theorem init_BadRow {C : Addr} (F : C8.Fun K "__init__" "BadRow.__init__" s_BadRow___init__ f fd) (T : OexC K C) (n1 : PySem.W.findIn K (.ref C) "what" = some none) (n2 : PySem.W.findIn K (.ref C) "row" = some none) :
    FnOk P w K mg base (L2N.CX P w) 1 f fd ["self", "what", "row"] (spInit2 C "what" "row") := by
  refine fnX F sc_BadRow___init__ (fun vs H Q E h => by obtain ⟨a, v1, v2, rfl, _⟩ := h; rfl) fun cdv A outer s H vs Q E hr h => ?_
  obtain ⟨a, v1, v2, rfl, ha, q⟩ := h
  refine ⟨_, pss_cons (ps_ost (pv 0) (pv 1)) (pss_one (ps_ost (pv 0) (pv 2))), ?_⟩
  refine ⟨_, rfl, _, rfl, a, C, rfl, T, n1, .inl ⟨ha, fun dx nd ne => ?_⟩⟩
  refine ⟨_, rfl, _, rfl, a, C, rfl, T, n2, .inr ⟨dx, _, upd_same, upd_ne_same ne, (by show 1 ≤ 900; decide), q dx nd ne⟩⟩

end
end FP
set_option maxHeartbeats 4000000
namespace FP
open PySem PySem.Spec PyProof.Rows L2
local macro_rules | `(tactic| walk_at "rd") => `(tactic| dsimp only [tVar, tC, tCmp, tIsN, tNotN, tB, tAnd, tOr, tNot, tAndV, tOrV, tNotV, tIf, tNext, tSeq, tBreak, tCont, tDrop, tRet, tRetN, tIfS, tNever, tAsg, tPar, tAug, tOp, tUn, tTest, tChain, tFld, tNil, tCons, tTup, tLst, tCB, iList, iTup, iStr, tLc, tM0, tM1, tPart, tNoPart, tSl, tBM, tCallS, tCallSD, WE, tDGet, tDIn, gName, gTup, gCons, gNil, gSub, sFld, sFldAug, rI, rI0, rU, rEq, rNe, rAdd, rSub, t2I, tYes, cx_K, cx_w, cx_prog])
local macro_rules | `(tactic| walk_at "rs") => `(tactic| (try simp only [L2.start, List.map_cons, List.map_nil, List.length_cons, List.length_nil, List.cons_append, List.nil_append, Nat.reduceAdd, Nat.reduceSub, Nat.zero_add, List.replicate, List.getElem?_cons_zero, List.getElem?_cons_succ, Option.some.injEq, exists_eq_left', exists_eq_left, V.int.injEq, V.str.injEq, V.bl.injEq, V.ref.injEq, List.set_cons_zero, List.set_cons_succ, exists_and_left, List.cons.injEq, and_true, true_and, wipe, if_true, if_false, Bool.not_true, Bool.not_false, Bool.false_eq_true, decide_true, decide_false]))
local macro_rules | `(tactic| walk_at "r") => `(tactic| (walk_at "rd"; walk_at "rs"))
local macro_rules | `(tactic| walk_at "T") => `(tactic| (rw [if_pos (by first | assumption | rfl | decide | exact decide_eq_true (by assumption) | (simp [tyOf]; done) | (simp; omega) | omega)]; walk_at "rs"))
local macro_rules | `(tactic| walk_at "F") => `(tactic| (rw [if_neg (by first | assumption | decide | (simp [tyOf]; done) | (simp; omega) | (simp; assumption) | omega)]; walk_at "rs"))
theorem PI_or {X : Cx} {tg l : Expr} {w1 w2 : TI} (h1 : PI X tg l w1) (h2 : PI X tg l w2) : PI X tg l (fun σ H R => w1 σ H R ∨ w2 σ H R) :=
  ⟨fun pins s σ H R I h => h.elim (h1.run pins s σ H R I) (h2.run pins s σ H R I)⟩
theorem pi_seq {X : Cx} {tg l : Expr} {tl : TE} (h : PE X l tl) : PI X tg l (fun σ H R => iList X.K tl σ H R ∨ iTup X.K tl σ H R) := PI_or (pi_list h) (pi_tup h)
theorem sz {n : Nat} (h : n ≤ 1000000) : n ≤ sizeLine := by rw [sizeLine_eq]; omega
theorem szL {n : Nat} (h : n < 1000000) : n < sizeLine := by rw [sizeLine_eq]; omega
/-- what stood ahead of a new list's place is kept through all that is done to that list -/
theorem Same.of_but {H H2 : Hp} {D : Addr} {o : HO} (n : H D = none) (e : But (· = D) (upd H D o) H2) : Same H H2 := fun b u h =>
  e b u (fun z => by rw [z, n] at h; cases h) (by rw [upd_ne (fun z => by rw [z, n] at h; cases h)]; exact h)
section
variable {P : Program} {w : World} {K : PySem.W.Frag} {mg : Str → Option Value} {base : Heap} {f : Addr} {fd : FuncData}
/-! ### is_list -/
def sp_is_list (K : PySem.W.Frag) : Sp := fun vs H Q _ => ∃ v t, vs = [v] ∧ Kd K H v t ∧ ∀ H', Same H H' → Q (.bl (t == "list" || t == "tuple")) H'
theorem ok_is_list (Z : Zb mg) (D : C8.Def K mg "is_list" s_is_list f fd) (b : Binds K fd ["value"] []) : CalX P w K mg base 1 "is_list" (sp_is_list K) := by
  refine calX D b sc_is_list (fun vs H Q E h => by obtain ⟨v, t, rfl, _⟩ := h; rfl) fun cdv A outer s H vs Q E hr h => ?_
  obtain ⟨v, t, rfl, k, q⟩ := h
  refine ⟨_, (pss_one (ps_ret (pe_callB call_isiT rfl Z.isinstance PyProof.Rows.boot_isinstance (pa_cons (pv 0) (pa_cons (pe_tup (pa_cons (pe_ty rfl Z.list PyProof.Rows.boot_list) (pa_cons (pe_ty rfl Z.tuple PyProof.Rows.boot_tuple) pa_nil))) pa_nil))))), ?_⟩
  walk_at "r"
  exact ⟨sz (by decide), fun p hp => isi_lt (Kd.up k hp) upd_same (q _ (same_new hp _))⟩
/-! ### is_small -/
@[irreducible] def M400 : Int := 10 ^ 400
def smallB (t b : Int) : Bool := decide ((t.natAbs : Int) < M400) && decide (b < M400)
theorem abs_if (i : Int) : (if i < 0 then -i else i) = (i.natAbs : Int) := by split <;> omega
def sp_is_small (K : PySem.W.Frag) : Sp := fun vs H Q _ => ∃ v d t b, vs = [v] ∧ Dp K H v d ∧ ratioOf d = some (t, b) ∧ ∀ H', Same H H' → Q (.bl (smallB t b)) H'
theorem ok_is_small (Z : Zb mg) (D : C8.Def K mg "is_small" s_is_small f fd) (b : Binds K fd ["one"] []) (c_pair : CalX P w K mg base 1 "pair" (sp_pair K)) : CalX P w K mg base 2 "is_small" (sp_is_small K) := by
  refine calX D b sc_is_small (fun vs H Q E h => by obtain ⟨v, d, t, b, rfl, _⟩ := h; rfl) fun cdv A outer s H vs Q E hr h => ?_
  obtain ⟨v, d, t, b, rfl, hd, hr', q⟩ := h
  have nd := sc_is_small.nd
  refine ⟨_, (pss_cons (ps_asg (pe_x c_pair hr (by decide) tk0 rfl (pa_cons (pv 0) pa_nil)) (pg_tup rfl (pgs_cons (pg_name (i := 1) nd rfl (Or.inl rfl)) (pgs_cons (pg_name (i := 2) nd rfl (Or.inl rfl)) pgs_nil))))
    (pss_cons (ps_set (i := 3) nd rfl (Or.inl rfl) (pe_op op_pow2 (pe_op op_pow2 pe_int pe_int) pe_int))
    (pss_one (ps_ret (pe_and (pe_cmpR op_lt (pe_callB call_abs rfl Z.abs PyProof.Rows.boot_abs (pa_cons (pv 1) pa_nil)) (pv 3) (nomark _)) (pe_one (pe_cmpR op_lt (pv 2) (pv 3) (nomark _)))))))), ?_⟩
  walk_at "r"
  refine ⟨v, d, t, b, rfl, hd, hr', fun a H1 e1 s1 => ?_⟩
  walk_at "rs"
  refine ⟨_, s1, rfl, _, _, rfl, _, _, rfl, rfl, ⟨by decide, by decide +kernel⟩, ⟨by decide, by decide +kernel⟩, t, rfl, ?_⟩
  have e400 : ((10 : Int) ^ (50 : Int).toNat) ^ (8 : Int).toNat = M400 := by unfold M400; decide +kernel
  rw [e400, abs_if]
  have z := q _ e1
  unfold smallB at z
  by_cases h : (t.natAbs : Int) < M400
  · rw [if_pos (decide_eq_true h)]
    rw [decide_eq_true h] at z
    exact ⟨b, rfl, z⟩
  · rw [if_neg (fun y => h (of_decide_eq_true y))]
    rw [decide_eq_false h] at z
    exact z
/-! ### size_text -/
@[irreducible] def N400 : Nat := 10 ^ 400
theorem M_N : M400 = (N400 : Int) := by unfold M400 N400; decide +kernel
theorem N_log : N400 < 2 ^ 1900 := by unfold N400; decide +kernel
theorem small_top {t b : Int} (h : smallB t b = true) : t.natAbs < N400 := by
  unfold smallB at h
  rw [Bool.and_eq_true, decide_eq_true_eq, M_N] at h
  exact Int.ofNat_lt.mp h.1
theorem small_bot {t b : Int} (h : smallB t b = true) (h0 : 0 < b) : b.natAbs < N400 := by
  unfold smallB at h
  rw [Bool.and_eq_true, decide_eq_true_eq, decide_eq_true_eq, M_N] at h
  have := h.2
  omega
theorem numL_400 {n : Nat} (h : n < N400) : (TL.numL n).length ≤ 400 := TL.numL_len (by decide) (by unfold N400 at h; exact h)
theorem slash : (Str.ofString "/") = SX.S [47] := rfl
theorem log2_lt {n : Int} (h : n.natAbs < N400) : n.natAbs.log2 < 1920 := Nat.lt_of_lt_of_le (PySem.Flt.log2_lt_of (by decide : 0 < 1900) (Nat.lt_trans h N_log)) (by decide)
theorem ratio_pos {d : PyData} {t b : Int} (h : ratioOf d = some (t, b)) : 0 < b := by
  rcases ratio_some h with ⟨_, h⟩ | ⟨_, h, _⟩ <;> omega
def sizeL (t b : Int) : List Nat := if b = 1 then TL.numL t.natAbs else TL.numL t.natAbs ++ 47 :: TL.numL b.natAbs
def sp_size_text (K : PySem.W.Frag) : Sp := fun vs H Q _ => ∃ v d t b, vs = [v] ∧ Dp K H v d ∧ ratioOf d = some (t, b) ∧ smallB t b = true ∧ ∀ H', Same H H' → Q (.str (SX.S (sizeL t b))) H'
theorem ok_size_text (Z : Zb mg) (D : C8.Def K mg "size_text" s_size_text f fd) (b : Binds K fd ["number"] []) (c_pair : CalX P w K mg base 1 "pair" (sp_pair K)) : CalX P w K mg base 2 "size_text" (sp_size_text K) := by
  refine calX D b sc_size_text (fun vs H Q E h => by obtain ⟨v, d, t, b, rfl, _⟩ := h; rfl) fun cdv A outer s H vs Q E hr h => ?_
  obtain ⟨v, d, t, b, rfl, hd, hr', sm, q⟩ := h
  have nd := sc_size_text.nd
  refine ⟨_, (pss_cons (ps_asg (pe_x c_pair hr (by decide) tk0 rfl (pa_cons (pv 0) pa_nil)) (pg_tup rfl (pgs_cons (pg_name (i := 1) nd rfl (Or.inl rfl)) (pgs_cons (pg_name (i := 2) nd rfl (Or.inl rfl)) pgs_nil))))
    (pss_one (ps_ret (pe_ifExp (pt_cmpR op_eq (pv 2) pe_int (nomark _)) (pe_callTy call_str_int rfl Z.str PyProof.Rows.boot_str (pa_cons (pe_callB call_abs rfl Z.abs PyProof.Rows.boot_abs (pa_cons (pv 1) pa_nil)) pa_nil)) (pe_op op_add_str (pe_op op_add_str (pe_callTy call_str_int rfl Z.str PyProof.Rows.boot_str (pa_cons (pe_callB call_abs rfl Z.abs PyProof.Rows.boot_abs (pa_cons (pv 1) pa_nil)) pa_nil)) pe_str) (pe_callTy call_str_int rfl Z.str PyProof.Rows.boot_str (pa_cons (pv 2) pa_nil))))))), ?_⟩
  walk_at "r"
  refine ⟨v, d, t, b, rfl, hd, hr', fun a H1 e1 s1 => ?_⟩
  walk_at "rs"
  refine ⟨_, s1, rfl, _, _, rfl, _, _, rfl, rfl, rfl, ?_⟩
  have zq := q _ e1
  have b0 := ratio_pos hr'
  have ht := small_top sm
  have hb := small_bot sm b0
  walk_at "rs"
  rw [abs_if, Int.natAbs_natCast, SX.num_S]
  have lt : t.natAbs.log2 < 1920 := log2_lt ht
  by_cases h1 : b = 1
  · subst h1
    rw [if_pos (decide_eq_true rfl)]
    unfold sizeL at zq
    rw [if_pos rfl] at zq
    exact ⟨lt, zq⟩
  · rw [if_neg (fun y => h1 (of_decide_eq_true y))]
    have eb : b = ((b.natAbs : Nat) : Int) := by omega
    have h2 := numL_400 ht
    have h3 := numL_400 hb
    have tb : Str.ofString (toString b) = SX.S (TL.numL b.natAbs) := by
      have := SX.num_S b.natAbs
      rw [← eb] at this
      exact this
    rw [slash, SX.S_cat, tb, SX.S_cat, SX.S_len, SX.S_len, SX.S_len, SX.S_len, List.length_append]
    refine ⟨lt, ?_, log2_lt hb, ?_, ?_⟩
    · exact sz (by show _ + 1 ≤ _; omega)
    · exact sz (by show _ + 1 + _ ≤ _; omega)
    · unfold sizeL at zq
      rw [if_neg h1] at zq
      rw [List.append_assoc]
      exact zq
end
end FP
set_option maxHeartbeats 4000000
namespace FP
open PySem PySem.Spec PyProof.Rows L2
local macro_rules | `(tactic| walk_at "rd") => `(tactic| dsimp only [tVar, tC, tCmp, tIsN, tNotN, tB, tAnd, tOr, tNot, tAndV, tOrV, tNotV, tIf, tNext, tSeq, tBreak, tCont, tDrop, tRet, tRetN, tIfS, tNever, tAsg, tPar, tAug, tOp, tUn, tTest, tChain, tFld, tNil, tCons, tTup, tLst, tCB, iList, iTup, iStr, tLc, tM0, tM1, tPart, tNoPart, tSl, tBM, tCallS, tCallSD, WE, tDGet, tDIn, gName, gTup, gCons, gNil, gSub, sFld, sFldAug, rI, rI0, rU, rEq, rNe, rAdd, rSub, t2I, tYes, cx_K, cx_w, cx_prog])
local macro_rules | `(tactic| walk_at "rs") => `(tactic| (try simp only [L2.start, List.map_cons, List.map_nil, List.length_cons, List.length_nil, List.cons_append, List.nil_append, Nat.reduceAdd, Nat.reduceSub, Nat.zero_add, List.replicate, List.getElem?_cons_zero, List.getElem?_cons_succ, Option.some.injEq, exists_eq_left', exists_eq_left, V.int.injEq, V.str.injEq, V.bl.injEq, V.ref.injEq, List.set_cons_zero, List.set_cons_succ, exists_and_left, List.cons.injEq, and_true, true_and, wipe, if_true, if_false, Bool.not_true, Bool.not_false, Bool.false_eq_true, decide_true, decide_false]))
local macro_rules | `(tactic| walk_at "r") => `(tactic| (walk_at "rd"; walk_at "rs"))
local macro_rules | `(tactic| walk_at "T") => `(tactic| (rw [if_pos (by first | assumption | rfl | decide | exact decide_eq_true (by assumption) | (simp [tyOf]; done) | (simp; omega) | omega)]; walk_at "rs"))
local macro_rules | `(tactic| walk_at "F") => `(tactic| (rw [if_neg (by first | assumption | decide | (simp [tyOf]; done) | (simp; omega) | (simp; assumption) | omega)]; walk_at "rs"))
/-! ### data of bounded depth and width -/
def leaf (d : PyData) : Prop := (∀ ds, d ≠ .list ds) ∧ (∀ ds, d ≠ .tuple ds)
def fine : Nat → PyData → Prop
  | 0, d => leaf d
  | n + 1, d => leaf d ∨ ∃ ds, (d = .list ds ∨ d = .tuple ds) ∧ ds.length ≤ 100 ∧ ∀ e, e ∈ ds → fine n e
def asTup : Nat → PyData → PyData
  | 0, d => d
  | n + 1, .list ds => .tuple (ds.map (asTup n))
  | n + 1, .tuple ds => .tuple (ds.map (asTup n))
  | _ + 1, d => d

/-! ### a comprehension's list -/
theorem comp_acc {J : It} {xs : List V} {G : Hp → Prop} {H1 : Hp} {D : Addr} {Rend : Hp → Prop} (w : Walk J xs.length G (YAt xs)) (small : xs.length < sizeLine) (nD : H1 D = none) (B : V → Hp → VK → Prop) (R : Nat → V → Hp → Prop)
    (hG : ∀ H, But (· = D) (upd H1 D (.lst [])) H → G H)
    (hup : ∀ i v H H' acc, H D = some (.lst acc) → But (· = D) H H' → R i v H → R i v H')
    (hs : ∀ i x H Q, xs[i]? = some x → But (· = D) (upd H1 D (.lst [])) H → (∀ y H', Same H H' → R i y H' → Q y H') → B x H Q)
    (hd : ∀ H ys, But (· = D) (upd H1 D (.lst [])) H → H D = some (.lst ys) → ys.length = xs.length → (∀ i y, ys[i]? = some y → R i y H) → Rend H) :
    ∃ W : Nat → Nat → Hp → Prop, (∃ m, W 0 m (upd H1 D (.lst []))) ∧ ∀ i m H, W i m H →
      (J.stop i H ∧ Rend H) ∨ (J.go i H ∧ ∃ Nx : Hp → Prop, (∀ H', Nx H' → ∃ m', m' < m ∧ W (i + 1) m' H') ∧ ∀ x H', J.yld i H x H' →
        B x H' fun y H4 => ∃ acc, H4 D = some (.lst acc) ∧ acc.length < sizeLine ∧ Nx (upd H4 D (.lst (acc ++ [y])))) := by
  refine ⟨fun i m H => m = xs.length - i ∧ i ≤ xs.length ∧ But (· = D) (upd H1 D (.lst [])) H ∧ ∃ ys, H D = some (.lst ys) ∧ ys.length = i ∧ ∀ k y, ys[k]? = some y → R k y H, ⟨xs.length, by simp, Nat.zero_le _, But.refl _ _, [], upd_same, rfl, fun k y h => by simp at h⟩, ?_⟩
  rintro i m H ⟨rfl, hi, e, ys, hD, hl, hR⟩
  have q := hG H e
  by_cases hlt : i < xs.length
  · refine .inr ⟨w.goes i H hlt q, fun H' => But (· = D) (upd H1 D (.lst [])) H' ∧ ∃ ys, H' D = some (.lst ys) ∧ ys.length = i + 1 ∧ ∀ k y, ys[k]? = some y → R k y H', fun H' p' => ⟨xs.length - (i + 1), by omega, rfl, hlt, p'⟩, fun x H' y => ?_⟩
    obtain ⟨rfl, hy⟩ := w.yields i H x H' hlt q y
    refine hs i x H' _ hy e fun v H4 e4 r => ⟨ys, e4 _ _ hD, by omega, ?_, ys ++ [v], upd_same, by simp [hl], ?_⟩
    · exact e.trans ((Same.but e4).trans (But.upd rfl))
    · intro k y hk
      by_cases hk1 : k < ys.length
      · rw [List.getElem?_append_left hk1] at hk
        exact hup k y H' _ ys hD ((Same.but e4).trans (But.upd rfl)) (hR k y hk)
      · rw [List.getElem?_append_right (by omega)] at hk
        have : k = ys.length := by
          have := List.getElem?_eq_some_iff.mp hk
          obtain ⟨h, _⟩ := this
          simp at h; omega
        subst this
        simp at hk
        subst hk
        rw [hl]
        exact hup i v H4 _ ys (e4 _ _ hD) (But.upd rfl) r
  · have e1 : i = xs.length := by omega
    subst e1
    exact .inl ⟨w.stops H q, hd H ys e hD hl hR⟩
theorem DpAll.of_get {K : PySem.W.Frag} {H : Hp} : ∀ {xs : List V} {ds : List PyData}, xs.length = ds.length → (∀ (i : Nat) v d, xs[i]? = some v → ds[i]? = some d → Dp K H v d) → DpAll K H xs ds
  | [], [], _, _ => .nil
  | [], _ :: _, h, _ => by simp at h
  | _ :: _, [], h, _ => by simp at h
  | v :: vs, d :: ds, h, g => .cons (g 0 v d rfl rfl) (DpAll.of_get (by simpa using h) fun i v d h1 h2 => g (i + 1) v d (by simpa using h1) (by simpa using h2))
theorem DpAll.getV {K : PySem.W.Frag} {H : Hp} : ∀ {xs : List V} {ds : List PyData} {i : Nat} {v : V}, DpAll K H xs ds → xs[i]? = some v → ∃ d, ds[i]? = some d ∧ Dp K H v d
  | _, _, _, _, .nil, h => by simp at h
  | _, _, 0, _, .cons h _, e => by simp at e; subst e; exact ⟨_, rfl, h⟩
  | _, _, i + 1, _, .cons _ t, e => by
    obtain ⟨v, h1, h2⟩ := DpAll.getV (i := i) t (by simpa using e)
    exact ⟨v, by simpa using h1, h2⟩
/-- the list that is made: neither a tuple nor frozen -/
theorem noTupD {H : Hp} {D : Addr} {acc : List V} (h : H D = some (.lst acc)) : NoTup H (· = D) := noTup1 h (fun _ => by simp) (fun _ _ => by simp)
/-- no dict within -/
theorem Dp.nol_leaf {K : PySem.W.Frag} {H : Hp} {v : V} {d : PyData} (h : Dp K H v d) (l : leaf d) : Nol d := by
  cases h with
  | non => exact .non
  | bl b => exact .bl b
  | int i => exact .int i
  | str x => exact .str x
  | lst _ _ => exact absurd rfl (l.1 _)
  | tup _ _ => exact absurd rfl (l.2 _)
section
variable {P : Program} {w : World} {K : PySem.W.Frag} {mg : Str → Option Value} {base : Heap} {f : Addr} {fd : FuncData}
/-! ### as_tuples -/
def sp_as_tuples (K : PySem.W.Frag) (n : Nat) : Sp := fun vs H Q _ => ∃ v d, vs = [v] ∧ Dp K H v d ∧ fine n d ∧ ∀ v' H', Same H H' → Dp K H' v' (asTup n d) → Nol (asTup n d) → Q v' H'
theorem as_comp {J : It} {xs : List V} {ds : List PyData} {G : Hp → Prop} {H1 : Hp} {n : Nat} {Q : VK} {D : Addr} (w : Walk J xs.length G (YAt xs)) (nD : H1 D = none) (hG : ∀ H', But (· = D) (upd H1 D (.lst [])) H' → G H') (al : DpAll K H1 xs ds) (hw : ds.length ≤ 100) (hin : ∀ e, e ∈ ds → fine n e) (E : V → XK)
    (q : ∀ v' H', Same H1 H' → Dp K H' v' (.tuple (ds.map (asTup n))) → Nol (.tuple (ds.map (asTup n))) → Q v' H') :
    ∃ W : Nat → Nat → Hp → Prop, (∃ m, W 0 m (upd H1 D (.lst []))) ∧ ∀ i m H, W i m H →
      (J.stop i H ∧ ∃ x, (SqL K H D x ∧ ∀ (l : Addr), H l = none → Q (V.ref l) (upd H l (HO.tup x))) ∨ SqT K H D x ∧ Q (V.ref D) H) ∨ (J.go i H ∧ ∃ Nx : Hp → Prop, (∀ H', Nx H' → ∃ m', m' < m ∧ W (i + 1) m' H') ∧ ∀ x H', J.yld i H x H' →
        sp_as_tuples K n [x] H' (fun y H4 => ∃ acc, H4 D = some (.lst acc) ∧ acc.length < sizeLine ∧ Nx (upd H4 D (.lst (acc ++ [y])))) (E x)) := by
  have hl := DpAll.length al
  refine comp_acc (B := fun x H Q => sp_as_tuples K n [x] H Q (E x)) w (szL (by omega)) nD (fun i v H => ∃ d, ds[i]? = some d ∧ Dp K H v (asTup n d) ∧ Nol (asTup n d)) hG ?_ ?_ ?_
  · rintro i v H1 H2 acc hD e2 ⟨d, hd, dp, nl⟩
    exact ⟨d, hd, Dp.but (noTupD hD) e2 nl dp, nl⟩
  · intro i x H2 Q1 hx e2 q1
    obtain ⟨d, hd, dp⟩ := DpAll.getV al hx
    exact ⟨x, d, rfl, Dp.same (Same.of_but nD e2) dp, hin d (List.mem_of_getElem? hd), fun v' H' e dp' nl => q1 v' H' e ⟨d, hd, dp', nl⟩⟩
  · intro H2 ys e2 hD hl2 hR
    refine ⟨ys, .inl ⟨.inl (.inl hD), fun l nl => ?_⟩⟩
    have e3 := same_new nl (.tup ys)
    refine q (.ref l) _ ((Same.of_but nD e2).trans e3) (.tup (.inl (.inl upd_same)) (DpAll.of_get (by simp; omega) fun i v d hv hd => ?_)) (.tup fun d hd => ?_)
    · obtain ⟨d', hd', dp, nl⟩ := hR i v hv
      rw [List.getElem?_map, hd'] at hd
      cases hd
      exact Dp.same e3 dp
    · obtain ⟨e, he, rfl⟩ := List.mem_map.mp hd
      obtain ⟨i, hi⟩ := List.getElem?_of_mem he
      have hi2 : i < ys.length := by
        have := (List.getElem?_eq_some_iff.mp hi).1
        omega
      obtain ⟨d', hd', dp, nl⟩ := hR i _ (List.getElem?_eq_getElem hi2)
      rw [hi] at hd'
      cases hd'
      exact nl
theorem ok_as_tuples (Z : Zb mg) (D : C8.Def K mg "as_tuples" s_as_tuples f fd) (b : Binds K fd ["value"] []) {n : Nat} (c_as_tuples : 0 < n → CalX P w K mg base n "as_tuples" (sp_as_tuples K (n - 1))) : CalX P w K mg base (n + 1) "as_tuples" (sp_as_tuples K n) := by
  have nd := sc_as_tuples.nd
  match n, c_as_tuples with
  | 0, _ =>
    refine calX D b sc_as_tuples (fun vs H Q E h => by obtain ⟨v, d, rfl, _⟩ := h; rfl) fun cdv A outer s H vs Q E hr h => ?_
    obtain ⟨v, d, rfl, hd, fd, q⟩ := h
    refine ⟨_, pss_cons (ps_if (pt_val (pe_callB call_isiT rfl Z.isinstance PyProof.Rows.boot_isinstance (pa_cons (pv 0) (pa_cons (pe_tup (pa_cons (pe_ty rfl Z.list PyProof.Rows.boot_list) (pa_cons (pe_ty rfl Z.tuple PyProof.Rows.boot_tuple) pa_nil))) pa_nil)))) pss_never pss_nil) (pss_one (ps_ret (pv 0))), ?_⟩
    walk_at "r"
    refine ⟨sz (by decide), fun p hp => isi_lt (Kd.up (Dp.kd hd) hp) upd_same ?_⟩
    have e : (tyOf d == "list" || tyOf d == "tuple") = false := by
      cases d <;> first | rfl | exact absurd rfl (fd.1 _) | exact absurd rfl (fd.2 _)
    rw [e]
    walk_at "rs"
    exact q v _ (same_new hp _) (Dp.same (same_new hp _) hd) (Dp.nol_leaf hd fd)
  | n + 1, c =>
    have c_as_tuples : CalX P w K mg base (n + 1) "as_tuples" (sp_as_tuples K n) := c (Nat.succ_pos _)
    refine calX D b sc_as_tuples (fun vs H Q E h => by obtain ⟨v, d, rfl, _⟩ := h; rfl) fun cdv A outer s H vs Q E hr h => ?_
    obtain ⟨v, d, rfl, hd, fd, q⟩ := h
    have hk := Nat.le_refl (n + 1)
    refine ⟨_, (pss_cons (ps_if (pt_val (pe_callB call_isiT rfl Z.isinstance PyProof.Rows.boot_isinstance (pa_cons (pv 0) (pa_cons (pe_tup (pa_cons (pe_ty rfl Z.list PyProof.Rows.boot_list) (pa_cons (pe_ty rfl Z.tuple PyProof.Rows.boot_tuple) pa_nil))) pa_nil)))) (pss_one (ps_ret (pe_callTy call_tuple_of rfl Z.tuple PyProof.Rows.boot_tuple (pa_cons (pe_lc (own := [("one", 1)]) rfl nd (pi_seq (pv 0)) (blkOk_by (N := ["value", "one"]) (sc := C8.fnScope s_as_tuples) (by decide +kernel)) (fun _ _ _ _ _ => (pg_name (i := 1) nd rfl (Or.inl rfl))) (fun _ _ _ _ _ => pts_nil) (fun _ _ _ _ _ => (pe_x c_as_tuples hr hk tk0 rfl (pa_cons (pv 1) pa_nil)))) pa_nil)))) pss_nil)
    (pss_one (ps_ret (pv 0)))), ?_⟩
    walk_at "r"
    refine ⟨sz (by decide), fun p hp => isi_lt (Kd.up (Dp.kd hd) hp) upd_same ?_⟩
    have e0 := same_new hp (.tup [.ty "list", .ty "tuple"])
    have hd0 := Dp.same e0 hd
    rcases fd with fd | ⟨ds, hds, hw, hin⟩
    · have e : (tyOf d == "list" || tyOf d == "tuple") = false := by
        cases d <;> first | rfl | exact absurd rfl (fd.1 _) | exact absurd rfl (fd.2 _)
      rw [e]
      walk_at "rs"
      have e2 : asTup (n + 1) d = d := by cases d <;> first | rfl | exact absurd rfl (fd.1 _) | exact absurd rfl (fd.2 _)
      exact q v _ e0 (by rw [e2]; exact hd0) (by rw [e2]; exact Dp.nol_leaf hd fd)
    · have e : (tyOf d == "list" || tyOf d == "tuple") = true := by
        rcases hds with rfl | rfl <;> rfl
      rw [e]
      walk_at "rs"
      rcases hds with rfl | rfl
      · obtain ⟨a, xs, rfl, hq, al⟩ := Dp.lstI hd0
        refine .inl ⟨a, rfl, ⟨xs, hq⟩, fun D nD => ?_⟩
        exact as_comp walk_list nD (fun H' e => (Same.of_but nD e).seq hq) al hw hin _ fun v' H' e' d' n' => q v' H' (e0.trans e') d' n'
      · obtain ⟨a, xs, rfl, hq, al⟩ := Dp.tupI hd0
        refine .inr ⟨a, rfl, ⟨xs, hq⟩, fun D nD => ?_⟩
        exact as_comp walk_tup nD (fun H' e => SqT.same (Same.of_but nD e) hq) al hw hin _ fun v' H' e' d' n' => q v' H' (e0.trans e') d' n'
end
end FP
set_option maxHeartbeats 4000000
namespace FP
open PySem PySem.Spec PyProof.Rows L2
local macro_rules | `(tactic| walk_at "rd") => `(tactic| dsimp only [tVar, tC, tCmp, tIsN, tNotN, tB, tAnd, tOr, tNot, tAndV, tOrV, tNotV, tIf, tNext, tSeq, tBreak, tCont, tDrop, tRet, tRetN, tIfS, tNever, tAsg, tPar, tAug, tOp, tUn, tTest, tChain, tFld, tNil, tCons, tTup, tLst, tCB, iList, iTup, iStr, tLc, tM0, tM1, tPart, tNoPart, tSl, tBM, tCallS, tCallSD, WE, tDGet, tDIn, gName, gTup, gCons, gNil, gSub, sFld, sFldAug, rI, rI0, rU, rEq, rNe, rAdd, rSub, t2I, tYes, cx_K, cx_w, cx_prog])
local macro_rules | `(tactic| walk_at "rs") => `(tactic| (try simp only [L2.start, List.map_cons, List.map_nil, List.length_cons, List.length_nil, List.cons_append, List.nil_append, Nat.reduceAdd, Nat.reduceSub, Nat.zero_add, List.replicate, List.getElem?_cons_zero, List.getElem?_cons_succ, Option.some.injEq, exists_eq_left', exists_eq_left, V.int.injEq, V.str.injEq, V.bl.injEq, V.ref.injEq, List.set_cons_zero, List.set_cons_succ, exists_and_left, List.cons.injEq, and_true, true_and, wipe, if_true, if_false, Bool.not_true, Bool.not_false, Bool.false_eq_true, decide_true, decide_false]))
local macro_rules | `(tactic| walk_at "r") => `(tactic| (walk_at "rd"; walk_at "rs"))
local macro_rules | `(tactic| walk_at "T") => `(tactic| (rw [if_pos (by first | assumption | rfl | decide | exact decide_eq_true (by assumption) | (simp [tyOf]; done) | (simp; omega) | omega)]; walk_at "rs"))
local macro_rules | `(tactic| walk_at "F") => `(tactic| (rw [if_neg (by first | assumption | decide | (simp [tyOf]; done) | (simp; omega) | (simp; assumption) | omega)]; walk_at "rs"))
section
variable {P : Program} {w : World} {K : PySem.W.Frag} {mg : Str → Option Value} {base : Heap} {f : Addr} {fd : FuncData}
theorem CalX.none {x : Str} {st : Stmt} {ps : List Str} (D : C8.Def K mg x st f fd) (b : Binds K fd ps []) (k : Nat) : CalX P w K mg base k x (fun _ _ _ _ => False) :=
  ⟨f, fd, ps, ⟨fun _ _ _ _ h => h.elim, fun _ _ _ _ _ _ _ _ _ _ _ _ _ h => h.elim⟩, D.mgf, D.kp, b⟩
structure CalD (P : Program) (w : World) (K : PySem.W.Frag) (mg : Str → Option Value) (base : Heap) (k : Nat) (x : Str) (dvs : List V) (sp : Sp) : Prop where
  ex : ∃ (f : Addr) (fd : FuncData) (ps : List Str) (ds : List Value), FnOk P w K mg base (L2N.CX P w) k f fd ps sp ∧ mg x = some (.ref f) ∧ PySem.W.keepIn K (.ref f) = true ∧ Binds K fd ps [] ∧ Vals dvs ds ∧ Binds K fd ps ds
theorem CalD.cal {k : Nat} {x : Str} {dvs : List V} {sp : Sp} (c : CalD P w K mg base k x dvs sp) : CalX P w K mg base k x sp := by
  obtain ⟨f, fd, ps, ds, F, m, kp, b, _, _⟩ := c.ex
  exact ⟨f, fd, ps, F, m, kp, b⟩
end
section
variable {X : Cx} {k j : Nat} {x : Str} {dvs : List V} {sp : Sp} {W : WX} {p pos : Pos} {e : Expr} {es : List Expr} {t : TA}
theorem pe_xD (c : CalD X.prog X.w X.K X.mg X.base k x dvs sp) (hr : Room j X.A) (hk : k ≤ j) (tk : L2N.Takes X W) (hg : Gl X x) (ha : PA X (e :: es) t)
    (hdb : (x == ("__debug__" : Str)) = false := by decide) (he : starEach (e :: es) X.env = (false, eval e X.env) :: starEach es X.env := by rfl) (hpl : (backTo pos (starEach es X.env)).any (·.1) = false := by rfl) :
    PE X (.Call (.Name x p) (e :: es) [] pos) (tCallSD sp dvs (WE W) t) := by
  obtain ⟨f, fd, ps, ds, F, hm, kp, _, d, b⟩ := c.ex
  exact pe_callSD F (hr.mono hk) hg hm kp b d (L2N.passAt tk) ha hdb he hpl
end
/-- a comprehension of truth values -/
theorem comp_bl {J : It} {xs : List V} {G : Hp → Prop} {H1 : Hp} {D : Addr} {Rend : Hp → Prop} (w : Walk J xs.length G (YAt xs)) (small : xs.length < sizeLine) (nD : H1 D = none) (B : V → Hp → VK → Prop) (bs : List Bool) (hl : bs.length = xs.length)
    (hG : ∀ H, But (· = D) (upd H1 D (.lst [])) H → G H)
    (hs : ∀ (i : Nat) x b H Q, xs[i]? = some x → bs[i]? = some b → Same H1 H → (∀ H', Same H H' → Q (.bl b) H') → B x H Q)
    (hd : ∀ H, Same H1 H → H D = some (.lst (bs.map V.bl)) → Rend H) :
    ∃ W : Nat → Nat → Hp → Prop, (∃ m, W 0 m (upd H1 D (.lst []))) ∧ ∀ i m H, W i m H →
      (J.stop i H ∧ Rend H) ∨ (J.go i H ∧ ∃ Nx : Hp → Prop, (∀ H', Nx H' → ∃ m', m' < m ∧ W (i + 1) m' H') ∧ ∀ x H', J.yld i H x H' →
        B x H' fun y H4 => ∃ acc, H4 D = some (.lst acc) ∧ acc.length < sizeLine ∧ Nx (upd H4 D (.lst (acc ++ [y])))) := by
  refine comp_acc w small nD B (fun i v H => ∃ b, bs[i]? = some b ∧ v = .bl b) hG (fun i v H H' acc _ _ h => h) ?_ ?_
  · intro i x H Q hx e q
    have hi : i < bs.length := by
      have := (List.getElem?_eq_some_iff.mp hx).1
      omega
    exact hs i x bs[i] H Q hx (List.getElem?_eq_getElem hi) (Same.of_but nD e) fun H' e' => q _ H' e' ⟨_, List.getElem?_eq_getElem hi, rfl⟩
  · intro H ys e hD hl2 hR
    refine hd H (Same.of_but nD e) ?_
    rw [hD]
    congr 2
    refine List.ext_getElem? fun i => ?_
    rw [List.getElem?_map]
    by_cases hi : i < ys.length
    · obtain ⟨b, h1, h2⟩ := hR i _ (List.getElem?_eq_getElem hi)
      rw [List.getElem?_eq_getElem hi, h1, h2]; rfl
    · rw [List.getElem?_eq_none (by omega), List.getElem?_eq_none (by omega)]; rfl
/-! ### is_plain -/
def plB : Nat → PyData → Bool
  | n, d => match ratioOf d with
    | some (t, b) => smallB t b
    | none => match n, d with
      | n + 1, .list ds => ds.all (plB n)
      | n + 1, .tuple ds => ds.all (plB n)
      | _, _ => false
theorem plB_ratio {n : Nat} {d : PyData} {t b : Int} (h : ratioOf d = some (t, b)) : plB n d = smallB t b := by
  unfold plB; rw [h]
theorem plB_leaf {n : Nat} {d : PyData} (h : ratioOf d = none) (l : leaf d) : plB n d = false := by
  unfold plB; rw [h]
  cases n <;> cases d <;> first | rfl | exact absurd rfl (l.1 _) | exact absurd rfl (l.2 _)
theorem plB_seq {n : Nat} {d : PyData} {ds : List PyData} (h : ratioOf d = none) (l : d = .list ds ∨ d = .tuple ds) : plB (n + 1) d = ds.all (plB n) := by
  rcases l with rfl | rfl
  · rfl
  · rw [plB.eq_def]
    show (match ratioOf (PyData.tuple ds) with | some (t, b) => smallB t b | none => _) = _
    rw [h]
section
variable {P : Program} {w : World} {K : PySem.W.Frag} {mg : Str → Option Value} {base : Heap} {f : Addr} {fd : FuncData}
def sp_is_plain (K : PySem.W.Frag) (n : Nat) : Sp := fun vs H Q _ => ∃ v k, vs = [v, .int k] ∧ 0 ≤ k ∧ k + n ≤ 50 ∧ ((∃ d, Dp K H v d ∧ fine n d ∧ ∀ H', Same H H' → Q (.bl (plB n d)) H') ∨ (∃ t, Kd K H v t ∧ (t == "tuple") = false ∧ (t == "list") = false ∧ (t == "int") = false ∧ ∀ H', Same H H' → Q (.bl false) H'))
theorem fn_is_plain (Z : Zb mg) (D : C8.Def K mg "is_plain" s_is_plain f fd) {n : Nat} (G_MOST_DEEP : ∃ t, mg "MOST_DEEP" = some (.int 50 t)) (c_is_ratio : CalX P w K mg base 2 "is_ratio" (sp_is_ratio K)) (c_is_small : CalX P w K mg base 2 "is_small" (sp_is_small K)) (c_is_list : CalX P w K mg base 1 "is_list" (sp_is_list K)) (c_is_plain : CalX P w K mg base (n + 2) "is_plain" (fun vs H Q E => 0 < n ∧ sp_is_plain K (n - 1) vs H Q E)) : FnOk P w K mg base (L2N.CX P w) (n + 3) f fd ["value", "deep"] (sp_is_plain K n) := by
  have nd := sc_is_plain.nd
  refine fnX D.fn sc_is_plain (fun vs H Q E h => by obtain ⟨v, k, rfl, _⟩ := h; rfl) fun cdv A outer s H vs Q E hr h => ?_
  obtain ⟨v, k, rfl, k0, kn, h⟩ := h
  refine ⟨_, (pss_cons (ps_if (pt_val (pe_x c_is_ratio hr (by(omega)) tk0 rfl (pa_cons (pv 0) pa_nil))) (pss_one (ps_ret (pe_x c_is_small hr (by(omega)) tk0 rfl (pa_cons (pv 0) pa_nil)))) pss_nil)
    (pss_one (ps_ret (pe_and (pe_x c_is_list hr (by(omega)) tk0 rfl (pa_cons (pv 0) pa_nil)) (pe_and (pe_cmpR op_lt (pv 1) (pe_ci rfl G_MOST_DEEP) (nomark _)) (pe_one (pe_callB (cr_all rfl) rfl Z.all PyProof.Rows.boot_all (pa_cons (pe_lc (own := [("one", 2)]) rfl nd (pi_seq (pv 0)) (blkOk_by (N := ["value", "deep", "one"]) (sc := C8.fnScope s_is_plain) (by decide +kernel)) (fun _ _ _ _ _ => (pg_name (i := 2) nd rfl (Or.inl rfl))) (fun _ _ _ _ _ => pts_nil) (fun _ _ _ _ _ => (pe_x c_is_plain hr (by(omega)) tk0 rfl (pa_cons (pv 2) (pa_cons (pe_op op_add (pv 1) pe_int) pa_nil))))) pa_nil)))))))), ?_⟩
  walk_at "r"
  rcases h with ⟨d, hd, fd, q⟩ | ⟨t, kd, n1, n2, n3, q⟩
  · refine ⟨v, rfl, .inl ⟨d, hd, ?_⟩⟩
    cases hr' : ratioOf d with
    | some tb =>
      obtain ⟨t, b⟩ := tb
      rw [plB_ratio hr'] at q
      refine ⟨true, rfl, ?_⟩
      walk_at "T"
      exact ⟨v, d, t, b, rfl, hd, hr', q⟩
    | none =>
      refine ⟨false, rfl, ?_⟩
      walk_at "F"
      refine ⟨v, _, rfl, Dp.kd hd, fun H1 e1 => ?_⟩
      walk_at "rs"
      by_cases hl : leaf d
      · have e : (tyOf d == "list" || tyOf d == "tuple") = false := by
          cases d <;> first | rfl | exact absurd rfl (hl.1 _) | exact absurd rfl (hl.2 _)
        rw [plB_leaf hr' hl] at q
        rw [e]
        walk_at "F"
        exact q _ e1
      · obtain ⟨n, ds, rfl, hds, hw, hin⟩ : ∃ n' ds, n = n' + 1 ∧ (d = .list ds ∨ d = .tuple ds) ∧ ds.length ≤ 100 ∧ ∀ e, e ∈ ds → fine n' e := by
          cases n with
          | zero => exact absurd fd hl
          | succ n =>
            rcases fd with h | ⟨ds, h1, h2, h3⟩
            · exact absurd h hl
            · exact ⟨n, ds, rfl, h1, h2, h3⟩
        have e : (tyOf d == "list" || tyOf d == "tuple") = true := by
          rcases hds with rfl | rfl <;> rfl
        rw [plB_seq hr' hds] at q
        rw [e]
        walk_at "T"
        rw [if_pos (decide_eq_true (show k < 50 by omega))]
        have bs_ok : ∀ (xs : List V), DpAll K H xs ds → ∀ (i : Nat) x b H' (Q : VK) E, xs[i]? = some x → (ds.map (plB n))[i]? = some b → Same H1 H' → (∀ H'', Same H' H'' → Q (.bl b) H'') → (0 < n + 1 ∧ sp_is_plain K (n + 1 - 1) [x, .int (k + 1)] H' Q E) := by
          intro xs al i x b H' Q E hx hb e' q'
          obtain ⟨d, hd, dp⟩ := DpAll.getV al hx
          rw [List.getElem?_map, hd] at hb
          cases hb
          exact ⟨Nat.succ_pos _, x, _, rfl, by omega, by show k + 1 + ((n : Nat) : Int) ≤ 50; omega, .inl ⟨d, Dp.same (e1.trans e') dp, hin d (List.mem_of_getElem? hd), q'⟩⟩
        have fin : ∀ (D : Addr), H1 D = none → ∀ H', Same H1 H' → H' D = some (.lst ((ds.map (plB n)).map V.bl)) → rAll K [.ref D] H' Q := by
          intro D nD H' e' hD
          refine ⟨D, _, rfl, .inl (.inl hD), ?_⟩
          have z := q _ (e1.trans e')
          rw [List.all_map]
          exact z
        rcases hds with rfl | rfl
        · obtain ⟨a, xs, rfl, hq, al⟩ := Dp.lstI hd
          have hl := DpAll.length al
          exact .inl ⟨a, rfl, ⟨xs, e1.seq hq⟩, fun D nD => comp_bl walk_list (szL (by omega)) nD (B := fun x H Q => 0 < n + 1 ∧ sp_is_plain K (n + 1 - 1) [x, .int (k + 1)] H Q _) (ds.map (plB n)) (by simp [hl]) (fun H' e => (Same.of_but nD e).seq (e1.seq hq)) (fun i x b H' Q hx hb e' q' => bs_ok xs al i x b H' Q _ hx hb e' q') (fin D nD)⟩
        · obtain ⟨a, xs, rfl, hq, al⟩ := Dp.tupI hd
          have hl := DpAll.length al
          exact .inr ⟨a, rfl, ⟨xs, SqT.same e1 hq⟩, fun D nD => comp_bl walk_tup (szL (by omega)) nD (B := fun x H Q => 0 < n + 1 ∧ sp_is_plain K (n + 1 - 1) [x, .int (k + 1)] H Q _) (ds.map (plB n)) (by simp [hl]) (fun H' e => SqT.same (Same.of_but nD e) (SqT.same e1 hq)) (fun i x b H' Q hx hb e' q' => bs_ok xs al i x b H' Q _ hx hb e' q') (fin D nD)⟩
  · refine ⟨v, rfl, .inr ⟨t, kd, n1, ?_⟩⟩
    rw [n3]
    refine ⟨false, rfl, ?_⟩
    walk_at "F"
    refine ⟨v, _, rfl, kd, fun H1 e1 => ?_⟩
    walk_at "rs"
    rw [n1, n2]
    walk_at "F"
    exact q _ e1
/-- by induction on the nesting -/
theorem ok_is_plain (Z : Zb mg) (D : C8.Def K mg "is_plain" s_is_plain f fd) (b2 : Binds K fd ["value", "deep"] []) {ds : List Value} (hd : Vals [.int 0] ds) (b1 : Binds K fd ["value", "deep"] ds) (G_MOST_DEEP : ∃ t, mg "MOST_DEEP" = some (.int 50 t)) (c_is_ratio : CalX P w K mg base 2 "is_ratio" (sp_is_ratio K)) (c_is_small : CalX P w K mg base 2 "is_small" (sp_is_small K)) (c_is_list : CalX P w K mg base 1 "is_list" (sp_is_list K)) :
    ∀ n, CalD P w K mg base (n + 3) "is_plain" [.int 0] (sp_is_plain K n)
  | 0 => ⟨f, fd, _, ds, fn_is_plain Z D G_MOST_DEEP c_is_ratio c_is_small c_is_list ((CalX.none D b2 _).imp fun _ _ _ _ h => absurd h.1 (Nat.lt_irrefl 0)), D.mgf, D.kp, b2, hd, b1⟩
  | n + 1 => ⟨f, fd, _, ds, fn_is_plain Z D G_MOST_DEEP c_is_ratio c_is_small c_is_list ((ok_is_plain Z D b2 hd b1 G_MOST_DEEP c_is_ratio c_is_small c_is_list n).cal.imp fun _ _ _ _ h => h.2), D.mgf, D.kp, b2, hd, b1⟩
end
end FP
set_option maxHeartbeats 4000000
namespace FP
open PySem PySem.Spec PyProof.Rows L2
local macro_rules | `(tactic| walk_at "rd") => `(tactic| dsimp only [tVar, tC, tCmp, tIsN, tNotN, tB, tAnd, tOr, tNot, tAndV, tOrV, tNotV, tIf, tNext, tSeq, tBreak, tCont, tDrop, tRet, tRetN, tIfS, tNever, tAsg, tPar, tAug, tOp, tUn, tTest, tChain, tFld, tNil, tCons, tTup, tLst, tCB, iList, iTup, iStr, tLc, tM0, tM1, tPart, tNoPart, tSl, tBM, tCallS, tCallSD, WE, tDGet, tDIn, gName, gTup, gCons, gNil, gSub, sFld, sFldAug, rI, rI0, rU, rEq, rNe, rAdd, rSub, t2I, tYes, cx_K, cx_w, cx_prog])
local macro_rules | `(tactic| walk_at "rs") => `(tactic| (try simp only [L2.start, List.map_cons, List.map_nil, List.length_cons, List.length_nil, List.cons_append, List.nil_append, Nat.reduceAdd, Nat.reduceSub, Nat.zero_add, List.replicate, List.getElem?_cons_zero, List.getElem?_cons_succ, Option.some.injEq, exists_eq_left', exists_eq_left, V.int.injEq, V.str.injEq, V.bl.injEq, V.ref.injEq, List.set_cons_zero, List.set_cons_succ, exists_and_left, List.cons.injEq, and_true, true_and, wipe, if_true, if_false, Bool.not_true, Bool.not_false, Bool.false_eq_true, decide_true, decide_false]))
local macro_rules | `(tactic| walk_at "r") => `(tactic| (walk_at "rd"; walk_at "rs"))
local macro_rules | `(tactic| walk_at "T") => `(tactic| (rw [if_pos (by first | assumption | rfl | decide | exact decide_eq_true (by assumption) | (simp [tyOf]; done) | (simp; omega) | omega)]; walk_at "rs"))
local macro_rules | `(tactic| walk_at "F") => `(tactic| (rw [if_neg (by first | assumption | decide | (simp [tyOf]; done) | (simp; omega) | (simp; assumption) | omega)]; walk_at "rs"))
/-! ### the text of data -/
def textV : Nat → PyData → List Nat
  | n, d => match ratioOf d with
    | some (t, b) => (if t < 0 then [45] else []) ++ sizeL t b
    | none => match n, d with
      | n + 1, .tuple [e] => 40 :: (textV n e ++ [44, 41])
      | n + 1, .tuple ds => 40 :: (TL.joinL [44, 32] (ds.map (textV n)) ++ [41])
      | _, _ => []
/-- tuples, ratios at the leaves -/
inductive Tw : Nat → PyData → Prop
  | rat {n : Nat} {d : PyData} {t b : Int} : ratioOf d = some (t, b) → smallB t b = true → Tw n d
  | tup {n : Nat} {ds : List PyData} : ratioOf (.tuple ds) = none → (∀ d, d ∈ ds → Tw n d) → ds.length ≤ 100 → Tw (n + 1) (.tuple ds)
theorem textV_rat {n : Nat} {d : PyData} {t b : Int} (h : ratioOf d = some (t, b)) : textV n d = (if t < 0 then [45] else []) ++ sizeL t b := by
  unfold textV; rw [h]
theorem textV_one {n : Nat} {e : PyData} : textV (n + 1) (.tuple [e]) = 40 :: (textV n e ++ [44, 41]) := by
  have h : ratioOf (.tuple [e]) = none := by cases e <;> rfl
  rw [textV.eq_def]
  show (match ratioOf (.tuple [e]) with | some (t, b) => _ | none => _) = _
  rw [h]
theorem textV_tup {n : Nat} {ds : List PyData} (h : ratioOf (.tuple ds) = none) (hl : ds.length ≠ 1) : textV (n + 1) (.tuple ds) = 40 :: (TL.joinL [44, 32] (ds.map (textV n)) ++ [41]) := by
  rw [textV.eq_def]
  show (match ratioOf (.tuple ds) with | some (t, b) => _ | none => _) = _
  rw [h]
  match ds, hl with
  | [], _ => rfl
  | [_], h => exact absurd rfl h
  | _ :: _ :: _, _ => rfl
theorem joinL_len (S : List Nat) : ∀ ps : List (List Nat), (ps.map (·.length)).sum ≤ (TL.joinL S ps).length
  | [] => Nat.le_refl _
  | [p] => by show p.length + 0 ≤ _; exact Nat.le_refl _
  | p :: q :: r => by
    have h := joinL_len S (q :: r)
    show p.length + ((q :: r).map (·.length)).sum ≤ (p ++ (S ++ TL.joinL S (q :: r))).length
    rw [List.length_append, List.length_append]
    omega
theorem le_sum {p : Nat} : ∀ {ps : List Nat}, p ∈ ps → p ≤ ps.sum
  | _ :: ps, .head _ => by simp
  | _ :: ps, .tail _ h => by have := le_sum h; simp; omega
theorem l_open : (Str.ofString "(") = SX.S [40] := rfl
theorem l_close : (Str.ofString ")") = SX.S [41] := rfl
theorem l_close1 : (Str.ofString ",)") = SX.S [44, 41] := rfl
theorem l_cs : (Str.ofString ", ") = SX.S [44, 32] := rfl
theorem l_minus : (Str.ofString "-") = SX.S [45] := rfl
theorem l_empty : (Str.ofString "") = SX.S [] := rfl
theorem S_cat (a b : List Nat) : SX.S a ++ SX.S b = SX.S (a ++ b) := SX.S_cat a b
theorem S_len (a : List Nat) : (SX.S a).length = a.length := SX.S_len a
theorem sizeL_len {t b : Int} (h : smallB t b = true) (b0 : 0 < b) : (sizeL t b).length ≤ 801 := by
  have h1 := numL_400 (small_top h)
  have h2 := numL_400 (small_bot h b0)
  unfold sizeL
  split
  · omega
  · rw [List.length_append, List.length_cons]; omega
section
variable {P : Program} {w : World} {K : PySem.W.Frag} {mg : Str → Option Value} {base : Heap} {f : Addr} {fd : FuncData}
def sp_text_of_value (K : PySem.W.Frag) (n : Nat) : Sp := fun vs H Q _ => ∃ v d, vs = [v] ∧ Dp K H v d ∧ Tw n d ∧ (textV n d).length ≤ 100000 ∧ ∀ H', Same H H' → Q (.str (SX.S (textV n d))) H'
theorem fn_text_of_value (Z : Zb mg) (D : C8.Def K mg "text_of_value" s_text_of_value f fd) (b : Binds K fd ["value"] []) {n : Nat} (c_is_ratio : CalX P w K mg base 2 "is_ratio" (sp_is_ratio K)) (c_sign_of : CalX P w K mg base 1 "sign_of" (sp_sign_of K)) (c_size_text : CalX P w K mg base 2 "size_text" (sp_size_text K)) (c_text_of_value : CalX P w K mg base (n + 2) "text_of_value" (fun vs H Q E => 0 < n ∧ sp_text_of_value K (n - 1) vs H Q E)) : CalX P w K mg base (n + 3) "text_of_value" (sp_text_of_value K n) := by
  have nd := sc_text_of_value.nd
  refine calX D b sc_text_of_value (fun vs H Q E h => by obtain ⟨v, d, rfl, _⟩ := h; rfl) fun cdv A outer s H vs Q E hr h => ?_
  obtain ⟨v, d, rfl, hd, tw, hlen, q⟩ := h
  refine ⟨_, (pss_cons (ps_if (pt_val (pe_x c_is_ratio hr (by(omega)) tk0 rfl (pa_cons (pv 0) pa_nil))) (pss_one (ps_ret (pe_op op_add_str (pe_ifExp (pt_cmpR op_lt (pe_x c_sign_of hr (by(omega)) tk0 rfl (pa_cons (pv 0) pa_nil)) pe_int (nomark _)) pe_str pe_str) (pe_x c_size_text hr (by(omega)) tk0 rfl (pa_cons (pv 0) pa_nil))))) pss_nil)
    (pss_cons (ps_if (pt_cmpR op_eq (pe_callB call_len rfl Z.len PySem.boot_len (pa_cons (pv 0) pa_nil)) pe_int (nomark _)) (pss_one (ps_ret (pe_op op_add_str (pe_op op_add_str pe_str (pe_x c_text_of_value hr (by(omega)) tk0 rfl (pa_cons (pe_ix ix_tup (pv 0) pe_int (fun _ _ => rfl)) pa_nil))) pe_str))) pss_nil)
    (pss_one (ps_ret (pe_op op_add_str (pe_op op_add_str pe_str (pe_join pe_str (pe_lc (own := [("one", 1)]) rfl nd (pi_seq (pv 0)) (blkOk_by (N := ["value", "one"]) (sc := C8.fnScope s_text_of_value) (by decide +kernel)) (fun _ _ _ _ _ => (pg_name (i := 1) nd rfl (Or.inl rfl))) (fun _ _ _ _ _ => pts_nil) (fun _ _ _ _ _ => (pe_x c_text_of_value hr (by(omega)) tk0 rfl (pa_cons (pv 1) pa_nil)))))) pe_str))))), ?_⟩
  walk_at "r"
  refine ⟨v, rfl, .inl ⟨d, hd, ?_⟩⟩
  cases tw with
  | @rat _ _ t b hr' sm =>
    rw [hr']
    rw [textV_rat hr'] at q hlen
    refine ⟨true, rfl, ?_⟩
    walk_at "T"
    refine ⟨v, d, t, b, rfl, hd, hr', ?_⟩
    walk_at "rs"
    have hs := sizeL_len sm (ratio_pos hr')
    by_cases h0 : t < 0
    · rw [if_pos h0] at q
      have e : sgn t < 0 := by unfold sgn; rw [if_neg (by omega), if_pos h0]; decide
      rw [if_pos (decide_eq_true e)]
      refine ⟨v, d, t, b, rfl, hd, hr', sm, fun H' e' => ⟨_, rfl, ?_, ?_⟩⟩
      · exact sz (by show 1 + (SX.S (sizeL t b)).length ≤ _; rw [S_len]; omega)
      · rw [l_minus, S_cat]; exact q _ e'
    · rw [if_neg h0] at q
      have e : ¬ sgn t < 0 := by unfold sgn; split; decide; omega
      rw [if_neg (fun z => e (of_decide_eq_true z))]
      refine ⟨v, d, t, b, rfl, hd, hr', sm, fun H' e' => ⟨_, rfl, ?_, ?_⟩⟩
      · exact sz (by show 0 + (SX.S (sizeL t b)).length ≤ _; rw [S_len]; omega)
      · rw [l_empty, S_cat]; exact q _ e'
  | @tup n ds nr hin hw =>
    rw [nr]
    refine ⟨false, rfl, ?_⟩
    walk_at "F"
    obtain ⟨a, xs, rfl, hq, al⟩ := Dp.tupI hd
    have hl := DpAll.length al
    refine lenT hq ?_
    walk_at "rs"
    refine ⟨rfl, ?_⟩
    by_cases h1 : ds.length = 1
    · obtain ⟨e, rfl⟩ := List.length_eq_one_iff.mp h1
      cases al with
      | @cons x _ _ _ hx al2 =>
        cases al2
        walk_at "T"
        rw [textV_one] at q hlen
        have hlen2 : (textV n e).length ≤ 100000 := by simp at hlen; omega
        refine ixT hq rfl ⟨Nat.succ_pos _, x, e, rfl, hx, hin e (List.mem_singleton.mpr rfl), hlen2, fun H' e' => ⟨_, rfl, ?_, ?_, ?_⟩⟩
        · exact sz (by show 1 + (SX.S (textV n e)).length ≤ _; rw [S_len]; omega)
        · rw [l_open, S_cat]; exact sz (by show (SX.S _).length + 2 ≤ _; rw [S_len]; show (textV n e).length + 1 + 2 ≤ _; omega)
        · rw [l_open, l_close1, S_cat, S_cat]; exact q _ e'
    · rw [if_neg (fun z => h1 (by have := of_decide_eq_true z; omega))]
      rw [textV_tup nr h1] at q hlen
      have hsub := joinL_len [44, 32] (ds.map (textV n))
      have hlen2 : (TL.joinL [44, 32] (ds.map (textV n))).length ≤ 100000 := by
        simp only [List.length_cons, List.length_append] at hlen; omega
      refine ⟨⟨_, rfl⟩, .inr ⟨⟨xs, hq⟩, fun D nD => ?_⟩⟩
      refine comp_acc walk_tup (szL (by omega)) nD (B := fun x H Q => 0 < n + 1 ∧ sp_text_of_value K (n + 1 - 1) [x] H Q _) (fun i v _ => ∃ d, ds[i]? = some d ∧ v = .str (SX.S (textV n d))) (fun H' e => SqT.same (Same.of_but nD e) hq) (fun i v H H' acc _ _ h => h) ?_ ?_
      · intro i x H2 Q1 hx e2 q1
        obtain ⟨d, hd, dp⟩ := DpAll.getV al hx
        have hm := List.mem_of_getElem? hd
        refine ⟨Nat.succ_pos _, x, d, rfl, Dp.same (Same.of_but nD e2) dp, hin d hm, ?_, fun H' e' => q1 _ H' e' ⟨d, hd, rfl⟩⟩
        have := le_sum (List.mem_map_of_mem (f := (·.length)) (List.mem_map_of_mem (f := textV n) hm))
        show (textV n d).length ≤ _
        omega
      · intro H2 ys e2 hD hl2 hR
        have eys : ys = ((ds.map (textV n)).map SX.S).map V.str := by
          refine List.ext_getElem? fun i => ?_
          rw [List.getElem?_map, List.getElem?_map, List.getElem?_map]
          by_cases hi : i < ys.length
          · obtain ⟨d, h1, h2⟩ := hR i _ (List.getElem?_eq_getElem hi)
            rw [List.getElem?_eq_getElem hi, h1, h2]; rfl
          · rw [List.getElem?_eq_none (by omega), List.getElem?_eq_none (by omega)]; rfl
        rw [eys] at hD
        refine ⟨(ds.map (textV n)).map SX.S, .inl (.inl (.inl hD)), ?_, ?_⟩
        · rw [SX.lens]
          have : (Str.ofString ", ").length = 2 := rfl
          rw [this, List.length_map, List.length_map]
          omega
        · rw [l_cs, SX.join_S, l_open, l_close, S_cat, S_cat]
          refine ⟨sz ?_, sz ?_, q _ (Same.of_but nD e2)⟩
          · show 1 + (SX.S _).length ≤ _; rw [S_len]; omega
          · show (SX.S _).length + 1 ≤ _; rw [S_len]; simp only [List.length_append]; show 1 + _ + 1 ≤ _; omega
theorem ok_text_of_value (Z : Zb mg) (D : C8.Def K mg "text_of_value" s_text_of_value f fd) (b : Binds K fd ["value"] []) (c_is_ratio : CalX P w K mg base 2 "is_ratio" (sp_is_ratio K)) (c_sign_of : CalX P w K mg base 1 "sign_of" (sp_sign_of K)) (c_size_text : CalX P w K mg base 2 "size_text" (sp_size_text K)) :
    ∀ n, CalX P w K mg base (n + 3) "text_of_value" (sp_text_of_value K n)
  | 0 => fn_text_of_value Z D b c_is_ratio c_sign_of c_size_text ((CalX.none D b _).imp fun _ _ _ _ h => absurd h.1 (Nat.lt_irrefl 0))
  | n + 1 => fn_text_of_value Z D b c_is_ratio c_sign_of c_size_text ((ok_text_of_value Z D b c_is_ratio c_sign_of c_size_text n).imp fun _ _ _ _ h => h.2)
end
end FP
set_option maxHeartbeats 4000000
namespace FP
open PySem PySem.Spec PyProof.Rows L2
local macro_rules | `(tactic| walk_at "rd") => `(tactic| dsimp only [tVar, tC, tCmp, tIsN, tNotN, tB, tAnd, tOr, tNot, tAndV, tOrV, tNotV, tIf, tNext, tSeq, tBreak, tCont, tDrop, tRet, tRetN, tIfS, tNever, tAsg, tPar, tAug, tOp, tUn, tTest, tChain, tFld, tNil, tCons, tTup, tLst, tCB, iList, iTup, iStr, tLc, tM0, tM1, tPart, tNoPart, tSl, tBM, tCallS, tCallSD, WE, tDGet, tDIn, gName, gTup, gCons, gNil, gSub, sFld, sFldAug, rI, rI0, rU, rEq, rNe, rAdd, rSub, t2I, tYes, cx_K, cx_w, cx_prog])
local macro_rules | `(tactic| walk_at "rs") => `(tactic| (try simp only [L2.start, List.map_cons, List.map_nil, List.length_cons, List.length_nil, List.cons_append, List.nil_append, Nat.reduceAdd, Nat.reduceSub, Nat.zero_add, List.replicate, List.getElem?_cons_zero, List.getElem?_cons_succ, Option.some.injEq, exists_eq_left', exists_eq_left, V.int.injEq, V.str.injEq, V.bl.injEq, V.ref.injEq, List.set_cons_zero, List.set_cons_succ, exists_and_left, List.cons.injEq, and_true, true_and, wipe, if_true, if_false, Bool.not_true, Bool.not_false, Bool.false_eq_true, decide_true, decide_false]))
local macro_rules | `(tactic| walk_at "r") => `(tactic| (walk_at "rd"; walk_at "rs"))
local macro_rules | `(tactic| walk_at "T") => `(tactic| (rw [if_pos (by first | assumption | rfl | decide | exact decide_eq_true (by assumption) | (simp [tyOf]; done) | (simp; omega) | omega)]; walk_at "rs"))
local macro_rules | `(tactic| walk_at "F") => `(tactic| (rw [if_neg (by first | assumption | decide | (simp [tyOf]; done) | (simp; omega) | (simp; assumption) | omega)]; walk_at "rs"))
section
variable {P : Program} {w : World} {K : PySem.W.Frag} {mg : Str → Option Value} {base : Heap} {N : List Str} {qual : Str} {sc : Scope} {f : Addr} {cd : Value} {A : Around} {outer : List Env} {s : Shared} {H : Hp} {E : XK}
theorem tkw : L2N.Takes (cxOf (L2N.CX P w) P w K mg base N qual sc f cd A outer s H E) (fun cls d _ H => E cls d H) := tk_of rfl rfl rfl rfl
end
section
variable {P : Program} {w : World} {K : PySem.W.Frag} {mg : Str → Option Value} {base : Heap} {f : Addr} {fd : FuncData}
/-- no data to be written: no whole number, no list, no tuple -/
def Odd (K : PySem.W.Frag) (H : Hp) (v : V) : Prop := ∃ t, Kd K H v t ∧ (t == "tuple") = false ∧ (t == "list") = false ∧ (t == "int") = false
def sp_value_text (K : PySem.W.Frag) (C : Addr) (n : Nat) : Sp := fun vs H Q E => ∃ v, vs = [v] ∧
  ((∃ d, Dp K H v d ∧ fine n d ∧ plB n d = true ∧ Tw n (asTup n d) ∧ (textV n (asTup n d)).length ≤ 100000 ∧ ∀ H', Same H H' → Q (.str (SX.S (textV n (asTup n d)))) H') ∨
   (((∃ d, Dp K H v d ∧ fine n d ∧ plB n d = false) ∨ Odd K H v) ∧ ∀ H' dd, Same H H' → H' dd = some (.xd [("row", v), ("what", .str "value")]) → E (.ref C) (some dd) H'))
theorem ok_value_text (D : C8.Def K mg "value_text" s_value_text f fd) (b : Binds K fd ["value"] []) {n : Nat} (hn : n ≤ 50) {C : Addr} (R_BadRow : ErrX P w K mg base "BadRow" C "what" "row") (c_is_plain : CalD P w K mg base (n + 3) "is_plain" [.int 0] (sp_is_plain K n)) (c_as_tuples : CalX P w K mg base (n + 1) "as_tuples" (sp_as_tuples K n)) (c_text_of_value : CalX P w K mg base (n + 3) "text_of_value" (sp_text_of_value K n)) : CalX P w K mg base (n + 4) "value_text" (sp_value_text K C n) := by
  refine calX D b sc_value_text (fun vs H Q E h => by obtain ⟨v, rfl, _⟩ := h; rfl) fun cdv A outer s H vs Q E hr h => ?_
  obtain ⟨v, rfl, h⟩ := h
  have hk := Nat.le_refl (n + 3)
  refine ⟨_, pss_cons (ps_if (pt_not (pt_val (pe_xD c_is_plain hr hk tkw rfl (pa_cons (pv 0) pa_nil)))) (pss_one (ps_raiseX R_BadRow rfl hr (by omega) tkw rfl pe_str (pv 0))) pss_nil)
    (pss_one (ps_ret (pe_x c_text_of_value hr hk tkw rfl (pa_cons (pe_x c_as_tuples hr (by omega) tkw rfl (pa_cons (pv 0) pa_nil)) pa_nil)))), ?_⟩
  walk_at "r"
  rcases h with ⟨d, hd, fd, pl, tw, hl, q⟩ | ⟨h, q⟩
  · refine ⟨v, 0, rfl, by decide, by omega, .inl ⟨d, hd, fd, fun H1 e1 => ?_⟩⟩
    rw [pl]
    walk_at "rs"
    refine ⟨v, d, rfl, Dp.same e1 hd, fd, fun v' H' e' hd' nl => ⟨v', _, rfl, hd', tw, hl, fun H2 e2 => q _ ((e1.trans e').trans e2)⟩⟩
  · have fin : ∀ H1, Same H H1 → ∀ dd, H1 dd = none → E (.ref C) (some dd) (upd H1 dd (.xd [("row", v), ("what", .str "value")])) := fun H1 e1 dd nd => q _ _ (e1.trans (same_new nd _)) upd_same
    refine ⟨v, 0, rfl, by decide, by omega, ?_⟩
    rcases h with ⟨d, hd, fd, pl⟩ | ⟨t, k, n1, n2, n3⟩
    · refine .inl ⟨d, hd, fd, fun H1 e1 => ?_⟩
      rw [pl]
      refine ⟨false, rfl, ?_⟩
      walk_at "rs"
      exact fin H1 e1
    · refine .inr ⟨t, k, n1, n2, n3, fun H1 e1 => ?_⟩
      refine ⟨false, rfl, ?_⟩
      walk_at "rs"
      exact fin H1 e1
end
end FP
set_option maxHeartbeats 4000000
namespace FP
open PySem PySem.Spec PyProof.Rows L2
local macro_rules | `(tactic| walk_at "rd") => `(tactic| dsimp only [tVar, tC, tCmp, tIsN, tNotN, tB, tAnd, tOr, tNot, tAndV, tOrV, tNotV, tIf, tNext, tSeq, tBreak, tCont, tDrop, tRet, tRetN, tIfS, tNever, tAsg, tPar, tAug, tOp, tUn, tTest, tChain, tFld, tNil, tCons, tTup, tLst, tCB, iList, iTup, iStr, tLc, tM0, tM1, tPart, tNoPart, tSl, tBM, tCallS, tCallSD, WE, tDGet, tDIn, gName, gTup, gCons, gNil, gSub, sFld, sFldAug, rI, rI0, rU, rEq, rNe, rAdd, rSub, t2I, tYes, cx_K, cx_w, cx_prog])
local macro_rules | `(tactic| walk_at "rs") => `(tactic| (try simp only [L2.start, List.map_cons, List.map_nil, List.length_cons, List.length_nil, List.cons_append, List.nil_append, Nat.reduceAdd, Nat.reduceSub, Nat.zero_add, List.replicate, List.getElem?_cons_zero, List.getElem?_cons_succ, Option.some.injEq, exists_eq_left', exists_eq_left, V.int.injEq, V.str.injEq, V.bl.injEq, V.ref.injEq, List.set_cons_zero, List.set_cons_succ, exists_and_left, List.cons.injEq, and_true, true_and, wipe, if_true, if_false, Bool.not_true, Bool.not_false, Bool.false_eq_true, decide_true, decide_false]))
local macro_rules | `(tactic| walk_at "r") => `(tactic| (walk_at "rd"; walk_at "rs"))
local macro_rules | `(tactic| walk_at "T") => `(tactic| (rw [if_pos (by first | assumption | rfl | decide | exact decide_eq_true (by assumption) | (simp [tyOf]; done) | (simp; omega) | omega)]; walk_at "rs"))
local macro_rules | `(tactic| walk_at "F") => `(tactic| (rw [if_neg (by first | assumption | decide | (simp [tyOf]; done) | (simp; omega) | (simp; assumption) | omega)]; walk_at "rs"))
theorem ixS {l : List Nat} {i : Int} {c : Nat} {H : Hp} {Q : VK} (hl : l.length ≤ 1000000) (e : atI l i = some c) (q : Q (.str (SX.S [c])) H) : rIxS (.str (SX.S l)) (.int i) H Q :=
  ⟨SX.S l, i, c, rfl, rfl, sz (by rw [S_len]; exact hl), e, q⟩
theorem inS {l : List Nat} {c : Nat} {H : Hp} {Q : VK} (q : Q (.bl (decide (c ∈ l))) H) : rInS (.str (SX.S [c])) (.str (SX.S l)) H Q := ⟨c, SX.S l, rfl, rfl, q⟩
theorem lenS {K : PySem.W.Frag} {l : List Nat} {H : Hp} {R : Nat → Prop} (hl : l.length ≤ 1000000) (q : R l.length) : ∃ n, LenV K (.str (SX.S l)) H n ∧ R n := ⟨l.length, ⟨sz (by rw [S_len]; exact hl), (S_len l).symm⟩, q⟩
section
variable {P : Program} {w : World} {K : PySem.W.Frag} {mg : Str → Option Value} {base : Heap} {f : Addr} {fd : FuncData}
/-! ### run_of -/
def sp_run_of : Sp := fun vs H Q _ => ∃ (p wd r F : List Nat), vs = [.str (SX.S (p ++ (wd ++ r))), .int (p.length : Nat), .str (SX.S F)] ∧ (p ++ (wd ++ r)).length ≤ 500000 ∧ (∀ c, c ∈ wd → c ∈ F) ∧ (∀ c, r.head? = some c → c ∉ F) ∧ Q (.int ((p.length + wd.length : Nat) : Int)) H
theorem ok_run_of (Z : Zb mg) (D : C8.Def K mg "run_of" s_run_of f fd) (b : Binds K fd ["text", "at", "some"] []) : CalX P w K mg base 1 "run_of" sp_run_of := by
  have nd := sc_run_of.nd
  refine calX D b sc_run_of (fun vs H Q E h => by obtain ⟨p, wd, r, F, rfl, _⟩ := h; rfl) fun cdv A outer s H vs Q E hr h => ?_
  obtain ⟨p, wd, r, F, rfl, hlen, h1, h2, q⟩ := h
  refine ⟨_, (pss_cons (ps_while (L2.passes_of rfl) (PW.pt (pw_and (pt_cmpR op_lt (pv 1) (pe_callB call_len rfl Z.len PySem.boot_len (pa_cons (pv 0) pa_nil)) (nomark _)) (pw_and1 (pt_cmpR op_inS (pe_ix ix_str (pv 0) (pv 1) (fun _ _ => rfl)) (pv 2) (by with_unfolding_all rfl))))) (pss_one (ps_aug (i := 1) nd rfl (Or.inl rfl) pe_int ip_add)))
    (pss_one (ps_ret (pv 1)))), ?_⟩
  walk_at "r"
  refine ⟨fun m σ H' => ∃ k, m = wd.length - k ∧ k ≤ wd.length ∧ H' = H ∧ σ = [some (.str (SX.S (p ++ (wd ++ r)))), some (.int ((p.length + k : Nat) : Int)), some (.str (SX.S F))], ⟨wd.length, 0, rfl, Nat.zero_le _, rfl, rfl⟩, ?_⟩
  rintro m σ H' ⟨k, rfl, hk, rfl, rfl⟩
  walk_at "r"
  refine lenS (by omega) ?_
  have hl : (p ++ (wd ++ r)).length = p.length + wd.length + r.length := by simp [Nat.add_assoc]
  by_cases hk2 : k < wd.length
  · rw [if_pos (decide_eq_true (by omega))]
    have hc : (p ++ (wd ++ r))[p.length + k]? = some wd[k] := by
      rw [List.getElem?_append_right (by omega), Nat.add_sub_cancel_left, List.getElem?_append_left hk2, List.getElem?_eq_getElem hk2]
    refine ixS (by omega) (atI_nat hc) (inS ?_)
    rw [decide_eq_true (h1 _ (List.getElem_mem hk2))]
    refine ⟨true, rfl, ?_⟩
    walk_at "T"
    refine ⟨_, fun _ _ h => h, ?_⟩
    refine ⟨_, _, rfl, rfl, wd.length - (k + 1), by omega, k + 1, rfl, hk2, rfl, rfl⟩
  · have ek : k = wd.length := by omega
    subst ek
    cases r with
    | nil =>
      have hl2 : ([] : List Nat).length = 0 := rfl
      rw [if_neg (fun z => by have := of_decide_eq_true z; omega)]
      exact q
    | cons c r =>
      have hl2 : (c :: r).length = r.length + 1 := rfl
      rw [if_pos (decide_eq_true (by omega))]
      have hc : (p ++ (wd ++ c :: r))[p.length + wd.length]? = some c := by
        rw [List.getElem?_append_right (by omega), Nat.add_sub_cancel_left, List.getElem?_append_right (Nat.le_refl _)]; simp
      refine ixS (by omega) (atI_nat hc) (inS ?_)
      rw [decide_eq_false (h2 c rfl)]
      refine ⟨false, rfl, ?_⟩
      walk_at "F"
      exact q
/-! ### tokens_of -/
def figL : List Nat := [48, 49, 50, 51, 52, 53, 54, 55, 56, 57]
def letL : List Nat := [97, 98, 99, 100, 101, 102, 103, 104, 105, 106, 107, 108, 109, 110, 111, 112, 113, 114, 115, 116, 117, 118, 119, 120, 121, 122]
theorem fig_S : (Str.ofString "0123456789") = SX.S figL := rfl
theorem let_S : (Str.ofString "abcdefghijklmnopqrstuvwxyz") = SX.S letL := rfl
/-- a text's tokens -/
inductive Toks : List Nat → List (List Nat) → Prop
  | nil : Toks [] []
  | sp {r : List Nat} {ts : List (List Nat)} : Toks r ts → Toks (32 :: r) ts
  | one {c : Nat} {r : List Nat} {ts : List (List Nat)} : c ≠ 32 → c ∉ figL → c ∉ letL → Toks r ts → Toks (c :: r) ([c] :: ts)
  | fig {c : Nat} {w r : List Nat} {ts : List (List Nat)} : (∀ x, x ∈ c :: w → x ∈ figL) → (∀ x, r.head? = some x → x ∉ figL) → Toks r ts → Toks (c :: (w ++ r)) ((c :: w) :: ts)
  | ltr {c : Nat} {w r : List Nat} {ts : List (List Nat)} : (∀ x, x ∈ c :: w → x ∈ letL) → (∀ x, r.head? = some x → x ∉ letL) → Toks r ts → Toks (c :: (w ++ r)) ((c :: w) :: ts)
theorem Toks.len : ∀ {t : List Nat} {ts : List (List Nat)}, Toks t ts → ts.length ≤ t.length
  | _, _, .nil => Nat.le_refl _
  | _, _, .sp h => Nat.le_succ_of_le h.len
  | _, _, .one _ _ _ h => Nat.succ_le_succ h.len
  | _, _, .fig _ _ h => by have := h.len; simp; omega
  | _, _, .ltr _ _ h => by have := h.len; simp; omega
def sp_tokens_of (K : PySem.W.Frag) (C : Addr) : Sp := fun vs H Q E => (∃ t ts, vs = [.str (SX.S t)] ∧ t.length ≤ 100000 ∧ Toks t ts ∧ ∀ D H', Same H H' → H' D = some (.lst (ts.map fun x => V.str (SX.S x))) → Q (.ref D) H') ∨
  (∃ v k, vs = [v] ∧ Kd K H v k ∧ (k == "str") = false ∧ ∀ H' dd, Same H H' → H' dd = some (.xd [("word", .int 0), ("line", .int 0)]) → E (.ref C) (some dd) H')
theorem eqSd {a b : List Nat} : decide (V.str (SX.S a) = V.str (SX.S b)) = decide (a = b) := by
  by_cases h : a = b
  · subst h; rw [decide_eq_true rfl, decide_eq_true rfl]
  · rw [decide_eq_false h, decide_eq_false]
    intro z; injection z with z
    exact h (SX.S_inj z)
theorem cut_S (p w r : List Nat) {j : Int} (hj : j = ((p.length + w.length : Nat) : Int)) : cutS (SX.S (p ++ (w ++ r))) (some ((p.length : Nat) : Int)) (some j) = SX.S w := by
  subst hj
  unfold cutS
  rw [HT.sIx_nat, HT.sIx_nat, S_len]
  have hl : (p ++ (w ++ r)).length = p.length + w.length + r.length := by simp [Nat.add_assoc]
  rw [Nat.min_eq_left (by omega), Nat.min_eq_left (by omega), Nat.add_sub_cancel_left]
  show (⟨(((p ++ (w ++ r)).drop p.length).take w.length).toArray⟩ : Str) = _
  rw [List.drop_left, List.take_left]
theorem l_blank : (Str.ofString " ") = SX.S [32] := rfl
theorem at_here (p : List Nat) (c : Nat) (r : List Nat) : atI (p ++ c :: r) ((p.length : Nat) : Int) = some c := atI_nat (by simp)
theorem let_fig {c : Nat} : c ∈ letL → c ∉ figL := by
  intro h z
  have h2 : ∀ c ∈ letL, c ∉ figL := by decide
  exact h2 c h z
theorem tyL {K : PySem.W.Frag} {H : Hp} {D : Addr} {xs : List V} (h : H D = some (.lst xs)) : tyV K "list" (.ref D) H := .inl ⟨rfl, xs, .inl (.inl h)⟩
def tkI (t : List Nat) (ts : List (List Nat)) (D : Addr) (H : Hp) (m : Nat) (σ : L2.St) (H' : Hp) : Prop := ∃ (p rest : List Nat) (ts1 ts2 : List (List Nat)) (e : Option V), m = rest.length ∧ t = p ++ rest ∧ Toks rest ts2 ∧ ts = ts1 ++ ts2 ∧ But (· = D) (upd H D (.lst [])) H' ∧ H' D = some (.lst (ts1.map fun x => V.str (SX.S x))) ∧ σ = [some (.str (SX.S t)), some (.ref D), some (.int (p.length : Nat)), e]
theorem ok_tokens_of (Z : Zb mg) (D : C8.Def K mg "tokens_of" s_tokens_of f fd) (b : Binds K fd ["text"] []) {C : Addr} (R_BadText : ErrX P w K mg base "BadText" C "line" "word") (G_FIGURES : ∃ t, mg "FIGURES" = some (.str "0123456789" t)) (G_LETTERS : ∃ t, mg "LETTERS" = some (.str "abcdefghijklmnopqrstuvwxyz" t)) (c_run_of : CalX P w K mg base 1 "run_of" sp_run_of) : CalX P w K mg base 3 "tokens_of" (sp_tokens_of K C) := by
  have nd := sc_tokens_of.nd
  refine calX D b sc_tokens_of (fun vs H Q E h => by rcases h with ⟨t, ts, rfl, _⟩ | ⟨v, k, rfl, _⟩ <;> rfl) fun cdv A outer s H vs Q E hr h => ?_
  refine ⟨_, (pss_cons (ps_if (pt_not (pt_val (pe_callB call_isi rfl Z.isinstance PyProof.Rows.boot_isinstance (pa_cons (pv 0) (pa_cons (pe_ty rfl Z.str PyProof.Rows.boot_str) pa_nil))))) (pss_one (ps_raiseX R_BadText rfl hr (by decide) tkw rfl pe_int pe_int)) pss_nil)
    (pss_cons (ps_par (i := 1) (j := 2) rfl nd rfl rfl (by decide) rfl rfl (pa_cons (pe_lst pa_nil) (pa_cons pe_int pa_nil)) (by rfl))
    (pss_cons (ps_while (L2.passes_of rfl) (pt_cmpR op_lt (pv 2) (pe_callB call_len rfl Z.len PySem.boot_len (pa_cons (pv 0) pa_nil)) (nomark _)) (pss_one (ps_if (pt_cmpR op_eq (pe_ix ix_str (pv 0) (pv 2) (fun _ _ => rfl)) pe_str (nomark _)) (pss_one (ps_aug (i := 2) nd rfl (Or.inl rfl) pe_int ip_add)) (pss_cons (ps_set (i := 3) nd rfl (Or.inl rfl) (pe_op op_add (pv 2) pe_int))
    (pss_cons (ps_if (pt_cmpR op_inS (pe_ix ix_str (pv 0) (pv 2) (fun _ _ => rfl)) (pe_cs rfl G_FIGURES) (by with_unfolding_all rfl)) (pss_one (ps_set (i := 3) nd rfl (Or.inl rfl) (pe_x c_run_of hr (by decide) tk0 rfl (pa_cons (pv 0) (pa_cons (pv 2) (pa_cons (pe_cs rfl G_FIGURES) pa_nil)))))) (pss_one (ps_if (pt_cmpR op_inS (pe_ix ix_str (pv 0) (pv 2) (fun _ _ => rfl)) (pe_cs rfl G_LETTERS) (by with_unfolding_all rfl)) (pss_one (ps_set (i := 3) nd rfl (Or.inl rfl) (pe_x c_run_of hr (by decide) tk0 rfl (pa_cons (pv 0) (pa_cons (pv 2) (pa_cons (pe_cs rfl G_LETTERS) pa_nil)))))) pss_nil)))
    (pss_cons (ps_expr (pe_bm PySem.F.plainAttrs_list PySem.F.slot_list_append PySem.F.type_list_append mt_append (pv 1) (pa_cons (pe_slice sl_str (pv 0) (po_some (pv 2)) (po_some (pv 3))) pa_nil)))
    (pss_one (ps_set (i := 2) nd rfl (Or.inl rfl) (pv 3)))))))))
    (pss_one (ps_ret (pv 1)))))), ?_⟩
  walk_at "r"
  rcases h with ⟨t, ts, rfl, hlen, tk, q⟩ | ⟨v, k, rfl, kd, nk, q⟩
  · walk_at "rs"
    refine isi_str (t := "str") ⟨.base (.str _), by decide⟩ ?_
    walk_at "rs"
    rw [if_neg (by decide)]
    refine ⟨sz (by decide), fun D nD => ⟨_, _, ⟨rfl, rfl⟩, ?_⟩⟩
    have nT : ∀ {H' : Hp} {xs : List V}, H' D = some (.lst xs) → NoTup H' (· = D) := fun h => noTupD h
    refine ⟨tkI t ts D H, ⟨t.length, [], t, [], ts, none, rfl, rfl, tk, rfl, But.refl _ _, upd_same, rfl⟩, ?_⟩
    rintro m σ H' ⟨p, rest, ts1, ts2, e, rfl, et, tk2, ets, ke, hD, rfl⟩
    have hl : t.length = p.length + rest.length := by rw [et, List.length_append]
    have nl : (ts1.map fun x => V.str (SX.S x)).length < sizeLine := szL (by have := Toks.len tk; rw [ets, List.length_append] at this; rw [List.length_map]; omega)
    -- what a token's turn does
    have put : ∀ (w r : List Nat) (ts3 : List (List Nat)) (j : Int) (e' : Option V), w ≠ [] → rest = w ++ r → ts2 = w :: ts3 → Toks r ts3 → j = ((p.length + w.length : Nat) : Int) →
        rSlS (V.str (SX.S t)) (some ((p.length : Nat) : Int)) (some j) H' fun x H1 => rAppend (V.ref D) [x] H1 fun _ H1 => ∃ m', m' < rest.length ∧ tkI t ts D H m' [some (V.str (SX.S t)), some (V.ref D), some (V.int j), e'] H1 := by
      intro w r ts3 j e' hw hr ht tk3 hj
      have := List.length_pos_iff.mpr hw
      refine ⟨_, rfl, sz (by rw [S_len]; omega), ?_⟩
      have ec : cutS (SX.S t) (some ((p.length : Nat) : Int)) (some j) = SX.S w := by rw [et, hr]; exact cut_S p w r hj
      rw [ec]
      refine ⟨D, _, _, rfl, rfl, hD, nl, r.length, by rw [hr, List.length_append]; omega, p ++ w, r, ts1 ++ [w], ts3, e', rfl, by rw [et, hr, List.append_assoc], tk3, by rw [ets, ht, List.append_assoc]; rfl, ke.trans (But.upd rfl), by rw [upd_same, List.map_append]; rfl, by rw [hj, List.length_append]⟩
    walk_at "r"
    refine lenS (by omega) ?_
    cases tk2 with
    | nil =>
      rw [if_neg (fun z => by have := of_decide_eq_true z; simp at hl; omega)]
      refine q D H' (Same.of_but nD ke) ?_
      rw [hD, ets, List.append_nil]
    | @sp r _ tk3 =>
      rw [if_pos (decide_eq_true (by simp at hl; omega))]
      refine ⟨_, fun _ _ h => h, ?_⟩
      refine ixS (by omega) (by rw [et]; exact at_here p _ r) ?_
      rw [l_blank]
      refine ⟨rfl, ?_⟩
      rw [eqSd, decide_eq_true rfl]
      walk_at "T"
      exact ⟨_, _, rfl, rfl, r.length, by simp, p ++ [32], r, ts1, ts2, e, rfl, by rw [et, List.append_assoc]; rfl, tk3, ets, ke, hD, by simp⟩
    | @one c r ts3 c1 c2 c3 tk3 =>
      rw [if_pos (decide_eq_true (by simp at hl; omega))]
      refine ⟨_, fun _ _ h => h, ?_⟩
      refine ixS (by omega) (by rw [et]; exact at_here p _ r) ?_
      rw [l_blank]
      refine ⟨rfl, ?_⟩
      rw [eqSd, decide_eq_false (fun z => c1 (List.cons.inj z).1)]
      walk_at "F"
      refine ixS (by omega) (by rw [et]; exact at_here p _ r) ?_
      rw [fig_S]
      refine inS ?_
      rw [decide_eq_false c2]
      refine ⟨false, rfl, ?_⟩
      walk_at "F"
      refine ixS (by omega) (by rw [et]; exact at_here p _ r) ?_
      rw [let_S]
      refine inS ?_
      rw [decide_eq_false c3]
      refine ⟨false, rfl, ?_⟩
      walk_at "F"
      refine ⟨tyL hD, ?_⟩
      exact put [c] r ts3 _ _ (by simp) rfl rfl tk3 (by simp)
    | @fig c w r ts3 h1 h2 tk3 =>
      have hc := h1 c List.mem_cons_self
      rw [if_pos (decide_eq_true (by simp at hl; omega))]
      refine ⟨_, fun _ _ h => h, ?_⟩
      refine ixS (by omega) (by rw [et]; exact at_here p _ _) ?_
      rw [l_blank]
      refine ⟨rfl, ?_⟩
      rw [eqSd, decide_eq_false (fun z => by rw [(List.cons.inj z).1] at hc; exact absurd hc (by decide))]
      walk_at "F"
      refine ixS (by omega) (by rw [et]; exact at_here p _ _) ?_
      rw [fig_S]
      refine inS ?_
      rw [decide_eq_true hc]
      refine ⟨true, rfl, ?_⟩
      walk_at "T"
      refine ⟨p, c :: w, r, figL, by rw [et]; rfl, by rw [List.cons_append, ← et]; omega, h1, h2, ?_⟩
      refine ⟨tyL hD, _, rfl, ?_⟩
      exact put (c :: w) r ts3 _ _ (by simp) rfl rfl tk3 rfl
    | @ltr c w r ts3 h1 h2 tk3 =>
      have hc := h1 c List.mem_cons_self
      rw [if_pos (decide_eq_true (by simp at hl; omega))]
      refine ⟨_, fun _ _ h => h, ?_⟩
      refine ixS (by omega) (by rw [et]; exact at_here p _ _) ?_
      rw [l_blank]
      refine ⟨rfl, ?_⟩
      rw [eqSd, decide_eq_false (fun z => by rw [(List.cons.inj z).1] at hc; exact absurd hc (by decide))]
      walk_at "F"
      refine ixS (by omega) (by rw [et]; exact at_here p _ _) ?_
      rw [fig_S]
      refine inS ?_
      rw [decide_eq_false (fun z => let_fig hc z)]
      refine ⟨false, rfl, ?_⟩
      walk_at "F"
      refine ixS (by omega) (by rw [et]; exact at_here p _ _) ?_
      rw [let_S]
      refine inS ?_
      rw [decide_eq_true hc]
      refine ⟨true, rfl, ?_⟩
      walk_at "T"
      refine ⟨p, c :: w, r, letL, by rw [et]; rfl, by rw [List.cons_append, ← et]; omega, h1, h2, ?_⟩
      refine ⟨tyL hD, _, rfl, ?_⟩
      exact put (c :: w) r ts3 _ _ (by simp) rfl rfl tk3 rfl
  · walk_at "rs"
    refine isi_str kd ?_
    rw [nk]
    walk_at "rs"
    exact fun dd nd => q _ _ (same_new nd _) upd_same
end
end FP
set_option maxHeartbeats 4000000
namespace FP
open PySem PySem.Spec PyProof.Rows L2
local macro_rules | `(tactic| walk_at "rd") => `(tactic| dsimp only [tVar, tC, tCmp, tIsN, tNotN, tB, tAnd, tOr, tNot, tAndV, tOrV, tNotV, tIf, tNext, tSeq, tBreak, tCont, tDrop, tRet, tRetN, tIfS, tNever, tAsg, tPar, tAug, tOp, tUn, tTest, tChain, tFld, tNil, tCons, tTup, tLst, tCB, iList, iTup, iStr, tLc, tM0, tM1, tPart, tNoPart, tSl, tBM, tCallS, tCallSD, WE, tDGet, tDIn, gName, gTup, gCons, gNil, gSub, sFld, sFldAug, rI, rI0, rU, rEq, rNe, rAdd, rSub, t2I, tYes, cx_K, cx_w, cx_prog])
local macro_rules | `(tactic| walk_at "rs") => `(tactic| (try simp only [L2.start, List.map_cons, List.map_nil, List.length_cons, List.length_nil, List.cons_append, List.nil_append, Nat.reduceAdd, Nat.reduceSub, Nat.zero_add, List.replicate, List.getElem?_cons_zero, List.getElem?_cons_succ, Option.some.injEq, exists_eq_left', exists_eq_left, V.int.injEq, V.str.injEq, V.bl.injEq, V.ref.injEq, List.set_cons_zero, List.set_cons_succ, exists_and_left, List.cons.injEq, and_true, true_and, wipe, if_true, if_false, Bool.not_true, Bool.not_false, Bool.false_eq_true, decide_true, decide_false]))
local macro_rules | `(tactic| walk_at "r") => `(tactic| (walk_at "rd"; walk_at "rs"))
local macro_rules | `(tactic| walk_at "T") => `(tactic| (rw [if_pos (by first | assumption | rfl | decide | exact decide_eq_true (by assumption) | (simp [tyOf]; done) | (simp; omega) | omega)]; walk_at "rs"))
local macro_rules | `(tactic| walk_at "F") => `(tactic| (rw [if_neg (by first | assumption | decide | (simp [tyOf]; done) | (simp; omega) | (simp; assumption) | omega)]; walk_at "rs"))
section
variable {P : Program} {w : World} {K : PySem.W.Frag} {mg : Str → Option Value} {base : Heap} {f : Addr} {fd : FuncData}
def isNum (l : List Nat) : Bool := decide (l ≠ []) && decide (l.length ≤ 400) && l.all (fun c => decide (c ∈ figL)) && (decide (l = [48]) || decide (l.head? ≠ some 48))
def sp_is_numeral : Sp := fun vs H Q _ => ∃ l, vs = [.str (SX.S l)] ∧ l.length ≤ 100000 ∧ ∀ H', Same H H' → Q (.bl (isNum l)) H'
theorem eqSs {a b : List Nat} : decide (SX.S a = SX.S b) = decide (a = b) := by
  by_cases h : a = b
  · subst h; rw [decide_eq_true rfl, decide_eq_true rfl]
  · rw [decide_eq_false h, decide_eq_false (fun z => h (SX.S_inj z))]
theorem l_zero : (Str.ofString "0") = SX.S [48] := rfl
theorem walk_S {l : List Nat} : Walk (Its (SX.S l)) (l.map fun c => V.str (SX.S [c])).length (fun _ => True) (YAt (l.map fun c => V.str (SX.S [c]))) := by
  have w : Walk (Its (SX.S l)) l.length (fun _ => True) (fun i H v H' => H' = H ∧ ∃ c, (SX.S l).cps[i]? = some c ∧ v = .str ⟨#[c]⟩) := walk_str
  rw [List.length_map]
  refine w.mono (fun _ h => h) fun i H x H' hi _ y => ?_
  obtain ⟨e, c, h1, h2⟩ := y
  refine ⟨e, ?_⟩
  have h3 : l[i]? = some c := by simpa using h1
  rw [List.getElem?_map, h3, h2]; rfl
theorem ok_is_numeral (Z : Zb mg) (D : C8.Def K mg "is_numeral" s_is_numeral f fd) (b : Binds K fd ["token"] []) (G_FIGURES : ∃ t, mg "FIGURES" = some (.str "0123456789" t)) (G_MOST_FIGURES : ∃ t, mg "MOST_FIGURES" = some (.int 400 t)) : CalX P w K mg base 1 "is_numeral" sp_is_numeral := by
  have nd := sc_is_numeral.nd
  refine calX D b sc_is_numeral (fun vs H Q E h => by obtain ⟨l, rfl, _⟩ := h; rfl) fun cdv A outer s H vs Q E hr h => ?_
  obtain ⟨l, rfl, hl, q⟩ := h
  refine ⟨_, (pss_cons (ps_if (PW.pt (pw_or (pt_cmpR op_eq (pv 0) pe_str (nomark _)) (pw_or (pt_cmpR op_gt (pe_callB call_len rfl Z.len PySem.boot_len (pa_cons (pv 0) pa_nil)) (pe_ci rfl G_MOST_FIGURES) (nomark _)) (pw_or1 (pt_not (pt_val (pe_callB (cr_all rfl) rfl Z.all PyProof.Rows.boot_all (pa_cons (pe_lc (own := [("sign", 1)]) rfl nd (pi_str (pv 0)) (blkOk_by (N := ["token", "sign"]) (sc := C8.fnScope s_is_numeral) (by decide +kernel)) (fun _ _ _ _ _ => (pg_name (i := 1) nd rfl (Or.inl rfl))) (fun _ _ _ _ _ => pts_nil) (fun _ _ _ _ _ => (pe_cmpR op_inS (pv 1) (pe_cs rfl G_FIGURES) (by with_unfolding_all rfl)))) pa_nil)))))))) (pss_one (ps_ret pe_bl)) pss_nil)
    (pss_one (ps_ret (pe_or (pe_cmpR op_eq (pv 0) pe_str (nomark _)) (pe_one (pe_cmpR op_ne (pe_ix ix_str (pv 0) pe_int (fun _ _ => rfl)) pe_str (nomark _))))))), ?_⟩
  walk_at "r"
  rw [l_empty, l_zero, fig_S]
  refine ⟨rfl, ?_⟩
  rw [eqSs]
  by_cases h0 : l = []
  · subst h0
    walk_at "T"
    exact q H (Same.refl H)
  walk_at "F"
  refine lenS (by omega) ?_
  by_cases h4 : l.length ≤ 400
  case neg =>
    rw [if_pos (decide_eq_true (by omega))]
    have e : isNum l = false := by unfold isNum; rw [decide_eq_false h4]; simp
    rw [e] at q
    exact q H (Same.refl H)
  rw [if_neg (fun z => by have := of_decide_eq_true z; omega)]
  intro D nD
  refine comp_bl walk_S (by rw [List.length_map]; exact szL (by omega)) nD (B := fun x H Q => rInS x (.str (SX.S figL)) H Q) (l.map fun c => decide (c ∈ figL)) (by simp) (fun _ _ => trivial) ?_ ?_
  · intro i x b H2 Q2 hx hb e q2
    rw [List.getElem?_map] at hx hb
    cases hc : l[i]? with
    | none => rw [hc] at hx; cases hx
    | some c =>
      rw [hc] at hx hb
      cases hx; cases hb
      exact inS (q2 _ (Same.refl _))
  · intro H2 e hD
    refine ⟨D, _, rfl, .inl (.inl hD), ?_⟩
    have ea : (l.map fun c => decide (c ∈ figL)).all id = l.all (fun c => decide (c ∈ figL)) := by rw [List.all_map]; rfl
    rw [ea]
    cases hall : l.all (fun c => decide (c ∈ figL)) with
    | false =>
      refine ⟨false, rfl, ?_⟩
      walk_at "T"
      have e2 : isNum l = false := by unfold isNum; rw [hall]; simp
      rw [e2] at q
      exact q H2 e
    | true =>
      refine ⟨true, rfl, ?_⟩
      walk_at "F"
      refine ⟨rfl, ?_⟩
      rw [eqSs]
      have e2 : isNum l = (decide (l = [48]) || decide (l.head? ≠ some 48)) := by
        unfold isNum; rw [hall, decide_eq_true h0, decide_eq_true h4]; rfl
      rw [e2] at q
      by_cases h48 : l = [48]
      · walk_at "T"
        rw [decide_eq_true h48] at q
        exact q H2 e
      · walk_at "F"
        cases l with
        | nil => exact absurd rfl h0
        | cons c r =>
          refine ixS (by omega) (atI_nat (j := 0) rfl) ⟨rfl, ?_⟩
          rw [eqSd]
          rw [decide_eq_false h48, Bool.false_or] at q
          have e3 : (!decide ([c] = [48])) = decide ((c :: r).head? ≠ some 48) := by
            by_cases hc : c = 48
            · subst hc; rfl
            · rw [decide_eq_false (fun z => hc (List.cons.inj z).1), decide_eq_true (p := (c :: r).head? ≠ some 48) (fun z => hc (Option.some.inj z))]; rfl
          rw [e3]
          exact q H2 e
end
end FP
set_option maxHeartbeats 4000000
namespace FP
open PySem PySem.Spec PyProof.Rows L2
local macro_rules | `(tactic| walk_at "rd") => `(tactic| dsimp only [tVar, tC, tCmp, tIsN, tNotN, tB, tAnd, tOr, tNot, tAndV, tOrV, tNotV, tIf, tNext, tSeq, tBreak, tCont, tDrop, tRet, tRetN, tIfS, tNever, tAsg, tPar, tAug, tOp, tUn, tTest, tChain, tFld, tNil, tCons, tTup, tLst, tCB, iList, iTup, iStr, tLc, tM0, tM1, tPart, tNoPart, tSl, tBM, tCallS, tCallSD, WE, tDGet, tDIn, gName, gTup, gCons, gNil, gSub, sFld, sFldAug, rI, rI0, rU, rEq, rNe, rAdd, rSub, t2I, tYes, cx_K, cx_w, cx_prog])
local macro_rules | `(tactic| walk_at "rs") => `(tactic| (try simp only [L2.start, List.map_cons, List.map_nil, List.length_cons, List.length_nil, List.cons_append, List.nil_append, Nat.reduceAdd, Nat.reduceSub, Nat.zero_add, List.replicate, List.getElem?_cons_zero, List.getElem?_cons_succ, Option.some.injEq, exists_eq_left', exists_eq_left, V.int.injEq, V.str.injEq, V.bl.injEq, V.ref.injEq, List.set_cons_zero, List.set_cons_succ, exists_and_left, List.cons.injEq, and_true, true_and, wipe, if_true, if_false, Bool.not_true, Bool.not_false, Bool.false_eq_true, decide_true, decide_false]))
local macro_rules | `(tactic| walk_at "r") => `(tactic| (walk_at "rd"; walk_at "rs"))
local macro_rules | `(tactic| walk_at "T") => `(tactic| (rw [if_pos (by first | assumption | rfl | decide | exact decide_eq_true (by assumption) | (simp [tyOf]; done) | (simp; omega) | omega)]; walk_at "rs"))
local macro_rules | `(tactic| walk_at "F") => `(tactic| (rw [if_neg (by first | assumption | decide | (simp [tyOf]; done) | (simp; omega) | (simp; assumption) | omega)]; walk_at "rs"))
section
variable {P : Program} {w : World} {K : PySem.W.Frag} {mg : Str → Option Value} {base : Heap} {f : Addr} {fd : FuncData}
end
/-! ### methods -/
def tMethW (C : Addr) (m : Str) (sp : Sp) (W : WX) (ta : TE) (t : TA) : TE := fun σ H Q => ta σ H fun x H1 => ∃ a dx fs, x = .ref a ∧ H1 a = some (.ins C dx fs) ∧ fs.lookup m = none ∧ t σ H1 fun vs H2 => sp (.ref a :: vs) H2 Q (WE W σ)
section
variable {X : Cx} {k j : Nat} {C : Addr} {m : Str} {sp : Sp} {W : WX} {pos apos : Pos} {o e : Expr} {es : List Expr} {ta : TE} {t : TA}
theorem pe_m {pl : Sem Bool} (c : MetX X.prog X.w X.K X.mg X.base k C m sp) (hr : Room j X.A) (hk : k ≤ j) (tk : L2N.Takes X W) (he : PE X o ta) (ha : PA X (e :: es) t)
    (hst : starEach (e :: es) X.env = (false, eval e X.env) :: starEach es X.env := by rfl) (hpl : (backTo pos (starEach es X.env)).any (·.1) = false := by rfl)
    (ht : eval (.Call (.Attribute o m apos) (e :: es) [] pos) X.env = (do
      let ov ← eval o X.env
      standAt apos.atName
      let (f, first) ← holding [ov] (getMethod ov m pl)
      callWith pos f first (backTo pos (starEach (e :: es) X.env)) (backToKw pos (keywordEach [] X.env))) := by rfl) :
    PE X (.Call (.Attribute o m apos) (e :: es) [] pos) (tMethW C m sp W ta t) := by
  obtain ⟨f, fd, ps, cl, hm, F, hb⟩ := c.ex
  refine ⟨fun pins s σ H Q I h => ?_⟩
  refine PySem.W.methodCall_KW (pl := pl) (thn (he.run pins s σ H _ I h) fun u s1 ⟨x, H1, I1, rx, a, dx, fs, ex, ea, l, q⟩ => ?_) ht
  subst ex
  obtain rfl : u = Value.ref a := rx
  refine getmeth_ok I1 ea cl hm l ?_
  refine PySem.W.callWith_K (first := [.ref a]) (h₀ := X.base) I.ok.mod.kin hm.kp (thn (ha.run pos pins s1 σ H1 _ I1 q) fun us s2 ⟨vs, H2, I2, r, q2⟩ => ⟨I2.kIn, ?_⟩) hst hpl
  exact run_fnS (us := .ref a :: us) (vs := .ref a :: vs) (E := fun σ => WE W σ) F (hr.mono hk) hb (L2N.passAt tk σ) I2 (.cons rfl r) q2
theorem pe_m0 {pl : Sem Bool} (c : MetX X.prog X.w X.K X.mg X.base k C m sp) (hr : Room j X.A) (hk : k ≤ j) (tk : L2N.Takes X W) (he : PE X o ta)
    (ht : eval (.Call (.Attribute o m apos) [] [] pos) X.env = (do
      let ov ← eval o X.env
      standAt apos.atName
      let (f, first) ← holding [ov] (getMethod ov m pl)
      callWith pos f first (backTo pos (starEach [] X.env)) (backToKw pos (keywordEach [] X.env))) := by rfl) :
    PE X (.Call (.Attribute o m apos) [] [] pos) (tMethW C m sp W ta tNil) := by
  obtain ⟨f, fd, ps, cl, hm, F, hb⟩ := c.ex
  refine ⟨fun pins s σ H Q I h => ?_⟩
  refine PySem.W.methodCall_KW (pl := pl) (thn (he.run pins s σ H _ I h) fun u s1 ⟨x, H1, I1, rx, a, dx, fs, ex, ea, l, q⟩ => ?_) ht
  subst ex
  obtain rfl : u = Value.ref a := rx
  refine getmeth_ok I1 ea cl hm l ?_
  exact PySem.W.callWith_K0 (first := [.ref a]) I1.kIn hm.kp (run_fnS (us := [.ref a]) (vs := [.ref a]) (E := fun σ => WE W σ) F (hr.mono hk) hb (L2N.passAt tk σ) I1 (.cons rfl .nil) q)
end
end FP
set_option maxHeartbeats 4000000
namespace FP
open PySem PySem.Spec PyProof.Rows L2
local macro_rules | `(tactic| walk_at "rd") => `(tactic| dsimp only [tVar, tC, tCmp, tIsN, tNotN, tB, tAnd, tOr, tNot, tAndV, tOrV, tNotV, tIf, tNext, tSeq, tBreak, tCont, tDrop, tRet, tRetN, tIfS, tNever, tAsg, tPar, tAug, tOp, tUn, tTest, tChain, tFld, tNil, tCons, tTup, tLst, tCB, iList, iTup, iStr, tLc, tM0, tM1, tPart, tNoPart, tSl, tBM, tCallS, tCallSD, tMethW, tMake, sDPut, tDisp, tPairs, WE, tDGet, tDIn, gName, gTup, gCons, gNil, gSub, sFld, sFldAug, rI, rI0, rU, rEq, rNe, rAdd, rSub, t2I, tYes, cx_K, cx_w, cx_prog])
local macro_rules | `(tactic| walk_at "rs") => `(tactic| (try simp (maxSteps := 4000000) only [L2.start, List.map_cons, List.map_nil, List.length_cons, List.length_nil, List.cons_append, List.nil_append, Nat.reduceAdd, Nat.reduceSub, Nat.zero_add, List.replicate, List.getElem?_cons_zero, List.getElem?_cons_succ, Option.some.injEq, exists_eq_left', exists_eq_left, V.int.injEq, V.str.injEq, V.bl.injEq, V.ref.injEq, List.set_cons_zero, List.set_cons_succ, exists_and_left, List.cons.injEq, and_true, true_and, wipe, if_true, if_false, Bool.not_true, Bool.not_false, Bool.false_eq_true, decide_true, decide_false]))
local macro_rules | `(tactic| walk_at "r") => `(tactic| (walk_at "rd"; walk_at "rs"))
local macro_rules | `(tactic| walk_at "T") => `(tactic| (rw [if_pos (by first | assumption | rfl | decide | exact decide_eq_true (by assumption) | (simp [tyOf]; done) | (simp; omega) | omega)]; walk_at "rs"))
local macro_rules | `(tactic| walk_at "F") => `(tactic| (rw [if_neg (by first | assumption | decide | (simp [tyOf]; done) | (simp; omega) | (simp; assumption) | omega)]; walk_at "rs"))
/-! ### the class Reader -/
structure RdC (K : PySem.W.Frag) (C : Addr) : Prop where
  cls : Cls K C
  n1 : NoAttr K C "tokens"
  n2 : NoAttr K C "line"
  n3 : NoAttr K C "at"
  n4 : NoAttr K C "limit"
  n5 : NoAttr K C "deep"
/-- its fields -/
def rdF (T : Addr) (i dp : Int) : List (Str × V) := [("tokens", .ref T), ("line", .int 1), ("at", .int i), ("limit", .non), ("deep", .int dp)]
/-- a reader's state -/
structure RdS (K : PySem.W.Frag) (C : Addr) (ts : List (List Nat)) (H : Hp) (r T dx : Addr) (i dp : Nat) : Prop where
  cls : RdC K C
  ins : H r = some (.ins C dx (rdF T (i : Nat) (dp : Nat)))
  lst : SqL K H T (ts.map fun x => V.str (SX.S x))
  ne : T ≠ r
  few : ts.length ≤ 100000
theorem RdS.noTup {K : PySem.W.Frag} {C : Addr} {ts : List (List Nat)} {H : Hp} {r T dx : Addr} {i dp : Nat} (S : RdS K C ts H r T dx i dp) : NoTup H (· = r) := noTup1 S.ins (fun _ => by simp) (fun _ _ => by simp)
theorem RdS.put {K : PySem.W.Frag} {C : Addr} {ts : List (List Nat)} {H : Hp} {r T dx : Addr} {i dp : Nat} (S : RdS K C ts H r T dx i dp) (j : Nat) : RdS K C ts (upd H r (.ins C dx (rdF T (j : Nat) (dp : Nat)))) r T dx j dp :=
  ⟨S.cls, upd_same, SqL.but (S := (· = r)) S.ne (But.upd rfl) S.lst, S.ne, S.few⟩
theorem RdS.fTok {K : PySem.W.Frag} {C : Addr} {ts : List (List Nat)} {H : Hp} {r T dx : Addr} {i dp : Nat} (S : RdS K C ts H r T dx i dp) {R : V → Prop} (q : R (.ref T)) : ∃ x x_1 x_2, H r = some (.ins x x_1 x_2) ∧ Cls K x ∧ NoAttr K x "tokens" ∧ ∃ v, List.lookup ("tokens" : Str) x_2 = some v ∧ R v := ⟨_, _, _, S.ins, S.cls.cls, S.cls.n1, _, rfl, q⟩
theorem RdS.fLine {K : PySem.W.Frag} {C : Addr} {ts : List (List Nat)} {H : Hp} {r T dx : Addr} {i dp : Nat} (S : RdS K C ts H r T dx i dp) {R : V → Prop} (q : R (.int 1)) : ∃ x x_1 x_2, H r = some (.ins x x_1 x_2) ∧ Cls K x ∧ NoAttr K x "line" ∧ ∃ v, List.lookup ("line" : Str) x_2 = some v ∧ R v := ⟨_, _, _, S.ins, S.cls.cls, S.cls.n2, _, rfl, q⟩
theorem RdS.fAt {K : PySem.W.Frag} {C : Addr} {ts : List (List Nat)} {H : Hp} {r T dx : Addr} {i dp : Nat} (S : RdS K C ts H r T dx i dp) {R : V → Prop} (q : R (.int (i : Nat))) : ∃ x x_1 x_2, H r = some (.ins x x_1 x_2) ∧ Cls K x ∧ NoAttr K x "at" ∧ ∃ v, List.lookup ("at" : Str) x_2 = some v ∧ R v := ⟨_, _, _, S.ins, S.cls.cls, S.cls.n3, _, rfl, q⟩
theorem RdS.fAtI {K : PySem.W.Frag} {C : Addr} {ts : List (List Nat)} {H : Hp} {r T dx : Addr} {i dp : Nat} (S : RdS K C ts H r T dx i dp) {R : Int → Prop} (q : R (i : Nat)) : ∃ x x_1 x_2, H r = some (.ins x x_1 x_2) ∧ Cls K x ∧ NoAttr K x "at" ∧ ∃ v, List.lookup ("at" : Str) x_2 = some (V.int v) ∧ R v := ⟨_, _, _, S.ins, S.cls.cls, S.cls.n3, _, rfl, q⟩
theorem RdS.fLim {K : PySem.W.Frag} {C : Addr} {ts : List (List Nat)} {H : Hp} {r T dx : Addr} {i dp : Nat} (S : RdS K C ts H r T dx i dp) {R : V → Prop} (q : R .non) : ∃ x x_1 x_2, H r = some (.ins x x_1 x_2) ∧ Cls K x ∧ NoAttr K x "limit" ∧ ∃ v, List.lookup ("limit" : Str) x_2 = some v ∧ R v := ⟨_, _, _, S.ins, S.cls.cls, S.cls.n4, _, rfl, q⟩
theorem RdS.fDeep {K : PySem.W.Frag} {C : Addr} {ts : List (List Nat)} {H : Hp} {r T dx : Addr} {i dp : Nat} (S : RdS K C ts H r T dx i dp) {R : V → Prop} (q : R (.int (dp : Nat))) : ∃ x x_1 x_2, H r = some (.ins x x_1 x_2) ∧ Cls K x ∧ NoAttr K x "deep" ∧ ∃ v, List.lookup ("deep" : Str) x_2 = some v ∧ R v := ⟨_, _, _, S.ins, S.cls.cls, S.cls.n5, _, rfl, q⟩
theorem RdS.fDeepI {K : PySem.W.Frag} {C : Addr} {ts : List (List Nat)} {H : Hp} {r T dx : Addr} {i dp : Nat} (S : RdS K C ts H r T dx i dp) {R : Int → Prop} (q : R (dp : Nat)) : ∃ x x_1 x_2, H r = some (.ins x x_1 x_2) ∧ Cls K x ∧ NoAttr K x "deep" ∧ ∃ v, List.lookup ("deep" : Str) x_2 = some (V.int v) ∧ R v := ⟨_, _, _, S.ins, S.cls.cls, S.cls.n5, _, rfl, q⟩
/-- the place is set anew -/
theorem RdS.sAt {K : PySem.W.Frag} {C : Addr} {ts : List (List Nat)} {H : Hp} {r T dx : Addr} {i dp : Nat} (S : RdS K C ts H r T dx i dp) {j : Int} {n : Nat} (e : j = (n : Nat)) {R : Hp → Prop} (q : ∀ H', But (· = r) H H' → RdS K C ts H' r T dx n dp → R H') : ∃ C' dx' fs', H r = some (.ins C' dx' fs') ∧ Cls K C' ∧ NoAttr K C' "at" ∧ fs'.length < 1000 ∧ R (upd H r (.ins C' dx' (putF "at" (.int j) fs'))) := by
  subst e
  exact ⟨C, dx, _, S.ins, S.cls.cls, S.cls.n3, (by show 5 < 1000; decide), q _ (But.upd rfl) (S.put n)⟩
theorem RdS.putA {K : PySem.W.Frag} {C : Addr} {ts : List (List Nat)} {H : Hp} {r T dx : Addr} {i dp : Nat} (S : RdS K C ts H r T dx i dp) : RdS K C ts (upd H r (.ins C dx (putF "at" (.int (((i : Nat) : Int) + 1)) (rdF T (i : Nat) (dp : Nat))))) r T dx (i + 1) dp := S.put (i + 1)
theorem But.push {S : Addr → Prop} {H H1 : Hp} {x : Addr} {o : HO} (b : But S H H1) (s : S x) : But S H (L2.upd H1 x o) := b.trans (But.upd s)
theorem RdS.aug {K : PySem.W.Frag} {C : Addr} {ts : List (List Nat)} {H : Hp} {r T dx : Addr} {i dp : Nat} (S : RdS K C ts H r T dx i dp) {R : Hp → Prop} (q : ∀ H', But (· = r) H H' → RdS K C ts H' r T dx (i + 1) dp → R H') : ∃ x x_1 x_2, H r = some (.ins x x_1 x_2) ∧ Cls K x ∧ NoAttr K x "at" ∧ ∃ v, List.lookup ("at" : Str) x_2 = some v ∧ ∃ j, v = V.int j ∧ ∃ dx' fs', H r = some (.ins x dx' fs') ∧ fs'.length < 1000 ∧ R (upd H r (.ins x dx' (putF "at" (.int (j + 1)) fs'))) :=
  ⟨C, dx, _, S.ins, S.cls.cls, S.cls.n3, _, rfl, _, rfl, dx, _, S.ins, (by show 5 < 1000; decide), q _ (But.upd rfl) (S.put (i + 1))⟩
theorem RdS.putD {K : PySem.W.Frag} {C : Addr} {ts : List (List Nat)} {H : Hp} {r T dx : Addr} {i dp : Nat} (S : RdS K C ts H r T dx i dp) (j : Nat) : RdS K C ts (upd H r (.ins C dx (rdF T (i : Nat) (j : Nat)))) r T dx i j :=
  ⟨S.cls, upd_same, SqL.but (S := (· = r)) S.ne (But.upd rfl) S.lst, S.ne, S.few⟩
theorem RdS.augD {K : PySem.W.Frag} {C : Addr} {ts : List (List Nat)} {H : Hp} {r T dx : Addr} {i dp : Nat} (S : RdS K C ts H r T dx i dp) {R : Hp → Prop} (q : ∀ H', But (· = r) H H' → RdS K C ts H' r T dx i (dp + 1) → R H') : ∃ x x_1 x_2, H r = some (.ins x x_1 x_2) ∧ Cls K x ∧ NoAttr K x "deep" ∧ ∃ v, List.lookup ("deep" : Str) x_2 = some v ∧ ∃ j, v = V.int j ∧ ∃ dx' fs', H r = some (.ins x dx' fs') ∧ fs'.length < 1000 ∧ R (upd H r (.ins x dx' (putF "deep" (.int (j + 1)) fs'))) :=
  ⟨C, dx, _, S.ins, S.cls.cls, S.cls.n5, _, rfl, _, rfl, dx, _, S.ins, (by show 5 < 1000; decide), q _ (But.upd rfl) (S.putD (dp + 1))⟩
theorem RdS.subD {K : PySem.W.Frag} {C : Addr} {ts : List (List Nat)} {H : Hp} {r T dx : Addr} {i dp : Nat} (S : RdS K C ts H r T dx i (dp + 1)) {R : Hp → Prop} (q : ∀ H', But (· = r) H H' → RdS K C ts H' r T dx i dp → R H') : ∃ x x_1 x_2, H r = some (.ins x x_1 x_2) ∧ Cls K x ∧ NoAttr K x "deep" ∧ ∃ v, List.lookup ("deep" : Str) x_2 = some v ∧ ∃ j, v = V.int j ∧ ∃ dx' fs', H r = some (.ins x dx' fs') ∧ fs'.length < 1000 ∧ R (upd H r (.ins x dx' (putF "deep" (.int (j - 1)) fs'))) := by
  refine ⟨C, dx, _, S.ins, S.cls.cls, S.cls.n5, _, rfl, _, rfl, dx, _, S.ins, (by show 5 < 1000; decide), q _ (But.upd rfl) ?_⟩
  have e : ((dp + 1 : Nat) : Int) - 1 = (dp : Nat) := by omega
  rw [e]
  exact S.putD dp
theorem RdS.same {K : PySem.W.Frag} {C : Addr} {ts : List (List Nat)} {H H' : Hp} {r T dx : Addr} {i dp : Nat} (S : RdS K C ts H r T dx i dp) (e : Same H H') : RdS K C ts H' r T dx i dp := ⟨S.cls, e _ _ S.ins, e.seq S.lst, S.ne, S.few⟩
def tok (ts : List (List Nat)) (i : Nat) : List Nat := ts.getD i []
/-- an error at e -/
def Er (C : Addr) (r : Addr) (e : Nat) (H : Hp) (E : XK) : Prop := ∀ H' dd, But (· = r) H H' → H' dd = some (.xd [("word", .int ((e + 1 : Nat) : Int)), ("line", .int 1)]) → E (.ref C) (some dd) H'
section
variable {P : Program} {w : World} {K : PySem.W.Frag} {mg : Str → Option Value} {base : Heap} {f : Addr} {fd : FuncData} {C CT : Addr}
def sp_wrong (K : PySem.W.Frag) (C CT : Addr) : Sp := fun vs H Q E => ∃ ts r T dx i dp, vs = [.ref r] ∧ RdS K C ts H r T dx i dp ∧ Er CT r i H E
theorem fn_wrong (F : C8.Fun K "wrong" "Reader.wrong" s_Reader_wrong f fd) (R_BadText : ErrX P w K mg base "BadText" CT "line" "word") : FnOk P w K mg base (L2N.CX P w) 3 f fd ["self"] (sp_wrong K C CT) := by
  refine fnX F sc_Reader_wrong (fun vs H Q E h => by obtain ⟨ts, r, T, dx, i, dp, rfl, _⟩ := h; rfl) fun cdv A outer s H vs Q E hr h => ?_
  obtain ⟨ts, r, T, dx, i, dp, rfl, S, q⟩ := h
  refine ⟨_, (pss_one (ps_raiseX R_BadText rfl hr (by decide) tkw rfl (pe_fld (pv 0) rfl) (pe_op op_add (pe_fld (pv 0) rfl) pe_int))), ?_⟩
  walk_at "r"
  exact S.fLine (S.fAt ⟨_, rfl, fun d nd => q _ d (Same.but (same_new nd _)) upd_same⟩)
def sp_next_is (K : PySem.W.Frag) (C : Addr) : Sp := fun vs H Q _ => ∃ ts r T dx i dp tk, vs = [.ref r, .str (SX.S tk)] ∧ tk ≠ [] ∧ RdS K C ts H r T dx i dp ∧
  ((tok ts i = tk ∧ ∀ H', But (· = r) H H' → RdS K C ts H' r T dx (i + 1) dp → Q (.bl true) H') ∨ (tok ts i ≠ tk ∧ Q (.bl false) H))
theorem fn_next_is (Z : Zb mg) (F : C8.Fun K "next_is" "Reader.next_is" s_Reader_next_is f fd) : FnOk P w K mg base (L2N.CX P w) 1 f fd ["self", "token"] (sp_next_is K C) := by
  refine fnX F sc_Reader_next_is (fun vs H Q E h => by obtain ⟨ts, r, T, dx, i, dp, tk, rfl, _⟩ := h; rfl) fun cdv A outer s H vs Q E hr h => ?_
  obtain ⟨ts, r, T, dx, i, dp, tk, rfl, tn, S, q⟩ := h
  refine ⟨_, (pss_cons (ps_if (PW.pt (pw_and (pt_cmpR op_lt (pe_fld (pv 0) rfl) (pe_callB call_len rfl Z.len PySem.boot_len (pa_cons (pe_fld (pv 0) rfl) pa_nil)) (nomark _)) (pw_and1 (pt_cmpR op_eq (pe_ix ix_list (pe_fld (pv 0) rfl) (pe_fld (pv 0) rfl) (fun _ _ => rfl)) (pv 1) (nomark _))))) (pss_cons (ps_fldaug (pv 0) pe_int in_add)
    (pss_one (ps_ret pe_bl))) pss_nil)
    (pss_one (ps_ret pe_bl))), ?_⟩
  walk_at "r"
  refine S.fAt (S.fTok (lenL S.lst ⟨_, rfl, ?_⟩))
  rw [List.length_map]
  by_cases hi : i < ts.length
  · rw [if_pos (decide_eq_true (by omega))]
    refine S.fTok (S.fAt (ixL S.lst (v := .str (SX.S (tok ts i))) (atI_nat (by rw [List.getElem?_map]; unfold tok; rw [List.getD_eq_getElem?_getD, List.getElem?_eq_getElem hi]; rfl)) ⟨rfl, ?_⟩))
    rw [eqSd]
    rcases q with ⟨e, q⟩ | ⟨e, q⟩
    · rw [if_pos (decide_eq_true e)]
      exact S.aug fun H' k S' => q H' k S'
    · rw [if_neg (fun z => e (of_decide_eq_true z))]
      exact q
  rw [if_neg (fun z => by have := of_decide_eq_true z; omega)]
  rcases q with ⟨e, _⟩ | ⟨_, q⟩
  · exfalso
    unfold tok at e
    rw [List.getD_eq_getElem?_getD, List.getElem?_eq_none (by omega)] at e
    exact tn e.symm
  · exact q
def sp_need (K : PySem.W.Frag) (C CT : Addr) : Sp := fun vs H Q E => ∃ ts r T dx i dp tk, vs = [.ref r, .str (SX.S tk)] ∧ tk ≠ [] ∧ RdS K C ts H r T dx i dp ∧
  ((tok ts i = tk ∧ ∀ H', But (· = r) H H' → RdS K C ts H' r T dx (i + 1) dp → Q .non H') ∨ (tok ts i ≠ tk ∧ Er CT r i H E))
theorem fn_need (F : C8.Fun K "need" "Reader.need" s_Reader_need f fd) (m_next_is : MetX P w K mg base 1 C "next_is" (sp_next_is K C)) (m_wrong : MetX P w K mg base 3 C "wrong" (sp_wrong K C CT)) : FnOk P w K mg base (L2N.CX P w) 4 f fd ["self", "token"] (sp_need K C CT) := by
  refine fnX F sc_Reader_need (fun vs H Q E h => by obtain ⟨ts, r, T, dx, i, dp, tk, rfl, _⟩ := h; rfl) fun cdv A outer s H vs Q E hr h => ?_
  obtain ⟨ts, r, T, dx, i, dp, tk, rfl, tn, S, q⟩ := h
  refine ⟨_, (pss_one (ps_if (pt_not (pt_val (pe_m m_next_is hr (by decide) tkw (pv 0) (pa_cons (pv 1) pa_nil)))) (pss_one (ps_expr (pe_m0 m_wrong hr (by decide) tkw (pv 0)))) pss_nil)), ?_⟩
  walk_at "r"
  refine ⟨dx, _, S.ins, rfl, ?_⟩
  rcases q with ⟨e, q⟩ | ⟨e, q⟩
  · refine ⟨ts, r, T, dx, i, dp, tk, rfl, tn, S, .inl ⟨e, fun H' k S' => ?_⟩⟩
    refine ⟨true, rfl, ?_⟩
    walk_at "F"
    exact q H' k S'
  · refine ⟨ts, r, T, dx, i, dp, tk, rfl, tn, S, .inr ⟨e, ?_⟩⟩
    refine ⟨false, rfl, ?_⟩
    walk_at "T"
    exact ⟨dx, _, S.ins, rfl, ts, r, T, dx, i, dp, rfl, S, q⟩
theorem num_all {l : List Nat} (h : isNum l = true) : l.all (fun c => decide (48 ≤ c) && decide (c ≤ 57)) = true ∧ l ≠ [] ∧ l.length ≤ 400 := by
  unfold isNum at h
  rw [Bool.and_eq_true, Bool.and_eq_true, Bool.and_eq_true] at h
  obtain ⟨⟨⟨h1, h2⟩, h3⟩, _⟩ := h
  refine ⟨List.all_eq_true.mpr fun c hc => ?_, of_decide_eq_true h1, of_decide_eq_true h2⟩
  have z := of_decide_eq_true (List.all_eq_true.mp h3 c hc)
  have z2 : ∀ c ∈ figL, (decide (48 ≤ c) && decide (c ≤ 57)) = true := by decide
  exact z2 c z
def numV (l : List Nat) : Nat := NumText.digitsVal l
def sp_numeral (K : PySem.W.Frag) (C CT : Addr) : Sp := fun vs H Q E => ∃ ts r T dx i dp, vs = [.ref r] ∧ RdS K C ts H r T dx i dp ∧ (∀ t, t ∈ ts → t.length ≤ 100000) ∧
  ((isNum (tok ts i) = true ∧ ∀ H', But (· = r) H H' → RdS K C ts H' r T dx (i + 1) dp → Q (.int (numV (tok ts i) : Nat)) H') ∨ (isNum (tok ts i) = false ∧ Er CT r i H E))
theorem fn_numeral (Z : Zb mg) (F : C8.Fun K "numeral" "Reader.numeral" s_Reader_numeral f fd) (c_is_numeral : CalX P w K mg base 1 "is_numeral" sp_is_numeral) (m_wrong : MetX P w K mg base 3 C "wrong" (sp_wrong K C CT)) : FnOk P w K mg base (L2N.CX P w) 4 f fd ["self"] (sp_numeral K C CT) := by
  refine fnX F sc_Reader_numeral (fun vs H Q E h => by obtain ⟨ts, r, T, dx, i, dp, rfl, _⟩ := h; rfl) fun cdv A outer s H vs Q E hr h => ?_
  obtain ⟨ts, r, T, dx, i, dp, rfl, S, hsz, q⟩ := h
  refine ⟨_, (pss_cons (ps_if (PW.pt (pw_or (pt_cmpR op_ge (pe_fld (pv 0) rfl) (pe_callB call_len rfl Z.len PySem.boot_len (pa_cons (pe_fld (pv 0) rfl) pa_nil)) (nomark _)) (pw_or1 (pt_not (pt_val (pe_x c_is_numeral hr (by decide) tkw rfl (pa_cons (pe_ix ix_list (pe_fld (pv 0) rfl) (pe_fld (pv 0) rfl) (fun _ _ => rfl)) pa_nil))))))) (pss_one (ps_expr (pe_m0 m_wrong hr (by decide) tkw (pv 0)))) pss_nil)
    (pss_cons (ps_fldaug (pv 0) pe_int in_add)
    (pss_one (ps_ret (pe_callTy call_int_str rfl Z.int PyProof.Rows.boot_int (pa_cons (pe_ix ix_list (pe_fld (pv 0) rfl) (pe_op op_sub (pe_fld (pv 0) rfl) pe_int) (fun _ _ => rfl)) pa_nil)))))), ?_⟩
  walk_at "r"
  refine S.fAt (S.fTok (lenL S.lst ⟨_, rfl, ?_⟩))
  rw [List.length_map]
  by_cases hi : i < ts.length
  · rw [if_neg (fun z => by have := of_decide_eq_true z; omega)]
    have hti : ts[i]? = some (tok ts i) := by unfold tok; rw [List.getD_eq_getElem?_getD, List.getElem?_eq_getElem hi]; rfl
    have hat : atI (ts.map fun x => V.str (SX.S x)) ((i : Nat) : Int) = some (.str (SX.S (tok ts i))) := atI_nat (by rw [List.getElem?_map, hti]; rfl)
    refine S.fTok (S.fAt (ixL S.lst hat ⟨_, rfl, hsz _ (List.mem_of_getElem? hti), fun H1 e1 => ?_⟩))
    have S1 := S.same e1
    show ∃ c, _
    rcases q with ⟨e, q⟩ | ⟨e, q⟩
    · rw [e]
      refine ⟨true, rfl, ?_⟩
      walk_at "F"
      have S2 := S1.putA
      refine ⟨C, dx, _, S1.ins, S1.cls.cls, S1.cls.n3, _, rfl, _, rfl, dx, _, S1.ins, (by show 5 < 1000; decide), ?_⟩
      refine S2.fTok (S2.fAt ⟨_, rfl, ?_⟩)
      have ei : ((i + 1 : Nat) : Int) - 1 = (i : Nat) := by omega
      rw [ei]
      refine ixL S2.lst hat ?_
      obtain ⟨n1, n2, n3⟩ := num_all e
      refine ⟨_, rfl, _, SX.int_S n1 n2 (by omega), by rw [S_len]; omega, ?_⟩
      exact q _ (But.push (Same.but e1) rfl) S2
    · rw [e]
      refine ⟨false, rfl, ?_⟩
      walk_at "T"
      exact ⟨dx, _, S1.ins, rfl, ts, r, T, dx, i, dp, rfl, S1, fun H' dd k h => q H' dd ((Same.but e1).trans k) h⟩
  · rw [if_pos (decide_eq_true (by omega))]
    rcases q with ⟨e, _⟩ | ⟨_, q⟩
    · exfalso
      unfold tok at e
      rw [List.getD_eq_getElem?_getD, List.getElem?_eq_none (by omega)] at e
      exact absurd e (by decide)
    · exact ⟨dx, _, S.ins, rfl, ts, r, T, dx, i, dp, rfl, S, q⟩
def sp_end (K : PySem.W.Frag) (C CT : Addr) : Sp := fun vs H Q E => ∃ ts r T dx i dp, vs = [.ref r] ∧ RdS K C ts H r T dx i dp ∧
  ((ts.length ≤ i ∧ Q .non H) ∨ (i < ts.length ∧ Er CT r i H E))
theorem fn_end (Z : Zb mg) (F : C8.Fun K "end" "Reader.end" s_Reader_end f fd) (m_wrong : MetX P w K mg base 3 C "wrong" (sp_wrong K C CT)) : FnOk P w K mg base (L2N.CX P w) 4 f fd ["self"] (sp_end K C CT) := by
  refine fnX F sc_Reader_end (fun vs H Q E h => by obtain ⟨ts, r, T, dx, i, dp, rfl, _⟩ := h; rfl) fun cdv A outer s H vs Q E hr h => ?_
  obtain ⟨ts, r, T, dx, i, dp, rfl, S, q⟩ := h
  refine ⟨_, (pss_cons (ps_if (pt_cmpR op_lt (pe_fld (pv 0) rfl) (pe_callB call_len rfl Z.len PySem.boot_len (pa_cons (pe_fld (pv 0) rfl) pa_nil)) (nomark _)) (pss_one (ps_expr (pe_m0 m_wrong hr (by decide) tkw (pv 0)))) pss_nil)
    (pss_one (ps_if (pt_cmp (pc_notN (pe_fld (pv 0) rfl))) (pss_one ps_never) pss_nil))), ?_⟩
  walk_at "r"
  refine S.fAt (S.fTok (lenL S.lst ⟨_, rfl, ?_⟩))
  rw [List.length_map]
  rcases q with ⟨hi, q⟩ | ⟨hi, q⟩
  · rw [if_neg (fun z => by have := of_decide_eq_true z; omega)]
    exact S.fLim (by rw [if_neg (by decide)]; exact q)
  · rw [if_pos (decide_eq_true (by omega))]
    exact ⟨dx, _, S.ins, rfl, ts, r, T, dx, i, dp, rfl, S, q⟩
def sp_init (K : PySem.W.Frag) (C : Addr) : Sp := fun vs H Q _ => ∃ ts r T dx, vs = [.ref r, .ref T, .int 1] ∧ RdC K C ∧ H r = some (.ins C dx []) ∧ SqL K H T (ts.map fun x => V.str (SX.S x)) ∧ T ≠ r ∧ ts.length ≤ 100000 ∧ ∀ H', But (· = r) H H' → RdS K C ts H' r T dx 0 0 → Q .non H'
theorem fn_init (F : C8.Fun K "__init__" "Reader.__init__" s_Reader___init__ f fd) : FnOk P w K mg base (L2N.CX P w) 1 f fd ["self", "tokens", "line"] (sp_init K C) := by
  refine fnX F sc_Reader___init__ (fun vs H Q E h => by obtain ⟨ts, r, T, dx, rfl, _⟩ := h; rfl) fun cdv A outer s H vs Q E hr h => ?_
  obtain ⟨ts, r, T, dx, rfl, c, hi, sl, ne, few, q⟩ := h
  refine ⟨_, (pss_cons (ps_fld (pv 0) (pv 1) rfl)
    (pss_cons (ps_fld (pv 0) (pv 2) rfl)
    (pss_cons (ps_fld (pv 0) pe_int rfl)
    (pss_cons (ps_fld (pv 0) pe_non rfl)
    (pss_one (ps_fld (pv 0) pe_int rfl)))))), ?_⟩
  walk_at "r"
  refine ⟨C, dx, _, hi, c.cls, c.n1, (show 0 < 1000 by decide), C, dx, _, upd_same, c.cls, c.n2, (show 1 < 1000 by decide), C, dx, _, upd_same, c.cls, c.n3, (show 2 < 1000 by decide), C, dx, _, upd_same, c.cls, c.n4, (show 3 < 1000 by decide), C, dx, _, upd_same, c.cls, c.n5, (show 4 < 1000 by decide), ?_⟩
  have k := But.push (o := .ins C dx (putF "deep" (.int 0) (putF "limit" .non (putF "at" (.int 0) (putF "line" (.int 1) (putF "tokens" (.ref T) [])))))) (But.push (o := .ins C dx (putF "limit" .non (putF "at" (.int 0) (putF "line" (.int 1) (putF "tokens" (.ref T) []))))) (But.push (o := .ins C dx (putF "at" (.int 0) (putF "line" (.int 1) (putF "tokens" (.ref T) [])))) (But.push (o := .ins C dx (putF "line" (.int 1) (putF "tokens" (.ref T) []))) (But.push (S := (· = r)) (x := r) (o := .ins C dx (putF "tokens" (.ref T) [])) (But.refl _ H) rfl) rfl) rfl) rfl) (S := (· = r)) (x := r) rfl
  exact q _ k ⟨c, upd_same, SqL.but (S := (· = r)) ne k sl, ne, few⟩
end
end FP
set_option maxHeartbeats 4000000
namespace FP
open PySem PySem.Spec PyProof.Rows L2
local macro_rules | `(tactic| walk_at "rd") => `(tactic| dsimp only [tVar, tC, tCmp, tIsN, tNotN, tB, tAnd, tOr, tNot, tAndV, tOrV, tNotV, tIf, tNext, tSeq, tBreak, tCont, tDrop, tRet, tRetN, tIfS, tNever, tAsg, tPar, tAug, tOp, tUn, tTest, tChain, tFld, tNil, tCons, tTup, tLst, tCB, iList, iTup, iStr, tLc, tM0, tM1, tPart, tNoPart, tSl, tBM, tCallS, tCallSD, tMethW, tMake, sDPut, tDisp, tPairs, WE, tDGet, tDIn, gName, gTup, gCons, gNil, gSub, sFld, sFldAug, rI, rI0, rU, rEq, rNe, rAdd, rSub, t2I, tYes, cx_K, cx_w, cx_prog])
local macro_rules | `(tactic| walk_at "rs") => `(tactic| (try simp (maxSteps := 4000000) only [L2.start, List.map_cons, List.map_nil, List.length_cons, List.length_nil, List.cons_append, List.nil_append, Nat.reduceAdd, Nat.reduceSub, Nat.zero_add, List.replicate, List.getElem?_cons_zero, List.getElem?_cons_succ, Option.some.injEq, exists_eq_left', exists_eq_left, V.int.injEq, V.str.injEq, V.bl.injEq, V.ref.injEq, List.set_cons_zero, List.set_cons_succ, exists_and_left, List.cons.injEq, and_true, true_and, wipe, if_true, if_false, Bool.not_true, Bool.not_false, Bool.false_eq_true, decide_true, decide_false]))
local macro_rules | `(tactic| walk_at "r") => `(tactic| (walk_at "rd"; walk_at "rs"))
local macro_rules | `(tactic| walk_at "T") => `(tactic| (rw [if_pos (by first | assumption | rfl | decide | exact decide_eq_true (by assumption) | (simp [tyOf]; done) | (simp; omega) | omega)]; walk_at "rs"))
local macro_rules | `(tactic| walk_at "F") => `(tactic| (rw [if_neg (by first | assumption | decide | (simp [tyOf]; done) | (simp; omega) | (simp; assumption) | omega)]; walk_at "rs"))
/-! ### what is read -/
inductive Res
  | ok (a : Nat) (d : PyData)
  | err (e : Nat)
def pvS (ts : List (List Nat)) (below : Bool) (st : Nat) : Res :=
  if isNum (tok ts st) = false then .err st
  else if below = true ∧ numV (tok ts st) = 0 then .err st
  else if numV (tok ts st) ≠ 0 ∧ tok ts (st + 1) = [47] then
    if isNum (tok ts (st + 2)) = false then .err (st + 2)
    else if (ratioOf (.tuple [.int (numV (tok ts st) : Nat), .int (numV (tok ts (st + 2)) : Nat)])).isSome = false then .err (st + 2)
    else .ok (st + 3) (if below = true then oppD (.tuple [.int (numV (tok ts st) : Nat), .int (numV (tok ts (st + 2)) : Nat)]) else .tuple [.int (numV (tok ts st) : Nat), .int (numV (tok ts (st + 2)) : Nat)])
  else .ok (st + 1) (if below = true then oppD (.int (numV (tok ts st) : Nat)) else .int (numV (tok ts st) : Nat))
def pvR (ts : List (List Nat)) (i : Nat) : Res := if tok ts i = [45] then pvS ts true (i + 1) else pvS ts false i
theorem Er.mono {C r : Addr} {e : Nat} {H H1 : Hp} {E : XK} (h : Er C r e H E) (k : But (· = r) H H1) : Er C r e H1 E := fun H' dd k2 x => h H' dd (k.trans k2) x
theorem l_slash : (Str.ofString "/") = SX.S [47] := rfl
section
variable {P : Program} {w : World} {K : PySem.W.Frag} {mg : Str → Option Value} {base : Heap} {f : Addr} {fd : FuncData} {C CT : Addr}
def ends (K : PySem.W.Frag) (C CT : Addr) (ts : List (List Nat)) (r T dx : Addr) (dp : Nat) (H : Hp) (Q : VK) (E : XK) : Res → Prop
  | .ok a d => ∀ v H', But (· = r) H H' → RdS K C ts H' r T dx a dp → Dp K H' v d → Nol d → Q v H'
  | .err e => Er CT r e H E
theorem next_split {ts : List (List Nat)} {H : Hp} {r T dx : Addr} {i dp : Nat} {tk : List Nat} {Q : VK} {E : XK} {W : Str} (eW : W = SX.S tk) (S : RdS K C ts H r T dx i dp) (hn : tk ≠ []) (q : ∀ bl st H', bl = decide (tok ts i = tk) → st = (if tok ts i = tk then i + 1 else i) → But (· = r) H H' → RdS K C ts H' r T dx st dp → Q (.bl bl) H') : sp_next_is K C [.ref r, .str W] H Q E := by
  subst eW
  refine ⟨ts, r, T, dx, i, dp, tk, rfl, hn, S, ?_⟩
  by_cases h : tok ts i = tk
  · exact .inl ⟨h, fun H' k S' => q _ _ H' (decide_eq_true h).symm (if_pos h).symm k S'⟩
  · exact .inr ⟨h, q _ _ H (decide_eq_false h).symm (if_neg h).symm (But.refl _ _) S⟩
theorem num_split {ts : List (List Nat)} {H : Hp} {r T dx : Addr} {i dp : Nat} {Q : VK} {E : XK} (S : RdS K C ts H r T dx i dp) (hsz : ∀ t, t ∈ ts → t.length ≤ 100000) (q : isNum (tok ts i) = true → ∀ H', But (· = r) H H' → RdS K C ts H' r T dx (i + 1) dp → Q (.int (numV (tok ts i) : Nat)) H') (er : isNum (tok ts i) = false → Er CT r i H E) : sp_numeral K C CT [.ref r] H Q E := by
  refine ⟨ts, r, T, dx, i, dp, rfl, S, hsz, ?_⟩
  cases h : isNum (tok ts i) with
  | true => exact .inl ⟨rfl, q h⟩
  | false => exact .inr ⟨rfl, er h⟩
theorem RdS.callW {ts : List (List Nat)} {H : Hp} {r T dx : Addr} {i dp : Nat} {Q : VK} {E : XK} (S : RdS K C ts H r T dx i dp) (er : Er CT r i H E) : ∃ x x_1, H r = some (.ins C x x_1) ∧ List.lookup ("wrong" : Str) x_1 = none ∧ sp_wrong K C CT [.ref r] H Q E := ⟨dx, _, S.ins, rfl, ts, r, T, dx, i, dp, rfl, S, er⟩
theorem skip_if {bl c : Bool} {p X Y : Prop} (hp : p) (hc : c = false) (y : Y) : if bl = true then p ∧ (if c = true then X else Y) else Y := by
  cases bl with
  | true => rw [if_pos rfl, hc]; exact ⟨hp, y⟩
  | false => exact y
theorem eqZ {n : Nat} : decide (V.int ((n : Nat) : Int) = V.int 0) = decide (n = 0) := by
  by_cases h : n = 0
  · subst h; rfl
  · rw [decide_eq_false h, decide_eq_false]
    intro z; injection z with z; omega
theorem RdS.putS {ts : List (List Nat)} {H : Hp} {r T dx : Addr} {i dp : Nat} (S : RdS K C ts H r T dx i dp) (j : Nat) : RdS K C ts (L2.upd H r (.ins C dx (putF "at" (.int ((j : Nat) : Int)) (rdF T (i : Nat) (dp : Nat))))) r T dx j dp := S.put j
/-- the place is set back, then the error -/
theorem RdS.back {ts : List (List Nat)} {H : Hp} {r T dx : Addr} {i dp : Nat} {Q : VK} {E : XK} (S : RdS K C ts H r T dx i dp) (j : Nat) (er : Er CT r j H E) : ∃ x x_1 x_2, H r = some (.ins x x_1 x_2) ∧ Cls K x ∧ NoAttr K x "at" ∧ x_2.length < 1000 ∧ ∃ x_3 x_4, L2.upd H r (.ins x x_1 (putF "at" (.int ((j : Nat) : Int)) x_2)) r = some (.ins C x_3 x_4) ∧ List.lookup ("wrong" : Str) x_4 = none ∧ sp_wrong K C CT [.ref r] (L2.upd H r (.ins x x_1 (putF "at" (.int ((j : Nat) : Int)) x_2))) Q E :=
  ⟨C, dx, _, S.ins, S.cls.cls, S.cls.n3, (by show 5 < 1000; decide), (S.putS j).callW (er.mono (But.upd rfl))⟩
theorem nol_pair (i j : Int) : Nol (.tuple [.int i, .int j]) := .tup fun d hd => by
  rcases List.mem_cons.mp hd with h | hd
  · rw [h]; exact .int i
  · rw [List.mem_singleton.mp hd]; exact .int j
theorem nol_opp {d : PyData} (h : (ratioOf d).isSome = true) : Nol d ∧ Nol (oppD d) := by
  obtain ⟨⟨t, b⟩, hr⟩ := Option.isSome_iff_exists.mp h
  rcases ratio_some hr with ⟨rfl, rfl⟩ | ⟨rfl, _⟩
  · exact ⟨.int _, .int _⟩
  · exact ⟨nol_pair _ _, nol_pair _ _⟩
theorem opp_split {ts : List (List Nat)} {H H2 : Hp} {r T dx : Addr} {a dp : Nat} {Q : VK} {E E' : XK} {bl : Bool} {v : V} {d : PyData} (k : But (· = r) H H2) (S : RdS K C ts H2 r T dx a dp) (hd : Dp K H2 v d) (hr : (ratioOf d).isSome = true) (q : ends K C CT ts r T dx dp H Q E (.ok a (if bl = true then oppD d else d))) : if bl = true then sp_opposite K [v] H2 Q E' else Q v H2 := by
  cases bl with
  | true =>
    rw [if_pos rfl] at q ⊢
    exact ⟨v, d, rfl, hd, hr, fun v' H' e hd' => q v' H' (k.trans (Same.but e)) (S.same e) hd' (nol_opp hr).2⟩
  | false => exact q v H2 k S hd (nol_opp hr).1
def sp_ratio_by (K : PySem.W.Frag) (C CT : Addr) : Sp := fun vs H Q E => ∃ ts r T dx i dp, vs = [.ref r] ∧ RdS K C ts H r T dx i dp ∧ (∀ t, t ∈ ts → t.length ≤ 100000) ∧ ends K C CT ts r T dx dp H Q E (pvR ts i)
theorem ok_ratio_by (D : C8.Def K mg "ratio_by" s_ratio_by f fd) (b : Binds K fd ["reader"] []) (m_next_is : MetX P w K mg base 1 C "next_is" (sp_next_is K C)) (m_wrong : MetX P w K mg base 3 C "wrong" (sp_wrong K C CT)) (m_numeral : MetX P w K mg base 4 C "numeral" (sp_numeral K C CT)) (c_is_ratio : CalX P w K mg base 2 "is_ratio" (sp_is_ratio K)) (c_opposite : CalX P w K mg base 1 "opposite" (sp_opposite K)) : CalX P w K mg base 5 "ratio_by" (sp_ratio_by K C CT) := by
  have nd := sc_ratio_by.nd
  refine calX D b sc_ratio_by (fun vs H Q E h => by obtain ⟨ts, r, T, dx, i, dp, rfl, _⟩ := h; rfl) fun cdv A outer s H vs Q E hr h => ?_
  obtain ⟨ts, r, T, dx, i, dp, rfl, S, hsz, q⟩ := h
  refine ⟨_, (pss_cons (ps_set (i := 1) nd rfl (Or.inl rfl) (pe_m m_next_is hr (by decide) tkw (pv 0) (pa_cons pe_str pa_nil)))
    (pss_cons (ps_set (i := 2) nd rfl (Or.inl rfl) (pe_fld (pv 0) rfl))
    (pss_cons (ps_set (i := 3) nd rfl (Or.inl rfl) (pe_m0 m_numeral hr (by decide) tkw (pv 0)))
    (pss_cons (ps_if (PW.pt (pw_and (pt_val (pv 1)) (pw_and1 (pt_cmpR op_eq (pv 3) pe_int (nomark _))))) (pss_cons (ps_fld (pv 0) (pv 2) rfl)
    (pss_one (ps_expr (pe_m0 m_wrong hr (by decide) tkw (pv 0))))) pss_nil)
    (pss_cons (ps_set (i := 4) nd rfl (Or.inl rfl) (pv 3))
    (pss_cons (ps_if (PW.pt (pw_and (pt_cmpR op_ne (pv 3) pe_int (nomark _)) (pw_and1 (pt_val (pe_m m_next_is hr (by decide) tkw (pv 0) (pa_cons pe_str pa_nil)))))) (pss_cons (ps_set (i := 2) nd rfl (Or.inl rfl) (pe_fld (pv 0) rfl))
    (pss_cons (ps_set (i := 4) nd rfl (Or.inl rfl) (pe_tup (pa_cons (pv 3) (pa_cons (pe_m0 m_numeral hr (by decide) tkw (pv 0)) pa_nil))))
    (pss_one (ps_if (pt_not (pt_val (pe_x c_is_ratio hr (by decide) tkw rfl (pa_cons (pv 4) pa_nil)))) (pss_cons (ps_fld (pv 0) (pv 2) rfl)
    (pss_one (ps_expr (pe_m0 m_wrong hr (by decide) tkw (pv 0))))) pss_nil)))) pss_nil)
    (pss_one (ps_ret (pe_ifExp (pt_val (pv 1)) (pe_x c_opposite hr (by decide) tkw rfl (pa_cons (pv 4) pa_nil)) (pv 4)))))))))), ?_⟩
  walk_at "r"
  refine ⟨dx, _, S.ins, rfl, ?_⟩
  refine next_split l_minus S (by simp) fun bl st H0 eb est k0 S0 => ?_
  walk_at "rs"
  have q0 : ends K C CT ts r T dx dp H Q E (pvS ts bl st) := by
    subst eb est
    unfold pvR at q
    by_cases h1 : tok ts i = [45]
    · rw [if_pos h1] at q; rw [decide_eq_true h1, if_pos h1]; exact q
    · rw [if_neg h1] at q; rw [decide_eq_false h1, if_neg h1]; exact q
  refine S0.fAt ⟨dx, _, S0.ins, rfl, ?_⟩
  refine num_split S0 hsz (fun hn H1 k1 S1 => ?_) (fun hn => ?_)
  case refine_2 =>
    unfold pvS at q0
    rw [if_pos hn] at q0
    exact Er.mono q0 k0
  have k01 := k0.trans k1
  unfold pvS at q0
  rw [if_neg (by rw [hn]; decide)] at q0
  by_cases hz : numV (tok ts st) = 0
  · have eZ : decide (V.int ((numV (tok ts st) : Nat) : Int) = V.int 0) = true := by rw [eqZ]; exact decide_eq_true hz
    cases bl with
    | true =>
      rw [if_pos ⟨rfl, hz⟩] at q0
      rw [if_pos rfl]
      refine ⟨rfl, ?_⟩
      rw [eZ]
      walk_at "T"
      exact S1.back st (Er.mono q0 k01)
    | false =>
      rw [if_neg (fun z => absurd z.1 (by decide)), if_neg (fun z => z.1 hz)] at q0
      rw [if_neg (by decide)]
      refine ⟨rfl, ?_⟩
      rw [eZ]
      walk_at "rs"
      exact opp_split (E' := E) (bl := false) k01 S1 (.int _) rfl q0
  · have eZ : decide (V.int ((numV (tok ts st) : Nat) : Int) = V.int 0) = false := by rw [eqZ]; exact decide_eq_false hz
    rw [if_neg (fun z => hz z.2)] at q0
    refine skip_if rfl eZ ?_
    refine ⟨rfl, ?_⟩
    rw [eZ]
    walk_at "rs"
    refine ⟨dx, _, S1.ins, rfl, ?_⟩
    refine next_split l_slash S1 (by simp) fun b2 st2 H2 eb2 est2 k2 S2 => ?_
    have k02 := k01.trans k2
    walk_at "rs"
    by_cases hs : tok ts (st + 1) = [47]
    case neg =>
      rw [if_neg (fun z => hs z.2)] at q0
      rw [decide_eq_false hs] at eb2
      rw [if_neg hs] at est2
      subst eb2 est2
      walk_at "F"
      exact opp_split k02 S2 (.int _) rfl q0
    rw [if_pos ⟨hz, hs⟩] at q0
    rw [decide_eq_true hs] at eb2
    rw [if_pos hs] at est2
    subst eb2 est2
    walk_at "T"
    refine S2.fAt ⟨dx, _, S2.ins, rfl, ?_⟩
    refine num_split S2 hsz (fun hn3 H3 k3 S3 => ?_) (fun hn3 => ?_)
    case refine_2 =>
      rw [if_pos hn3] at q0
      exact Er.mono q0 k02
    have k03 := k02.trans k3
    have e2 : st + 1 + 1 = st + 2 := rfl
    rw [e2] at hn3 S2 S3
    rw [if_neg (by rw [hn3]; decide)] at q0
    refine ⟨sz (by decide), fun p np => ?_⟩
    have S4 := S3.same (same_new np (.tup [.int (numV (tok ts st) : Nat), .int (numV (tok ts (st + 2)) : Nat)]))
    have k04 := k03.trans (Same.but (same_new np (.tup [.int (numV (tok ts st) : Nat), .int (numV (tok ts (st + 2)) : Nat)])))
    have hd : Dp K (L2.upd H3 p (.tup [.int (numV (tok ts st) : Nat), .int (numV (tok ts (st + 2)) : Nat)])) (.ref p) (.tuple [.int (numV (tok ts st) : Nat), .int (numV (tok ts (st + 2)) : Nat)]) := Dp.of_pair (.inl (.inl upd_same))
    refine ⟨_, rfl, .inl ⟨_, hd, ?_⟩⟩
    cases hr2 : (ratioOf (.tuple [.int (numV (tok ts st) : Nat), .int (numV (tok ts (st + 2)) : Nat)])).isSome with
    | false =>
      rw [if_pos hr2] at q0
      refine ⟨false, rfl, ?_⟩
      walk_at "T"
      exact S4.back (st + 2) (Er.mono q0 k04)
    | true =>
      rw [if_neg (by rw [hr2]; decide)] at q0
      refine ⟨true, rfl, ?_⟩
      walk_at "F"
      exact opp_split k04 S4 hd hr2 q0
end
end FP
set_option maxHeartbeats 4000000
namespace FP
open PySem PySem.Spec PyProof.Rows L2
local macro_rules | `(tactic| walk_at "rd") => `(tactic| dsimp only [tVar, tC, tCmp, tIsN, tNotN, tB, tAnd, tOr, tNot, tAndV, tOrV, tNotV, tIf, tNext, tSeq, tBreak, tCont, tDrop, tRet, tRetN, tIfS, tNever, tAsg, tPar, tAug, tOp, tUn, tTest, tChain, tFld, tNil, tCons, tTup, tLst, tCB, iList, iTup, iStr, tLc, tM0, tM1, tPart, tNoPart, tSl, tBM, tCallS, tCallSD, tMethW, tMake, sDPut, tDisp, tPairs, WE, tDGet, tDIn, gName, gTup, gCons, gNil, gSub, sFld, sFldAug, rI, rI0, rU, rEq, rNe, rAdd, rSub, t2I, tYes, cx_K, cx_w, cx_prog])
local macro_rules | `(tactic| walk_at "rs") => `(tactic| (try simp (maxSteps := 4000000) only [L2.start, List.map_cons, List.map_nil, List.length_cons, List.length_nil, List.cons_append, List.nil_append, Nat.reduceAdd, Nat.reduceSub, Nat.zero_add, List.replicate, List.getElem?_cons_zero, List.getElem?_cons_succ, Option.some.injEq, exists_eq_left', exists_eq_left, V.int.injEq, V.str.injEq, V.bl.injEq, V.ref.injEq, List.set_cons_zero, List.set_cons_succ, exists_and_left, List.cons.injEq, and_true, true_and, wipe, if_true, if_false, Bool.not_true, Bool.not_false, Bool.false_eq_true, decide_true, decide_false]))
local macro_rules | `(tactic| walk_at "r") => `(tactic| (walk_at "rd"; walk_at "rs"))
local macro_rules | `(tactic| walk_at "T") => `(tactic| (rw [if_pos (by first | assumption | rfl | decide | exact decide_eq_true (by assumption) | (simp [tyOf]; done) | (simp; omega) | omega)]; walk_at "rs"))
local macro_rules | `(tactic| walk_at "F") => `(tactic| (rw [if_neg (by first | assumption | decide | (simp [tyOf]; done) | (simp; omega) | (simp; assumption) | omega)]; walk_at "rs"))
/-! ### values in brackets -/
def PN (F : Nat → Res → Prop) (ts : List (List Nat)) : Nat → Nat → List PyData → Res → Prop
  | 0, a, acc, r => (tok ts a = [41] ∧ r = .ok (a + 1) (.tuple acc)) ∨ (tok ts a ≠ [44] ∧ tok ts a ≠ [41] ∧ r = .err a)
  | m + 1, a, acc, r => (tok ts a = [44] ∧ ((∃ e, F (a + 1) (.err e) ∧ r = .err e) ∨ ∃ b d, F (a + 1) (.ok b d) ∧ PN F ts m b (acc ++ [d]) r)) ∨
      (tok ts a = [41] ∧ r = .ok (a + 1) (.tuple acc)) ∨ (tok ts a ≠ [44] ∧ tok ts a ≠ [41] ∧ r = .err a)
def PL (F : Nat → Res → Prop) (ts : List (List Nat)) (i : Nat) (r : Res) : Prop := (∃ e, F i (.err e) ∧ r = .err e) ∨ ∃ a d, F i (.ok a d) ∧
  ((tok ts a ≠ [44] ∧ r = .err a) ∨ (tok ts a = [44] ∧ tok ts (a + 1) = [41] ∧ r = .ok (a + 2) (.tuple [d])) ∨
   (tok ts a = [44] ∧ tok ts (a + 1) ≠ [41] ∧ ((∃ e, F (a + 1) (.err e) ∧ r = .err e) ∨ ∃ b d', F (a + 1) (.ok b d') ∧ ∃ m, m ≤ 1000 ∧ PN F ts m b [d, d'] r)))
def PV (ts : List (List Nat)) : Nat → Nat → Res → Prop
  | 0, i, r => tok ts i ≠ [40] ∧ r = pvR ts i
  | n + 1, i, r => (tok ts i ≠ [40] ∧ r = pvR ts i) ∨ (tok ts i = [40] ∧ ((tok ts (i + 1) = [41] ∧ r = .ok (i + 2) (.tuple [])) ∨ (tok ts (i + 1) ≠ [41] ∧ PL (PV ts n) ts (i + 1) r)))
section
variable {P : Program} {w : World} {K : PySem.W.Frag} {mg : Str → Option Value} {base : Heap} {f : Addr} {fd : FuncData} {C CT : Addr}
def sp_value_by (K : PySem.W.Frag) (C CT : Addr) (n : Nat) : Sp := fun vs H Q E => ∃ ts r T dx i dp res, vs = [.ref r] ∧ RdS K C ts H r T dx i dp ∧ dp + n ≤ 50 ∧ (∀ t, t ∈ ts → t.length ≤ 100000) ∧ PV ts n i res ∧ ends K C CT ts r T dx dp H Q E res
theorem ends_mono {ts : List (List Nat)} {r T dx : Addr} {dp : Nat} {H H1 : Hp} {Q : VK} {E : XK} {res : Res} (k : But (· = r) H H1) (h : ends K C CT ts r T dx dp H Q E res) : ends K C CT ts r T dx dp H1 Q E res := by
  cases res with
  | ok a d => exact fun v H' k2 => h v H' (k.trans k2)
  | err e => exact Er.mono h k
theorem val_split {ts : List (List Nat)} {r T dx : Addr} {i dp n : Nat} {H : Hp} {Q : VK} {E : XK} (S : RdS K C ts H r T dx i dp) (hdp : dp + n ≤ 50) (hsz : ∀ t, t ∈ ts → t.length ≤ 100000)
    (h : (∃ e, PV ts n i (.err e) ∧ Er CT r e H E) ∨ ∃ a d, PV ts n i (.ok a d) ∧ ∀ v H', But (· = r) H H' → RdS K C ts H' r T dx a dp → Dp K H' v d → Nol d → Q v H') : 0 < n + 1 ∧ sp_value_by K C CT (n + 1 - 1) [.ref r] H Q E := by
  refine ⟨Nat.succ_pos _, ?_⟩
  rcases h with ⟨e, h, q⟩ | ⟨a, d, h, q⟩
  · exact ⟨ts, r, T, dx, i, dp, _, rfl, S, hdp, hsz, h, q⟩
  · exact ⟨ts, r, T, dx, i, dp, _, rfl, S, hdp, hsz, h, q⟩
theorem RdS.deepUp {ts : List (List Nat)} {H : Hp} {r T dx : Addr} {i dp : Nat} (S : RdS K C ts H r T dx i dp) : ∃ H2, L2.upd H r (.ins C dx (putF "deep" (.int (((dp : Nat) : Int) + 1)) (rdF T (i : Nat) (dp : Nat)))) = H2 ∧ But (· = r) H H2 ∧ RdS K C ts H2 r T dx i (dp + 1) := ⟨_, rfl, But.upd rfl, S.putD (dp + 1)⟩
theorem RdS.deepDn {ts : List (List Nat)} {H : Hp} {r T dx : Addr} {i dp : Nat} (S : RdS K C ts H r T dx i (dp + 1)) : ∃ H2, L2.upd H r (.ins C dx (putF "deep" (.int (((dp + 1 : Nat) : Int) - 1)) (rdF T (i : Nat) ((dp + 1 : Nat) : Int)))) = H2 ∧ But (· = r) H H2 ∧ RdS K C ts H2 r T dx i dp := by
  have e : ((dp + 1 : Nat) : Int) - 1 = (dp : Nat) := by omega
  rw [e]
  exact ⟨_, rfl, But.upd rfl, S.putD dp⟩
theorem need_split {ts : List (List Nat)} {H : Hp} {r T dx : Addr} {i dp : Nat} {tk : List Nat} {Q : VK} {E : XK} {W : Str} (eW : W = SX.S tk) (S : RdS K C ts H r T dx i dp) (hn : tk ≠ []) (q : tok ts i = tk → ∀ H', But (· = r) H H' → RdS K C ts H' r T dx (i + 1) dp → Q .non H') (er : tok ts i ≠ tk → Er CT r i H E) : sp_need K C CT [.ref r, .str W] H Q E := by
  subst eW
  refine ⟨ts, r, T, dx, i, dp, tk, rfl, hn, S, ?_⟩
  by_cases h : tok ts i = tk
  · exact .inl ⟨h, q h⟩
  · exact .inr ⟨h, er h⟩
theorem RdS.app {ts : List (List Nat)} {H H1 : Hp} {r T dx D : Addr} {i dp a dp' : Nat} {o : HO} (S0 : RdS K C ts H r T dx i dp) (k : But (· = r) H H1) (S1 : RdS K C ts H1 r T dx a dp') (nD : H D = none) : RdS K C ts (L2.upd H1 D o) r T dx a dp' ∧ But (· = r) H (L2.upd H1 D o) := by
  have ne : r ≠ D := fun z => by have := S0.ins; rw [z, nD] at this; cases this
  have k2 : But (· = r) H (L2.upd H1 D o) := fun b u n h => by
    rw [upd_ne (fun z => by rw [z, nD] at h; cases h)]
    exact k b u n h
  exact ⟨⟨S1.cls, by rw [upd_ne ne]; exact S1.ins, SqL.but (S := (· = r)) S0.ne k2 S0.lst, S1.ne, S1.few⟩, k2⟩
theorem tail_ok {ts : List (List Nat)} {H H' : Hp} {r T dx D : Addr} {dp a : Nat} {Q : VK} {E : XK} {xs : List V} {acc : List PyData} (S : RdS K C ts H' r T dx a (dp + 1)) (hD : H' D = some (.lst xs)) (al : DpAll K H' xs acc) (nl : ∀ d, d ∈ acc → Nol d) (k : But (· = r) H H') (q : ends K C CT ts r T dx dp H Q E (.ok a (.tuple acc))) :
    ∃ x x_3 x_4, H' r = some (.ins x x_3 x_4) ∧ Cls K x ∧ NoAttr K x "deep" ∧ ∃ x_5, List.lookup ("deep" : Str) x_4 = some x_5 ∧ ∃ i, x_5 = V.int i ∧ ∃ dx' fs', H' r = some (.ins x dx' fs') ∧ fs'.length < 1000 ∧
      ∃ x_6, (SqL K (L2.upd H' r (.ins x dx' (putF "deep" (.int (i - 1)) fs'))) D x_6 ∧ ∀ l, (L2.upd H' r (.ins x dx' (putF "deep" (.int (i - 1)) fs'))) l = none → Q (.ref l) (L2.upd (L2.upd H' r (.ins x dx' (putF "deep" (.int (i - 1)) fs'))) l (.tup x_6))) ∨
        SqT K (L2.upd H' r (.ins x dx' (putF "deep" (.int (i - 1)) fs'))) D x_6 ∧ Q (.ref D) (L2.upd H' r (.ins x dx' (putF "deep" (.int (i - 1)) fs'))) := by
  refine ⟨C, dx, _, S.ins, S.cls.cls, S.cls.n5, _, rfl, _, rfl, dx, _, S.ins, (by show 5 < 1000; decide), ?_⟩
  obtain ⟨H2, e2, k2, S2⟩ := S.deepDn
  rw [e2]
  have ne : ¬ D = r := fun z => by have := S.ins; rw [← z, hD] at this; cases this
  refine ⟨xs, .inl ⟨.inl (.inl (k2 _ _ ne hD)), fun l nl' => ?_⟩⟩
  have e3 := same_new nl' (.tup xs)
  exact q _ _ ((k.trans k2).trans (Same.but e3)) (S2.same e3) (.tup (.inl (.inl upd_same)) (DpAll.same e3 (DpAll.but S.noTup k2 nl al))) (.tup nl)
/-- the loop's state -/
def vbI (K : PySem.W.Frag) (C : Addr) (ts : List (List Nat)) (r T dx D : Addr) (dp n : Nat) (H : Hp) (res : Res) (m : Nat) (σ : L2.St) (H' : Hp) : Prop := ∃ a acc xs, RdS K C ts H' r T dx a (dp + 1) ∧ But (· = r) H H' ∧ H' D = some (.lst xs) ∧ DpAll K H' xs acc ∧ (∀ d, d ∈ acc → Nol d) ∧ acc.length + m ≤ 1100 ∧ PN (PV ts n) ts m a acc res ∧ σ = [some (.ref r), some (.ref D)]
theorem l_comma : (Str.ofString ",") = SX.S [44] := rfl
theorem fn_value_by (Z : Zb mg) (D : C8.Def K mg "value_by" s_value_by f fd) (b : Binds K fd ["reader"] []) {n : Nat} (G_MOST_DEEP : ∃ t, mg "MOST_DEEP" = some (.int 50 t)) (m_next_is : MetX P w K mg base 1 C "next_is" (sp_next_is K C)) (m_need : MetX P w K mg base 4 C "need" (sp_need K C CT)) (c_ratio_by : CalX P w K mg base 5 "ratio_by" (sp_ratio_by K C CT)) (c_value_by : CalX P w K mg base (n + 5) "value_by" (fun vs H Q E => 0 < n ∧ sp_value_by K C CT (n - 1) vs H Q E)) : CalX P w K mg base (n + 6) "value_by" (sp_value_by K C CT n) := by
  have nd := sc_value_by.nd
  refine calX D b sc_value_by (fun vs H Q E h => by obtain ⟨ts, r, T, dx, i, dp, res, rfl, _⟩ := h; rfl) fun cdv A outer s H vs Q E hr h => ?_
  obtain ⟨ts, r, T, dx, i, dp, res, rfl, S, hdp, hsz, hpv, q⟩ := h
  refine ⟨_, (pss_cons (ps_if (PW.pt (pw_or (pt_cmpR op_ge (pe_fld (pv 0) rfl) (pe_ci rfl G_MOST_DEEP) (nomark _)) (pw_or1 (pt_not (pt_val (pe_m m_next_is hr (by(omega)) tkw (pv 0) (pa_cons pe_str pa_nil))))))) (pss_one (ps_ret (pe_x c_ratio_by hr (by(omega)) tkw rfl (pa_cons (pv 0) pa_nil)))) pss_nil)
    (pss_cons (ps_if (pt_val (pe_m m_next_is hr (by(omega)) tkw (pv 0) (pa_cons pe_str pa_nil))) (pss_one (ps_ret (pe_tup pa_nil))) pss_nil)
    (pss_cons (ps_fldaug (pv 0) pe_int in_add)
    (pss_cons (ps_set (i := 1) nd rfl (Or.inl rfl) (pe_lst (pa_cons (pe_x c_value_by hr (by(omega)) tkw rfl (pa_cons (pv 0) pa_nil)) pa_nil)))
    (pss_cons (ps_expr (pe_m m_need hr (by(omega)) tkw (pv 0) (pa_cons pe_str pa_nil)))
    (pss_cons (ps_if (pt_not (pt_val (pe_m m_next_is hr (by(omega)) tkw (pv 0) (pa_cons pe_str pa_nil)))) (pss_cons (ps_expr (pe_bm PySem.F.plainAttrs_list PySem.F.slot_list_append PySem.F.type_list_append mt_append (pv 1) (pa_cons (pe_x c_value_by hr (by(omega)) tkw rfl (pa_cons (pv 0) pa_nil)) pa_nil)))
    (pss_cons (ps_while (L2.passes_of rfl) (pt_val (pe_m m_next_is hr (by(omega)) tkw (pv 0) (pa_cons pe_str pa_nil))) (pss_one (ps_expr (pe_bm PySem.F.plainAttrs_list PySem.F.slot_list_append PySem.F.type_list_append mt_append (pv 1) (pa_cons (pe_x c_value_by hr (by(omega)) tkw rfl (pa_cons (pv 0) pa_nil)) pa_nil)))))
    (pss_one (ps_expr (pe_m m_need hr (by(omega)) tkw (pv 0) (pa_cons pe_str pa_nil)))))) pss_nil)
    (pss_cons (ps_fldaug (pv 0) pe_int in_sub)
    (pss_one (ps_ret (pe_callTy call_tuple_of rfl Z.tuple PyProof.Rows.boot_tuple (pa_cons (pv 1) pa_nil))))))))))), ?_⟩
  walk_at "r"
  refine S.fDeep ⟨_, rfl, ?_⟩
  have rat : ∀ H1 E', But (· = r) H H1 → RdS K C ts H1 r T dx i dp → tok ts i ≠ [40] → (∀ cls d H', E cls d H' → E' cls d H') → sp_ratio_by K C CT [.ref r] H1 Q E' := by
    intro H1 E' k S1 ht hE
    have e : res = pvR ts i := by
      cases n with
      | zero => exact hpv.2
      | succ n =>
        rcases hpv with h | h
        · exact h.2
        · exact absurd h.1 ht
    rw [e] at q
    refine ⟨ts, r, T, dx, i, dp, rfl, S1, hsz, ?_⟩
    have q1 := ends_mono k q
    cases h : pvR ts i with
    | ok a d => rw [h] at q1; exact q1
    | err e => rw [h] at q1; exact fun H' dd k2 x => hE _ _ _ (q1 H' dd k2 x)
  by_cases hd50 : 50 ≤ dp
  · rw [if_pos (decide_eq_true (by omega))]
    refine rat H _ (But.refl _ _) S ?_ (fun _ _ _ h => h)
    have : n = 0 := by omega
    subst this
    exact hpv.1
  rw [if_neg (fun z => by have := of_decide_eq_true z; omega)]
  refine ⟨dx, _, S.ins, rfl, ?_⟩
  refine next_split l_open S (by simp) fun bl st H0 eb est k0 S0 => ?_
  by_cases ht : tok ts i = [40]
  case neg =>
    rw [decide_eq_false ht] at eb
    rw [if_neg ht] at est
    subst eb est
    refine ⟨false, rfl, ?_⟩
    walk_at "T"
    exact rat H0 _ k0 S0 ht (fun _ _ _ h => h)
  rw [decide_eq_true ht] at eb
  rw [if_pos ht] at est
  subst eb est
  refine ⟨true, rfl, ?_⟩
  walk_at "F"
  obtain ⟨n, rfl, hp2⟩ : ∃ n', n = n' + 1 ∧ ((tok ts (i + 1) = [41] ∧ res = .ok (i + 2) (.tuple [])) ∨ (tok ts (i + 1) ≠ [41] ∧ PL (PV ts n') ts (i + 1) res)) := by
    cases n with
    | zero => exact absurd ht hpv.1
    | succ n =>
      rcases hpv with h | h
      · exact absurd ht h.1
      · exact ⟨n, rfl, h.2⟩
  refine ⟨dx, _, S0.ins, rfl, ?_⟩
  refine next_split l_close S0 (by simp) fun bl st H1 eb est k1 S1 => ?_
  have k01 := k0.trans k1
  rcases hp2 with ⟨hc, rfl⟩ | ⟨hc, hpl⟩
  · rw [decide_eq_true hc] at eb
    rw [if_pos hc] at est
    subst eb est
    refine ⟨true, rfl, ?_⟩
    walk_at "T"
    refine ⟨sz (by decide), fun p np => ?_⟩
    exact q _ _ (k01.trans (Same.but (same_new np _))) (S1.same (same_new np _)) (.tup (.inl (.inl upd_same)) .nil) (.tup fun _ h => nomatch h)
  rw [decide_eq_false hc] at eb
  rw [if_neg hc] at est
  subst eb est
  refine ⟨false, rfl, ?_⟩
  walk_at "F"
  refine ⟨C, dx, _, S1.ins, S1.cls.cls, S1.cls.n5, _, rfl, _, rfl, dx, _, S1.ins, (by show 5 < 1000; decide), ?_⟩
  obtain ⟨H2, e2, k2, S2⟩ := S1.deepUp
  rw [e2]
  have k02 := k01.trans k2
  refine val_split S2 (by omega) hsz ?_
  rcases hpl with ⟨e, he, rfl⟩ | ⟨a, d, hF, hpl⟩
  · exact .inl ⟨e, he, Er.mono q k02⟩
  refine .inr ⟨a, d, hF, fun v H3 k3 S3 hd3 nl3 => ?_⟩
  have k03 := k02.trans k3
  refine ⟨sz (by decide), fun D nD3 => ?_⟩
  have nD : H D = none := by
    cases h : H D with
    | none => rfl
    | some o =>
      have ne : ¬ D = r := fun z => by have := S3.ins; rw [← z, nD3] at this; cases this
      have := k03 D o ne h
      rw [nD3] at this; cases this
  obtain ⟨S4, k04⟩ := S.app (o := .lst [v]) k03 S3 nD
  refine ⟨dx, _, S4.ins, rfl, ?_⟩
  refine need_split l_comma S4 (by simp) (fun hc H5 k5 S5 => ?_) (fun hc => ?_)
  case refine_2 =>
    rcases hpl with ⟨_, rfl⟩ | ⟨h, _⟩ | ⟨h, _⟩
    · exact Er.mono q k04
    · exact absurd h hc
    · exact absurd h hc
  have k05 := k04.trans k5
  have neD : ∀ {H' : Hp} {a' dp' : Nat} {xs : List V}, RdS K C ts H' r T dx a' dp' → H' D = some (.lst xs) → ¬ D = r := fun S h z => by have := S.ins; rw [← z, h] at this; cases this
  have hD4 : (L2.upd H3 D (.lst [v])) D = some (.lst [v]) := upd_same
  have hD5 : H5 D = some (.lst [v]) := k5 _ _ (neD S4 hD4) hD4
  have al4 : DpAll K (L2.upd H3 D (.lst [v])) [v] [d] := .cons (Dp.same (same_new nD3 _) hd3) .nil
  have nl1 : ∀ d', d' ∈ [d] → Nol d' := fun d' h => by rw [List.mem_singleton.mp h]; exact nl3
  have al5 : DpAll K H5 [v] [d] := DpAll.but S4.noTup k5 nl1 al4
  refine ⟨dx, _, S5.ins, rfl, ?_⟩
  refine next_split l_close S5 (by simp) fun bl st H6 eb est k6 S6 => ?_
  have k06 := k05.trans k6
  have hD6 : H6 D = some (.lst [v]) := k6 _ _ (neD S5 hD5) hD5
  have al6 : DpAll K H6 [v] [d] := DpAll.but S5.noTup k6 nl1 al5
  rcases hpl with ⟨h, _⟩ | ⟨_, hc2, rfl⟩ | ⟨_, hc2, hpl⟩
  · exact absurd hc h
  · rw [decide_eq_true hc2] at eb
    rw [if_pos hc2] at est
    subst eb est
    refine ⟨true, rfl, ?_⟩
    walk_at "F"
    exact tail_ok S6 hD6 al6 nl1 k06 q
  rw [decide_eq_false hc2] at eb
  rw [if_neg hc2] at est
  subst eb est
  refine ⟨false, rfl, ?_⟩
  walk_at "T"
  refine ⟨tyL hD6, ?_⟩
  refine val_split S6 (by omega) hsz ?_
  rcases hpl with ⟨e, he, rfl⟩ | ⟨b', d', hF2, m, hm, hpn⟩
  · exact .inl ⟨e, he, Er.mono q k06⟩
  refine .inr ⟨b', d', hF2, fun v' H7 k7 S7 hd7 nl7 => ?_⟩
  have k07 := k06.trans k7
  have hD7 : H7 D = some (.lst [v]) := k7 _ _ (neD S6 hD6) hD6
  have al7 : DpAll K H7 [v] [d] := DpAll.but S6.noTup k7 nl1 al6
  refine ⟨D, _, v', rfl, rfl, hD7, szL (by show 1 < 1000000; decide), ?_⟩
  -- the loop
  have step : ∀ {H' : Hp} {a' dp' : Nat} {xs : List V} {acc : List PyData} {v : V} {d : PyData}, RdS K C ts H' r T dx a' dp' → But (· = r) H H' → H' D = some (.lst xs) → DpAll K H' xs acc → (∀ d, d ∈ acc → Nol d) → Dp K H' v d → Nol d →
      RdS K C ts (L2.upd H' D (.lst (xs ++ [v]))) r T dx a' dp' ∧ But (· = r) H (L2.upd H' D (.lst (xs ++ [v]))) ∧ DpAll K (L2.upd H' D (.lst (xs ++ [v]))) (xs ++ [v]) (acc ++ [d]) ∧ (∀ d', d' ∈ acc ++ [d] → Nol d') := by
    intro H' a' dp' xs acc v d S' k' hD' al' nl' hd' nd'
    obtain ⟨S8, k8⟩ := S.app (o := .lst (xs ++ [v])) k' S' nD
    refine ⟨S8, k8, DpAll.append (DpAll.but (noTupD hD') (But.upd rfl) nl' al') (.cons (Dp.but (noTupD hD') (But.upd rfl) nd' hd') .nil), fun d2 h => ?_⟩
    rcases List.mem_append.mp h with h | h
    · exact nl' d2 h
    · rw [List.mem_singleton.mp h]; exact nd'
  obtain ⟨S8, k8, al8, nl8⟩ := step S7 k07 hD7 al7 nl1 hd7 nl7
  refine ⟨vbI K C ts r T dx D dp n H res, ⟨m, b', _, _, S8, k8, upd_same, al8, nl8, (by show 2 + m ≤ 1100; omega), hpn, rfl⟩, ?_⟩
  rintro m σ H' ⟨a', acc, xs, S9, k9, hD9, al9, nl9, hlen, hpn, rfl⟩
  walk_at "r"
  refine ⟨dx, _, S9.ins, rfl, ?_⟩
  refine next_split l_comma S9 (by simp) fun bl st H10 eb est k10 S10 => ?_
  have k010 := k9.trans k10
  have hD10 : H10 D = some (.lst xs) := k10 _ _ (neD S9 hD9) hD9
  have al10 : DpAll K H10 xs acc := DpAll.but S9.noTup k10 nl9 al9
  refine ⟨bl, rfl, ?_⟩
  by_cases hc3 : tok ts a' = [44]
  · rw [decide_eq_true hc3] at eb
    rw [if_pos hc3] at est
    subst eb est
    rw [if_pos rfl]
    refine ⟨_, fun _ _ h => h, tyL hD10, ?_⟩
    refine val_split S10 (by omega) hsz ?_
    cases m with
    | zero =>
      rcases hpn with ⟨h, _⟩ | ⟨h, _⟩
      · rw [hc3] at h; exact absurd h (by decide)
      · exact absurd hc3 h
    | succ m =>
      rcases hpn with ⟨_, h⟩ | ⟨h, _⟩ | ⟨h, _⟩
      · rcases h with ⟨e, he, rfl⟩ | ⟨b2, d2, hF3, hpn⟩
        · exact .inl ⟨e, he, Er.mono q k010⟩
        refine .inr ⟨b2, d2, hF3, fun v11 H11 k11 S11 hd11 nl11 => ?_⟩
        have k011 := k010.trans k11
        have hD11 : H11 D = some (.lst xs) := k11 _ _ (neD S10 hD10) hD10
        have al11 : DpAll K H11 xs acc := DpAll.but S10.noTup k11 nl9 al10
        obtain ⟨S12, k12, al12, nl12⟩ := step S11 k011 hD11 al11 nl9 hd11 nl11
        have hx := DpAll.length al11
        refine ⟨D, _, v11, rfl, rfl, hD11, szL (by omega), m, Nat.lt_succ_self m, b2, _, _, S12, k12, upd_same, al12, nl12, (by rw [List.length_append]; show acc.length + 1 + m ≤ 1100; omega), hpn, rfl⟩
      · rw [hc3] at h; exact absurd h (by decide)
      · exact absurd hc3 h
  · rw [decide_eq_false hc3] at eb
    rw [if_neg hc3] at est
    subst eb est
    rw [if_neg (by decide)]
    have hpn2 : (tok ts st = [41] ∧ res = .ok (st + 1) (.tuple acc)) ∨ (tok ts st ≠ [44] ∧ tok ts st ≠ [41] ∧ res = .err st) := by
      cases m with
      | zero => exact hpn
      | succ m =>
        rcases hpn with ⟨h, _⟩ | h
        · exact absurd h hc3
        · exact h
    refine ⟨dx, _, S10.ins, rfl, ?_⟩
    refine need_split l_close S10 (by simp) (fun hc4 H11 k11 S11 => ?_) (fun hc4 => ?_)
    · rcases hpn2 with ⟨_, rfl⟩ | ⟨_, h, _⟩
      · exact tail_ok S11 (k11 _ _ (neD S10 hD10) hD10) (DpAll.but S10.noTup k11 nl9 al10) nl9 (k010.trans k11) q
      · exact absurd hc4 h
    · rcases hpn2 with ⟨h, _⟩ | ⟨_, _, rfl⟩
      · exact absurd h hc4
      · exact Er.mono q k010
theorem ok_value_by (Z : Zb mg) (D : C8.Def K mg "value_by" s_value_by f fd) (b : Binds K fd ["reader"] []) (G_MOST_DEEP : ∃ t, mg "MOST_DEEP" = some (.int 50 t)) (m_next_is : MetX P w K mg base 1 C "next_is" (sp_next_is K C)) (m_need : MetX P w K mg base 4 C "need" (sp_need K C CT)) (c_ratio_by : CalX P w K mg base 5 "ratio_by" (sp_ratio_by K C CT)) : ∀ n, CalX P w K mg base (n + 6) "value_by" (sp_value_by K C CT n)
  | 0 => fn_value_by Z D b G_MOST_DEEP m_next_is m_need c_ratio_by ((CalX.none D b _).imp fun _ _ _ _ h => absurd h.1 (Nat.lt_irrefl 0))
  | n + 1 => fn_value_by Z D b G_MOST_DEEP m_next_is m_need c_ratio_by ((ok_value_by Z D b G_MOST_DEEP m_next_is m_need c_ratio_by n).imp fun _ _ _ _ h => h.2)
end
end FP
set_option maxHeartbeats 4000000
namespace FP
open PySem PySem.Spec PyProof.Rows L2
local macro_rules | `(tactic| walk_at "rd") => `(tactic| dsimp only [tVar, tC, tCmp, tIsN, tNotN, tB, tAnd, tOr, tNot, tAndV, tOrV, tNotV, tIf, tNext, tSeq, tBreak, tCont, tDrop, tRet, tRetN, tIfS, tNever, tAsg, tPar, tAug, tOp, tUn, tTest, tChain, tFld, tNil, tCons, tTup, tLst, tCB, iList, iTup, iStr, tLc, tM0, tM1, tPart, tNoPart, tSl, tBM, tCallS, tCallSD, tMethW, tMake, sDPut, tDisp, tPairs, WE, tDGet, tDIn, gName, gTup, gCons, gNil, gSub, sFld, sFldAug, rI, rI0, rU, rEq, rNe, rAdd, rSub, t2I, tYes, cx_K, cx_w, cx_prog])
local macro_rules | `(tactic| walk_at "rs") => `(tactic| (try simp (maxSteps := 4000000) only [L2.start, List.map_cons, List.map_nil, List.length_cons, List.length_nil, List.cons_append, List.nil_append, Nat.reduceAdd, Nat.reduceSub, Nat.zero_add, List.replicate, List.getElem?_cons_zero, List.getElem?_cons_succ, Option.some.injEq, exists_eq_left', exists_eq_left, V.int.injEq, V.str.injEq, V.bl.injEq, V.ref.injEq, List.set_cons_zero, List.set_cons_succ, exists_and_left, List.cons.injEq, and_true, true_and, wipe, if_true, if_false, Bool.not_true, Bool.not_false, Bool.false_eq_true, decide_true, decide_false]))
local macro_rules | `(tactic| walk_at "r") => `(tactic| (walk_at "rd"; walk_at "rs"))
local macro_rules | `(tactic| walk_at "T") => `(tactic| (rw [if_pos (by first | assumption | rfl | decide | exact decide_eq_true (by assumption) | (simp [tyOf]; done) | (simp; omega) | omega)]; walk_at "rs"))
local macro_rules | `(tactic| walk_at "F") => `(tactic| (rw [if_neg (by first | assumption | decide | (simp [tyOf]; done) | (simp; omega) | (simp; assumption) | omega)]; walk_at "rs"))
structure MkX (P : Program) (w : World) (K : PySem.W.Frag) (mg : Str → Option Value) (base : Heap) (k : Nat) (x : Str) (C : Addr) (sp : Sp) : Prop where
  ex : ∃ (f : Addr) (fd : FuncData) (ps : List Str), Mk K C f ∧ FnOk P w K mg base (L2N.CX P w) k f fd ps sp ∧ mg x = some (.ref C) ∧ Binds K fd ps []
section
variable {X : Cx} {k j : Nat} {C : Addr} {x : Str} {sp : Sp} {p pos : Pos} {e : Expr} {es : List Expr} {t : TA}
theorem pe_mk (c : MkX X.prog X.w X.K X.mg X.base k x C sp) (hr : Room j X.A) (hk : k + 1 ≤ j) (hg : Gl X x) (ha : PA X (e :: es) t)
    (hdb : (x == ("__debug__" : Str)) = false := by decide) (he : starEach (e :: es) X.env = (false, eval e X.env) :: starEach es X.env := by rfl) (hpl : (backTo pos (starEach es X.env)).any (·.1) = false := by rfl) :
    PE X (.Call (.Name x p) (e :: es) [] pos) (tMake C sp [] (fun _ _ _ => False) t) := by
  obtain ⟨f, fd, ps, M, F, hm, hb⟩ := c.ex
  refine pe_make M F (hr.mono hk) hg hm hb .nil (fun _ _ _ _ _ _ _ h => ?_) ha hdb he hpl
  obtain ⟨_, _, _, _, _, _, _, _, _, _, _, _, z⟩ := h
  exact z.elim
end
section
variable {P : Program} {w : World} {K : PySem.W.Frag} {mg : Str → Option Value} {base : Heap} {f : Addr} {fd : FuncData} {C CT : Addr}
def fin1 (ts : List (List Nat)) : Res → Res
  | .ok a d => if ts.length ≤ a then .ok a d else .err a
  | .err e => .err e
def endsS (K : PySem.W.Frag) (CT : Addr) (H : Hp) (Q : VK) (E : XK) : Res → Prop
  | .ok _ d => ∀ v H', Same H H' → Dp K H' v d → Nol d → Q v H'
  | .err e => ∀ H' dd, Same H H' → H' dd = some (.xd [("word", .int ((e + 1 : Nat) : Int)), ("line", .int 1)]) → E (.ref CT) (some dd) H'
def sp_value_in (K : PySem.W.Frag) (CT : Addr) (n : Nat) : Sp := fun vs H Q E => ∃ ts T res, vs = [.ref T, .int 0, .int 1] ∧ SqL K H T (ts.map fun x => V.str (SX.S x)) ∧ (∃ xs, H T = some (.lst xs)) ∧ ts.length ≤ 100000 ∧ (∀ t, t ∈ ts → t.length ≤ 100000) ∧ PV ts n 0 res ∧ endsS K CT H Q E (fin1 ts res)
theorem ok_value_in (D : C8.Def K mg "value_in" s_value_in f fd) (b : Binds K fd ["tokens", "at", "line"] []) {n : Nat} (hn : n ≤ 50) (RC : RdC K C) (MK_Reader : MkX P w K mg base 1 "Reader" C (sp_init K C)) (c_value_by : CalX P w K mg base (n + 6) "value_by" (sp_value_by K C CT n)) (m_end : MetX P w K mg base 4 C "end" (sp_end K C CT)) : CalX P w K mg base (n + 7) "value_in" (sp_value_in K CT n) := by
  have nd := sc_value_in.nd
  refine calX D b sc_value_in (fun vs H Q E h => by obtain ⟨ts, T, res, rfl, _⟩ := h; rfl) fun cdv A outer s H vs Q E hr h => ?_
  obtain ⟨ts, T, res, rfl, sl, hT, few, hsz, hpv, q⟩ := h
  refine ⟨_, (pss_cons (ps_set (i := 3) nd rfl (Or.inl rfl) (pe_mk MK_Reader hr (by(omega)) rfl (pa_cons (pv 0) (pa_cons (pv 2) pa_nil))))
    (pss_cons (ps_fld (pv 3) (pv 1) rfl)
    (pss_cons (ps_set (i := 4) nd rfl (Or.inl rfl) (pe_x c_value_by hr (by(omega)) tkw rfl (pa_cons (pv 3) pa_nil)))
    (pss_cons (ps_expr (pe_m0 m_end hr (by(omega)) tkw (pv 3)))
    (pss_one (ps_ret (pv 4))))))), ?_⟩
  walk_at "r"
  intro r dx nr ndx ne
  have nT : T ≠ r := fun z => by obtain ⟨xs, h⟩ := hT; rw [z, nr] at h; cases h
  have e0 : Same H (upd (upd H dx (.own r)) r (.ins C dx [])) := (same_new ndx _).trans (same_new (by rw [upd_ne (Ne.symm ne)]; exact nr) _)
  refine ⟨ts, r, T, dx, rfl, RC, upd_same, e0.seq sl, nT, few, fun H1 k1 S1 => ⟨rfl, ?_⟩⟩
  have e1 : Same H H1 := Same.of_but nr (o := .ins C dx []) (H2 := H1) (fun b o n h => by
    refine k1 b o n ?_
    rw [upd_ne n] at h
    exact e0 b o h)
  walk_at "rs"
  refine ⟨C, dx, _, S1.ins, S1.cls.cls, S1.cls.n3, (by show 5 < 1000; decide), ?_⟩
  have S2 := S1.putS 0
  have k2 : But (· = r) H1 (upd H1 r (.ins C dx (putF "at" (.int ((0 : Nat) : Int)) (rdF T ((0 : Nat) : Int) ((0 : Nat) : Int))))) := But.upd rfl
  have up : ∀ {H'}, But (· = r) (upd H1 r (.ins C dx (putF "at" (.int ((0 : Nat) : Int)) (rdF T ((0 : Nat) : Int) ((0 : Nat) : Int))))) H' → Same H H' := fun k b o h => by
    refine (k2.trans k) b o (fun z => ?_) (e1 b o h)
    rw [z, nr] at h; cases h
  refine ⟨ts, r, T, dx, 0, 0, res, rfl, S2, by omega, hsz, hpv, ?_⟩
  cases res with
  | err e => exact fun H' dd k x => q H' dd (up k) x
  | ok a d =>
    intro v H3 k3 S3 hd nl
    walk_at "rs"
    refine ⟨dx, _, S3.ins, rfl, ts, r, T, dx, a, 0, rfl, S3, ?_⟩
    have q : endsS K CT H Q E (if ts.length ≤ a then .ok a d else .err a) := q
    by_cases hl : ts.length ≤ a
    · rw [if_pos hl] at q
      exact .inl ⟨hl, q v H3 (up k3) hd nl⟩
    · rw [if_neg hl] at q
      exact .inr ⟨by omega, fun H' dd k x => q H' dd (up (k3.trans k)) x⟩
theorem Toks.each : ∀ {t : List Nat} {ts : List (List Nat)}, Toks t ts → ∀ u, u ∈ ts → u.length ≤ t.length
  | _, _, .nil, _, h => nomatch h
  | _, _, .sp h, u, m => Nat.le_succ_of_le (Toks.each h u m)
  | _, _, .one _ _ _ h, u, m => by
    rcases List.mem_cons.mp m with rfl | m
    · simp
    · exact Nat.le_succ_of_le (Toks.each h u m)
  | _, _, .fig (c := c) (w := w) (r := r) _ _ h, u, m => by
    rcases List.mem_cons.mp m with rfl | m
    · simp
    · have := Toks.each h u m; simp; omega
  | _, _, .ltr (c := c) (w := w) (r := r) _ _ h, u, m => by
    rcases List.mem_cons.mp m with rfl | m
    · simp
    · have := Toks.each h u m; simp; omega
def sp_value_of_text (K : PySem.W.Frag) (CT : Addr) (n : Nat) : Sp := fun vs H Q E => (∃ t ts res, vs = [.str (SX.S t)] ∧ t.length ≤ 100000 ∧ Toks t ts ∧ PV ts n 0 res ∧ endsS K CT H Q E (fin1 ts res)) ∨
  (∃ v k, vs = [v] ∧ Kd K H v k ∧ (k == "str") = false ∧ ∀ H' dd, Same H H' → H' dd = some (.xd [("word", .int 0), ("line", .int 0)]) → E (.ref CT) (some dd) H')
theorem ok_value_of_text (D : C8.Def K mg "value_of_text" s_value_of_text f fd) (b : Binds K fd ["text"] []) {n : Nat} (hn : n ≤ 50) (c_tokens_of : CalX P w K mg base 3 "tokens_of" (sp_tokens_of K CT)) (c_value_in : CalX P w K mg base (n + 7) "value_in" (sp_value_in K CT n)) : CalX P w K mg base (n + 8) "value_of_text" (sp_value_of_text K CT n) := by
  refine calX D b sc_value_of_text (fun vs H Q E h => by rcases h with ⟨t, ts, res, rfl, _⟩ | ⟨v, k, rfl, _⟩ <;> rfl) fun cdv A outer s H vs Q E hr h => ?_
  refine ⟨_, (pss_one (ps_ret (pe_x c_value_in hr (by(omega)) tkw rfl (pa_cons (pe_x c_tokens_of hr (by(omega)) tkw rfl (pa_cons (pv 0) pa_nil)) (pa_cons pe_int (pa_cons pe_int pa_nil)))))), ?_⟩
  walk_at "rd"
  rcases h with ⟨t, ts, res, rfl, hl, tk, hpv, q⟩ | ⟨v, k, rfl, kd, nk, q⟩
  · walk_at "rs"
    refine .inl ⟨t, ts, rfl, hl, tk, fun D1 H1 e1 hD => ?_⟩
    refine ⟨ts, D1, res, rfl, .inl (.inl hD), ⟨_, hD⟩, Nat.le_trans (Toks.len tk) hl, fun u m => Nat.le_trans (Toks.each tk u m) hl, hpv, ?_⟩
    cases h : fin1 ts res with
    | ok a d => rw [h] at q; exact fun v H' e => q v H' (e1.trans e)
    | err e => rw [h] at q; exact fun H' dd e' x => q H' dd (e1.trans e') x
  · walk_at "rs"
    exact .inr ⟨v, k, rfl, kd, nk, q⟩
end
end FP
set_option maxHeartbeats 4000000
namespace FP
open PySem PySem.Spec PyProof.Rows L2
local macro_rules | `(tactic| walk_at "rd") => `(tactic| dsimp only [tVar, tC, tCmp, tIsN, tNotN, tB, tAnd, tOr, tNot, tAndV, tOrV, tNotV, tIf, tNext, tSeq, tBreak, tCont, tDrop, tRet, tRetN, tIfS, tNever, tAsg, tPar, tAug, tOp, tUn, tTest, tChain, tFld, tNil, tCons, tTup, tLst, tCB, iList, iTup, iStr, tLc, tM0, tM1, tPart, tNoPart, tSl, tBM, tCallS, tCallSD, tMethW, tMake, sDPut, tDisp, tPairs, WE, tDGet, tDIn, gName, gTup, gCons, gNil, gSub, sFld, sFldAug, rI, rI0, rU, rEq, rNe, rAdd, rSub, t2I, tYes, cx_K, cx_w, cx_prog])
local macro_rules | `(tactic| walk_at "rs") => `(tactic| (try simp (maxSteps := 4000000) only [L2.start, List.map_cons, List.map_nil, List.length_cons, List.length_nil, List.cons_append, List.nil_append, Nat.reduceAdd, Nat.reduceSub, Nat.zero_add, List.replicate, List.getElem?_cons_zero, List.getElem?_cons_succ, Option.some.injEq, exists_eq_left', exists_eq_left, V.int.injEq, V.str.injEq, V.bl.injEq, V.ref.injEq, List.set_cons_zero, List.set_cons_succ, exists_and_left, List.cons.injEq, and_true, true_and, wipe, if_true, if_false, Bool.not_true, Bool.not_false, Bool.false_eq_true, decide_true, decide_false]))
local macro_rules | `(tactic| walk_at "r") => `(tactic| (walk_at "rd"; walk_at "rs"))
local macro_rules | `(tactic| walk_at "T") => `(tactic| (rw [if_pos (by first | assumption | rfl | decide | exact decide_eq_true (by assumption) | (simp [tyOf]; done) | (simp; omega) | omega)]; walk_at "rs"))
local macro_rules | `(tactic| walk_at "F") => `(tactic| (rw [if_neg (by first | assumption | decide | (simp [tyOf]; done) | (simp; omega) | (simp; assumption) | omega)]; walk_at "rs"))
/-! ### the pen -/
def penK (T : Addr) (at_ dg ct fo : Int) : List (Key × V) := [(.inr "cells", .ref T), (.inr "at", .int at_), (.inr "digits", .int dg), (.inr "count", .int ct), (.inr "fold", .int fo)]
theorem pg1 {T : Addr} {a d c f : Int} : valV (penK T a d c f) (.inr "cells") = some (.ref T) := rfl
theorem pg2 {T : Addr} {a d c f : Int} : valV (penK T a d c f) (.inr "at") = some (.int a) := rfl
theorem pg3 {T : Addr} {a d c f : Int} : valV (penK T a d c f) (.inr "digits") = some (.int d) := rfl
theorem pg4 {T : Addr} {a d c f : Int} : valV (penK T a d c f) (.inr "count") = some (.int c) := rfl
theorem pg5 {T : Addr} {a d c f : Int} : valV (penK T a d c f) (.inr "fold") = some (.int f) := rfl
theorem pp2 {T : Addr} {a d c f x : Int} : putK (penK T a d c f) (.inr "at") (.int x) = penK T x d c f := rfl
theorem pp3 {T : Addr} {a d c f x : Int} : putK (penK T a d c f) (.inr "digits") (.int x) = penK T a x c f := rfl
theorem pp4 {T : Addr} {a d c f x : Int} : putK (penK T a d c f) (.inr "count") (.int x) = penK T a d x f := rfl
theorem pp5 {T : Addr} {a d c f x : Int} : putK (penK T a d c f) (.inr "fold") (.int x) = penK T a d c x := rfl
/-- a pen's state -/
structure PenS (K : PySem.W.Frag) (H : Hp) (p T : Addr) (cells : List Int) (at_ : Nat) (dg ct fo : Int) : Prop where
  d : H p = some (.dK (penK T (at_ : Nat) dg ct fo))
  l : SqL K H T (cells.map V.int)
  ne : ¬ T = p
  n0 : 0 ≤ dg
  f0 : 0 ≤ fo
  f1 : fo < 2147483648
def Pen (K : PySem.W.Frag) (H : Hp) (p : Addr) (tc : Addr × List Int) : Prop := ∃ at_ dg ct fo, PenS K H p tc.1 tc.2 at_ dg ct fo
section
variable {K : PySem.W.Frag} {H : Hp} {p T : Addr} {cells : List Int} {at_ : Nat} {dg ct fo : Int}
theorem PenS.g1 (S : PenS K H p T cells at_ dg ct fo) : DGet H p (.str "cells") (some (.ref T)) := .inl ⟨_, .inr "cells", .inl S.d, rfl, rfl⟩
theorem PenS.g2 (S : PenS K H p T cells at_ dg ct fo) : DGet H p (.str "at") (some (.int (at_ : Nat))) := .inl ⟨_, .inr "at", .inl S.d, rfl, rfl⟩
theorem PenS.g3 (S : PenS K H p T cells at_ dg ct fo) : DGet H p (.str "digits") (some (.int dg)) := .inl ⟨_, .inr "digits", .inl S.d, rfl, rfl⟩
theorem PenS.g4 (S : PenS K H p T cells at_ dg ct fo) : DGet H p (.str "count") (some (.int ct)) := .inl ⟨_, .inr "count", .inl S.d, rfl, rfl⟩
theorem PenS.g5 (S : PenS K H p T cells at_ dg ct fo) : DGet H p (.str "fold") (some (.int fo)) := .inl ⟨_, .inr "fold", .inl S.d, rfl, rfl⟩
theorem PenS.up (S : PenS K H p T cells at_ dg ct fo) (a2 : Nat) (d2 c2 f2 : Int) (h0 : 0 ≤ d2) (h1 : 0 ≤ f2) (h2 : f2 < 2147483648) : But (· = p) H (L2.upd H p (.dK (penK T (a2 : Nat) d2 c2 f2))) ∧ PenS K (L2.upd H p (.dK (penK T (a2 : Nat) d2 c2 f2))) p T cells a2 d2 c2 f2 :=
  ⟨But.upd rfl, upd_same, SqL.but (S := (· = p)) S.ne (But.upd rfl) S.l, S.ne, h0, h1, h2⟩
theorem PenS.s2 (S : PenS K H p T cells at_ dg ct fo) {x : Int} (n : Nat) (e : x = (n : Nat)) : ∃ H', DPut H p (.str "at") (.int x) H' ∧ But (· = p) H H' ∧ PenS K H' p T cells n dg ct fo := by
  subst e
  exact ⟨_, .inl ⟨_, .inr "at", S.d, rfl, szL (by show 5 < 1000000; decide), rfl⟩, S.up n dg ct fo S.n0 S.f0 S.f1⟩
theorem PenS.s3 (S : PenS K H p T cells at_ dg ct fo) (x : Int) (h : 0 ≤ x) : ∃ H', DPut H p (.str "digits") (.int x) H' ∧ But (· = p) H H' ∧ PenS K H' p T cells at_ x ct fo :=
  ⟨_, .inl ⟨_, .inr "digits", S.d, rfl, szL (by show 5 < 1000000; decide), rfl⟩, S.up at_ x ct fo h S.f0 S.f1⟩
theorem PenS.s4 (S : PenS K H p T cells at_ dg ct fo) (x : Int) : ∃ H', DPut H p (.str "count") (.int x) H' ∧ But (· = p) H H' ∧ PenS K H' p T cells at_ dg x fo :=
  ⟨_, .inl ⟨_, .inr "count", S.d, rfl, szL (by show 5 < 1000000; decide), rfl⟩, S.up at_ dg x fo S.n0 S.f0 S.f1⟩
theorem PenS.s5 (S : PenS K H p T cells at_ dg ct fo) (x : Int) (h : 0 ≤ x) (h2 : x < 2147483648) : ∃ H', DPut H p (.str "fold") (.int x) H' ∧ But (· = p) H H' ∧ PenS K H' p T cells at_ dg ct x :=
  ⟨_, .inl ⟨_, .inr "fold", S.d, rfl, szL (by show 5 < 1000000; decide), rfl⟩, S.up at_ dg ct x S.n0 h h2⟩
end
theorem cmulM {i x : Int} : CMul i (x % 2147483647) := by
  have h1 : 0 ≤ x % 2147483647 := Int.emod_nonneg _ (by decide)
  have h2 : x % 2147483647 < 2147483647 := Int.emod_lt_of_pos _ (by decide)
  exact .inr ⟨Int.lt_of_lt_of_le (by decide) h1, Int.lt_trans h2 (by decide)⟩
theorem cmulR {i j : Int} (h : -(2 ^ 64) < j ∧ j < 2 ^ 64) : CMul i j := .inr h
section
variable {P : Program} {w : World} {K : PySem.W.Frag} {mg : Str → Option Value} {base : Heap} {f : Addr} {fd : FuncData}
def sp_law_draw (K : PySem.W.Frag) : Sp := fun vs H Q _ => ∃ p tc m, vs = [.ref p, .int m] ∧ 0 < m ∧ m < 1073741824 ∧ Pen K H p tc ∧ ∀ d H', 0 ≤ d → d < m → But (· = p) H H' → Pen K H' p tc → Q (.int d) H'
theorem ok_law_draw (Z : Zb mg) (D : C8.Def K mg "_law_draw" s_law_draw f fd) (b : Binds K fd ["pen", "many"] []) : CalX P w K mg base 1 "_law_draw" (sp_law_draw K) := by
  have nd := sc_law_draw.nd
  refine calX D b sc_law_draw (fun vs H Q E h => by obtain ⟨p, tc, m, rfl, _⟩ := h; rfl) fun cdv A outer s H vs Q E hr h => ?_
  obtain ⟨p, ⟨T, cells⟩, m, rfl, m0, m1, ⟨at_, dg, ct, fo, S⟩, q⟩ := h
  replace S : PenS K H p T cells at_ dg ct fo := S
  refine ⟨_, (pss_cons (ps_dput (hu_of hr) (pv 0) pe_str (pe_op op_add (pe_dget (hu_of hr) (pv 0) pe_str (fun _ _ => rfl)) pe_int) rfl)
    (pss_cons (ps_if (PW.pt (pw_and (pt_cmpR op_eq (pe_dget (hu_of hr) (pv 0) pe_str (fun _ _ => rfl)) pe_int (nomark _)) (pw_and1 (pt_cmpR op_lt (pe_dget (hu_of hr) (pv 0) pe_str (fun _ _ => rfl)) (pe_callB call_len rfl Z.len PySem.boot_len (pa_cons (pe_dget (hu_of hr) (pv 0) pe_str (fun _ _ => rfl)) pa_nil)) (nomark _))))) (pss_cons (ps_set (i := 2) nd rfl (Or.inl rfl) (pe_ix ix_list (pe_dget (hu_of hr) (pv 0) pe_str (fun _ _ => rfl)) (pe_dget (hu_of hr) (pv 0) pe_str (fun _ _ => rfl)) (fun _ _ => rfl)))
    (pss_cons (ps_dput (hu_of hr) (pv 0) pe_str (pe_op op_add (pe_dget (hu_of hr) (pv 0) pe_str (fun _ _ => rfl)) pe_int) rfl)
    (pss_one (ps_if (pt_cmpR op_ge (pv 2) (pe_op op_pow2 pe_int pe_int) (nomark _)) (pss_one (ps_dput (hu_of hr) (pv 0) pe_str (pe_op op_sub (pv 2) (pe_op op_pow2 pe_int pe_int)) rfl)) (pss_one (ps_dput (hu_of hr) (pv 0) pe_str (pe_op op_mod (pe_callTy call_int1 rfl Z.int PyProof.Rows.boot_int (pa_cons (pe_op op_add (pe_op op_mul (pe_dget (hu_of hr) (pv 0) pe_str (fun _ _ => rfl)) pe_int) (pv 2)) pa_nil)) pe_int) rfl)))))) pss_nil)
    (pss_cons (ps_if (pt_cmpR op_gt (pe_dget (hu_of hr) (pv 0) pe_str (fun _ _ => rfl)) pe_int (nomark _)) (pss_cons (ps_set (i := 3) nd rfl (Or.inl rfl) (pe_op op_mod (pe_callTy call_int1 rfl Z.int PyProof.Rows.boot_int (pa_cons (pe_dget (hu_of hr) (pv 0) pe_str (fun _ _ => rfl)) pa_nil)) (pv 1)))
    (pss_cons (ps_dput (hu_of hr) (pv 0) pe_str (pe_op op_fdiv (pe_dget (hu_of hr) (pv 0) pe_str (fun _ _ => rfl)) (pv 1)) rfl)
    (pss_one (ps_ret (pv 3))))) pss_nil)
    (pss_cons (ps_set (i := 4) nd rfl (Or.inl rfl) (pe_op op_mod (pe_callTy call_int1 rfl Z.int PyProof.Rows.boot_int (pa_cons (pe_op op_add (pe_op op_add (pe_op op_mul (pe_dget (hu_of hr) (pv 0) pe_str (fun _ _ => rfl)) pe_int) (pe_op op_mul (pe_dget (hu_of hr) (pv 0) pe_str (fun _ _ => rfl)) pe_int)) pe_int) pa_nil)) pe_int))
    (pss_cons (ps_set (i := 4) nd rfl (Or.inl rfl) (pe_op op_mod (pe_callTy call_int1 rfl Z.int PyProof.Rows.boot_int (pa_cons (pe_op op_add (pe_op op_add (pe_op op_mul (pv 4) (pv 4)) (pe_op op_mul pe_int (pv 4))) (pe_dget (hu_of hr) (pv 0) pe_str (fun _ _ => rfl))) pa_nil)) pe_int))
    (pss_cons (ps_dput (hu_of hr) (pv 0) pe_str (pe_op op_mod (pe_callTy call_int1 rfl Z.int PyProof.Rows.boot_int (pa_cons (pe_op op_add (pe_op op_mul (pv 4) pe_int) pe_int) pa_nil)) pe_int) rfl)
    (pss_one (ps_ret (pe_op op_mod (pe_callTy call_int1 rfl Z.int PyProof.Rows.boot_int (pa_cons (pe_op op_fdiv (pv 4) pe_int) pa_nil)) (pv 1)))))))))), ?_⟩
  walk_at "r"
  obtain ⟨H1, e1, k1, S1⟩ := S.s4 (ct + 1)
  refine ⟨_, S.g4, _, rfl, H1, e1, _, S1.g3, rfl, ?_⟩
  have four : dg ≠ 0 ∨ (dg = 0 ∧ ¬ at_ < cells.length) ∨ (∃ c, dg = 0 ∧ at_ < cells.length ∧ cells[at_]? = some c ∧ 10 ^ 18 ≤ c) ∨ (∃ c, dg = 0 ∧ at_ < cells.length ∧ cells[at_]? = some c ∧ ¬ 10 ^ 18 ≤ c) := by
    by_cases hz : dg = 0
    · by_cases hc : at_ < cells.length
      · by_cases h18 : 10 ^ 18 ≤ cells[at_]
        · exact .inr (.inr (.inl ⟨_, hz, hc, List.getElem?_eq_getElem hc, h18⟩))
        · exact .inr (.inr (.inr ⟨_, hz, hc, List.getElem?_eq_getElem hc, h18⟩))
      · exact .inr (.inl ⟨hz, hc⟩)
    · exact .inl hz
  have eI : ∀ {i j : Int}, decide (V.int i = V.int j) = decide (i = j) := fun {i j} => by
    by_cases h : i = j
    · subst h; rw [decide_eq_true rfl, decide_eq_true rfl]
    · rw [decide_eq_false h, decide_eq_false]
      intro z; injection z with z; exact h z
  rw [eI]
  rcases four with hz | ⟨hz, hc⟩ | ⟨c, hz, hc, hget, h18⟩ | ⟨c, hz, hc, hget, h18⟩
  case' inl =>
    rw [if_neg (fun z => hz (of_decide_eq_true z))]
    have S2 := S1
    have k2 := k1
  case' inr.inl =>
    rw [if_pos (decide_eq_true hz)]
    refine ⟨_, S1.g2, _, S1.g1, _, .inl ⟨_, S1.l, rfl⟩, _, rfl, ?_⟩
    rw [List.length_map, if_neg (fun z => hc (by have := of_decide_eq_true z; omega))]
    have S2 := S1
    have k2 := k1
  case' inr.inr.inl =>
    rw [if_pos (decide_eq_true hz)]
    refine ⟨_, S1.g2, _, S1.g1, _, .inl ⟨_, S1.l, rfl⟩, _, rfl, ?_⟩
    rw [List.length_map, if_pos (decide_eq_true (by omega))]
    refine ⟨_, S1.g1, _, S1.g2, ixL S1.l (atI_nat (by rw [List.getElem?_map, hget]; rfl)) ⟨_, S1.g2, _, rfl, ?_⟩⟩
    obtain ⟨H1', e1', k1', S1'⟩ := S1.s2 (x := ((at_ : Nat) : Int) + 1) (at_ + 1) (by omega)
    refine ⟨H1', e1', ⟨by decide, by decide +kernel⟩, _, rfl, ?_⟩
    rw [show Int.toNat 18 = 18 from rfl, if_pos (decide_eq_true h18)]
    obtain ⟨H2, e2, k2, S2⟩ := S1'.s3 (c - 10 ^ 18) (by omega)
    refine ⟨⟨by decide, by decide +kernel⟩, _, rfl, H2, e2, ?_⟩
    replace k2 := (k1.trans k1').trans k2
  case' inr.inr.inr =>
    rw [if_pos (decide_eq_true hz)]
    refine ⟨_, S1.g2, _, S1.g1, _, .inl ⟨_, S1.l, rfl⟩, _, rfl, ?_⟩
    rw [List.length_map, if_pos (decide_eq_true (by omega))]
    refine ⟨_, S1.g1, _, S1.g2, ixL S1.l (atI_nat (by rw [List.getElem?_map, hget]; rfl)) ⟨_, S1.g2, _, rfl, ?_⟩⟩
    obtain ⟨H1', e1', k1', S1'⟩ := S1.s2 (x := ((at_ : Nat) : Int) + 1) (at_ + 1) (by omega)
    refine ⟨H1', e1', ⟨by decide, by decide +kernel⟩, _, rfl, ?_⟩
    rw [show Int.toNat 18 = 18 from rfl, if_neg (fun z => h18 (of_decide_eq_true z))]
    refine ⟨_, S1'.g5, _, rfl, cmulR (by decide), _, rfl, .inl ⟨by decide, ?_⟩⟩
    obtain ⟨H2, e2, k2, S2⟩ := S1'.s5 ((fo * 69069 + c) % 2147483587) (Int.emod_nonneg _ (by decide)) (Int.lt_trans (Int.emod_lt_of_pos _ (by decide)) (by decide))
    refine ⟨H2, e2, ?_⟩
    replace k2 := (k1.trans k1').trans k2
  all_goals
    refine ⟨_, S2.g3, _, rfl, ?_⟩
    refine ite2 (fun h0 => ?_) (fun h0 => ?_)
    · have d0 := of_decide_eq_true h0
      obtain ⟨H3, e3, k3, S3⟩ := S2.s3 (_ / m) (Int.ediv_nonneg S2.n0 (by omega))
      exact ⟨_, S2.g3, .inl ⟨_, rfl, m0, _, S2.g3, _, rfl, ⟨m0, m1⟩, H3, e3, q _ _ (Int.emod_nonneg _ (by omega)) (Int.emod_lt_of_pos _ m0) (k2.trans k3) ⟨_, _, _, _, S3⟩⟩⟩
    · refine ⟨_, S2.g5, _, rfl, cmulR (by decide), _, S2.g4, _, rfl, cmulR (by decide), .inl ⟨by decide, ?_⟩⟩
      refine ⟨cmulM, cmulM, _, S2.g4, _, rfl, .inl ⟨by decide, cmulR (by decide), .inl ⟨by decide, ?_⟩⟩⟩
      obtain ⟨H3, e3, k3, S3⟩ := S2.s5 (_ % 2147483647) (Int.emod_nonneg _ (by decide)) (Int.lt_trans (Int.emod_lt_of_pos _ (by decide)) (by decide))
      exact ⟨H3, e3, ⟨by decide, by decide⟩, .inl ⟨m0, q _ _ (Int.emod_nonneg _ (by omega)) (Int.emod_lt_of_pos _ m0) (k2.trans k3) ⟨_, _, _, _, S3⟩⟩⟩
end
end FP
set_option maxHeartbeats 4000000
namespace FP
open PySem PySem.Spec PyProof.Rows L2
local macro_rules | `(tactic| walk_at "rd") => `(tactic| dsimp only [tVar, tC, tCmp, tIsN, tNotN, tB, tAnd, tOr, tNot, tAndV, tOrV, tNotV, tIf, tNext, tSeq, tBreak, tCont, tDrop, tRet, tRetN, tIfS, tNever, tAsg, tPar, tAug, tOp, tUn, tTest, tChain, tFld, tNil, tCons, tTup, tLst, tCB, iList, iTup, iStr, tLc, tM0, tM1, tPart, tNoPart, tSl, tBM, tCallS, tCallSD, tMethW, tMake, sDPut, tDisp, tPairs, WE, tDGet, tDIn, gName, gTup, gCons, gNil, gSub, sFld, sFldAug, rI, rI0, rU, rEq, rNe, rAdd, rSub, t2I, tYes, cx_K, cx_w, cx_prog])
local macro_rules | `(tactic| walk_at "rs") => `(tactic| (try simp (maxSteps := 4000000) only [L2.start, List.map_cons, List.map_nil, List.length_cons, List.length_nil, List.cons_append, List.nil_append, Nat.reduceAdd, Nat.reduceSub, Nat.zero_add, List.replicate, List.getElem?_cons_zero, List.getElem?_cons_succ, Option.some.injEq, exists_eq_left', exists_eq_left, V.int.injEq, V.str.injEq, V.bl.injEq, V.ref.injEq, List.set_cons_zero, List.set_cons_succ, exists_and_left, List.cons.injEq, and_true, true_and, wipe, if_true, if_false, Bool.not_true, Bool.not_false, Bool.false_eq_true, decide_true, decide_false]))
local macro_rules | `(tactic| walk_at "r") => `(tactic| (walk_at "rd"; walk_at "rs"))
local macro_rules | `(tactic| walk_at "T") => `(tactic| (rw [if_pos (by first | assumption | rfl | decide | exact decide_eq_true (by assumption) | (simp [tyOf]; done) | (simp; omega) | omega)]; walk_at "rs"))
local macro_rules | `(tactic| walk_at "F") => `(tactic| (rw [if_neg (by first | assumption | decide | (simp [tyOf]; done) | (simp; omega) | (simp; assumption) | omega)]; walk_at "rs"))
section
variable {P : Program} {w : World} {K : PySem.W.Frag} {mg : Str → Option Value} {base : Heap} {f : Addr} {fd : FuncData}
def sp_law_pen (K : PySem.W.Frag) : Sp := fun vs H Q _ => ∃ (T : Addr) (cells : List Int), vs = [.ref T] ∧ SqL K H T (cells.map V.int) ∧ ∀ p tc H', Same H H' → H p = none → Pen K H' p tc → Q (.ref p) H'
def lpI (T : Addr) (H : Hp) (i : Nat) (σ : L2.St) (H' : Hp) : Prop := H' = H ∧ ∃ (fo : Int) (e : Option V), σ = [some (.ref T), some (.int fo), e] ∧ 0 ≤ fo ∧ fo < 2147483648
theorem ok_law_pen (Z : Zb mg) (D : C8.Def K mg "_law_pen" s_law_pen f fd) (b : Binds K fd ["script"] []) : CalX P w K mg base 1 "_law_pen" (sp_law_pen K) := by
  have nd := sc_law_pen.nd
  refine calX D b sc_law_pen (fun vs H Q E h => by obtain ⟨T, cells, rfl, _⟩ := h; rfl) fun cdv A outer s H vs Q E hr h => ?_
  obtain ⟨T, cells, rfl, sl, q⟩ := h
  refine ⟨_, (pss_cons (ps_set (i := 1) nd rfl (Or.inl rfl) pe_int)
    (pss_cons (ps_for (L2.passes_of rfl) rfl (pi_list (pv 0)) (pg_name (i := 2) nd rfl (Or.inl rfl)) (pss_one (ps_set (i := 1) nd rfl (Or.inl rfl) (pe_op op_mod (pe_callTy call_int1 rfl Z.int PyProof.Rows.boot_int (pa_cons (pe_op op_add (pe_op op_mul (pv 1) pe_int) (pv 2)) pa_nil)) pe_int))))
    (pss_one (ps_ret (pe_disp (pps_cons pe_str (pe_callTy call_list_of rfl Z.list PyProof.Rows.boot_list (pa_cons (pv 0) pa_nil)) (pps_cons pe_str pe_int (pps_cons pe_str pe_int (pps_cons pe_str pe_int (pps_cons pe_str (pv 1) pps_nil))))) rfl rfl (by simp) (by decide)))))), ?_⟩
  walk_at "r"
  refine ⟨_, rfl, T, rfl, ⟨_, sl⟩, ?_⟩
  refine for_it walk_list (lpI T H) ⟨rfl, 0, none, rfl, by decide, by decide⟩ (fun i σ H' _ h => by rw [h.1]; exact sl) ?_ ?_
  · rintro i x σ H1 H2 hi ⟨rfl, fo, e, rfl, f0, f1⟩ ⟨rfl, hx⟩
    walk_at "r"
    rw [List.getElem?_map] at hx
    cases hc : cells[i]? with
    | none => rw [hc] at hx; cases hx
    | some c =>
      rw [hc] at hx
      cases hx
      refine ⟨cmulR (by decide), _, rfl, .inl ⟨by decide, rfl, _, _, rfl, Int.emod_nonneg _ (by decide), Int.lt_trans (Int.emod_lt_of_pos _ (by decide)) (by decide)⟩⟩
  · rintro σ H1 ⟨rfl, fo, e, rfl, f0, f1⟩
    walk_at "r"
    intro p np
    have e1 := same_new np (.dK [])
    refine ⟨_, .inl (e1.seq sl), fun l nl => ?_⟩
    have ne : p ≠ l := fun z => by rw [← z, upd_same] at nl; cases nl
    refine ⟨by rw [upd_ne ne, upd_same], penK l 0 0 0 fo, rfl, (by show 5 ≤ 15; decide), ?_⟩
    have e2 : Same H1 (upd (upd (upd H1 p (.dK [])) l (.lst (cells.map V.int))) p (.dK (mergeK [] (penK l 0 0 0 fo)))) := fun b o h => by
      have h1 := ne_of_none h np
      rw [upd_ne h1]
      exact (e1.trans (same_new nl _)) b o h
    exact q p (l, cells) _ e2 np ⟨0, 0, 0, fo, upd_same, .inl (.inl (by rw [upd_ne (Ne.symm ne), upd_same])), Ne.symm ne, by decide, f0, f1⟩
/-! ### small ones -/
def sp_law_pair (K : PySem.W.Frag) : Sp := fun vs H Q _ => ∃ v d t b, vs = [v] ∧ Dp K H v d ∧ ratioOf d = some (t, b) ∧ ∀ a H', Same H H' → SqT K H' a [.int t, .int b] → Q (.ref a) H'
theorem ok_law_pair (Z : Zb mg) (D : C8.Def K mg "_law_pair" s_law_pair f fd) (b : Binds K fd ["number"] []) : CalX P w K mg base 1 "_law_pair" (sp_law_pair K) := by
  refine calX D b sc_law_pair (fun vs H Q E h => by obtain ⟨v, d, t, b, rfl, _⟩ := h; rfl) fun cdv A outer s H vs Q E hr h => ?_
  obtain ⟨v, d, t, b, rfl, hd, hr', q⟩ := h
  refine ⟨_, (pss_one (ps_ret (pe_ifExp (pt_val (pe_callB call_isi rfl Z.isinstance PyProof.Rows.boot_isinstance (pa_cons (pv 0) (pa_cons (pe_ty rfl Z.int PyProof.Rows.boot_int) pa_nil)))) (pe_tup (pa_cons (pv 0) (pa_cons pe_int pa_nil))) (pv 0)))), ?_⟩
  walk_at "r"
  refine isi_int (Dp.kd hd) ?_
  walk_at "rs"
  rcases ratio_some hr' with ⟨rfl, rfl⟩ | ⟨rfl, _⟩
  · cases hd
    walk_at "T"
    refine ⟨by show 2 ≤ sizeLine; decide, fun p hp => q p _ (same_new hp _) (.inl (.inl upd_same))⟩
  · obtain ⟨a, rfl, s⟩ := Dp.pair hd
    walk_at "F"
    exact q a H (Same.refl H) s
def sp_law_is_whole (K : PySem.W.Frag) : Sp := fun vs H Q _ => ∃ v t, vs = [v] ∧ Kd K H v t ∧ Q (.bl (t == "int")) H
theorem ok_law_is_whole (Z : Zb mg) (D : C8.Def K mg "_law_is_whole" s_law_is_whole f fd) (b : Binds K fd ["value"] []) : CalX P w K mg base 1 "_law_is_whole" (sp_law_is_whole K) := by
  refine calX D b sc_law_is_whole (fun vs H Q E h => by obtain ⟨v, t, rfl, _⟩ := h; rfl) fun cdv A outer s H vs Q E hr h => ?_
  obtain ⟨v, t, rfl, k, q⟩ := h
  refine ⟨_, (pss_one (ps_ret (pe_and (pe_callB call_isi rfl Z.isinstance PyProof.Rows.boot_isinstance (pa_cons (pv 0) (pa_cons (pe_ty rfl Z.int PyProof.Rows.boot_int) pa_nil))) (pe_one (pe_not (pe_callB call_isi rfl Z.isinstance PyProof.Rows.boot_isinstance (pa_cons (pv 0) (pa_cons (pe_ty rfl Z.bool PyProof.Rows.boot_bool) pa_nil)))))))), ?_⟩
  walk_at "r"
  refine isi_int k ?_
  walk_at "rs"
  by_cases e : (t == "int" || t == "bool") = true
  · rw [if_pos e]
    refine isi_bool k ?_
    walk_at "rs"
    have e2 : (!(t == "bool")) = (t == "int") := by
      have := k.kn
      simp only [List.mem_cons, List.not_mem_nil, or_false] at this
      rcases this with rfl | rfl | rfl | rfl | rfl | rfl | rfl <;> first | rfl | exact absurd e (by decide)
    rw [e2]
    exact q
  · rw [if_neg e]
    have e2 : (t == "int") = false := by
      cases h : (t == "int") with
      | false => rfl
      | true => rw [h] at e; exact absurd rfl e
    rw [e2] at q
    have e3 : (t == "int" || t == "bool") = false := Bool.eq_false_iff.mpr e
    first | (rw [e3]; exact q) | exact q
def sp_law_sign (K : PySem.W.Frag) : Sp := fun vs H Q _ => ∃ v d t b, vs = [v] ∧ Dp K H v d ∧ ratioOf d = some (t, b) ∧ ∀ H', Same H H' → Q (.int (sgn t)) H'
theorem ok_law_sign (Z : Zb mg) (D : C8.Def K mg "_law_sign" s_law_sign f fd) (b : Binds K fd ["number"] []) (c_law_pair : CalX P w K mg base 1 "_law_pair" (sp_law_pair K)) : CalX P w K mg base 2 "_law_sign" (sp_law_sign K) := by
  have nd := sc_law_sign.nd
  refine calX D b sc_law_sign (fun vs H Q E h => by obtain ⟨v, d, t, b, rfl, _⟩ := h; rfl) fun cdv A outer s H vs Q E hr h => ?_
  obtain ⟨v, d, t, b, rfl, hd, hr', q⟩ := h
  refine ⟨_, (pss_cons (ps_set (i := 1) nd rfl (Or.inl rfl) (pe_ix ix_tup (pe_x c_law_pair hr (by decide) tk0 rfl (pa_cons (pv 0) pa_nil)) pe_int (fun _ _ => rfl)))
    (pss_one (ps_ret (pe_op op_sub (pe_callTy call_int1 rfl Z.int PyProof.Rows.boot_int (pa_cons (pe_cmpR op_gt (pv 1) pe_int (nomark _)) pa_nil)) (pe_callTy call_int1 rfl Z.int PyProof.Rows.boot_int (pa_cons (pe_cmpR op_lt (pv 1) pe_int (nomark _)) pa_nil)))))), ?_⟩
  walk_at "r"
  refine ⟨v, d, t, b, rfl, hd, hr', fun a H1 e1 s1 => ?_⟩
  refine ixT s1 rfl ?_
  refine ⟨_, rfl, .inr ⟨_, rfl, .inr ?_⟩⟩
  have e : ((if decide (0 < t) = true then (1 : Int) else 0) - if decide (t < 0) = true then 1 else 0) = sgn t := by
    unfold sgn
    by_cases h1 : 0 < t
    · rw [if_pos (decide_eq_true h1), if_neg (fun z => by have := of_decide_eq_true z; omega), if_pos h1]; rfl
    · rw [if_neg (fun z => h1 (of_decide_eq_true z)), if_neg h1]
      by_cases h2 : t < 0
      · rw [if_pos (decide_eq_true h2), if_pos h2]; rfl
      · rw [if_neg (fun z => h2 (of_decide_eq_true z)), if_neg h2]; rfl
  rw [e]
  exact q H1 e1
end
end FP
set_option maxHeartbeats 4000000
namespace FP
open PySem PySem.Spec PyProof.Rows L2
local macro_rules | `(tactic| walk_at "rd") => `(tactic| dsimp only [tVar, tC, tCmp, tIsN, tNotN, tB, tAnd, tOr, tNot, tAndV, tOrV, tNotV, tIf, tNext, tSeq, tBreak, tCont, tDrop, tRet, tRetN, tIfS, tNever, tAsg, tPar, tAug, tOp, tUn, tTest, tChain, tFld, tNil, tCons, tTup, tLst, tCB, iList, iTup, iStr, tLc, tM0, tM1, tPart, tNoPart, tSl, tBM, tCallS, tCallSD, tMethW, tMake, sDPut, tDisp, tPairs, WE, tDGet, tDIn, gName, gTup, gCons, gNil, gSub, sFld, sFldAug, rI, rI0, rU, rEq, rNe, rAdd, rSub, t2I, tYes, cx_K, cx_w, cx_prog])
local macro_rules | `(tactic| walk_at "rs") => `(tactic| (try simp (maxSteps := 4000000) only [L2.start, List.map_cons, List.map_nil, List.length_cons, List.length_nil, List.cons_append, List.nil_append, Nat.reduceAdd, Nat.reduceSub, Nat.zero_add, List.replicate, List.getElem?_cons_zero, List.getElem?_cons_succ, Option.some.injEq, exists_eq_left', exists_eq_left, V.int.injEq, V.str.injEq, V.bl.injEq, V.ref.injEq, List.set_cons_zero, List.set_cons_succ, exists_and_left, List.cons.injEq, and_true, true_and, wipe, if_true, if_false, Bool.not_true, Bool.not_false, Bool.false_eq_true, decide_true, decide_false]))
local macro_rules | `(tactic| walk_at "r") => `(tactic| (walk_at "rd"; walk_at "rs"))
local macro_rules | `(tactic| walk_at "T") => `(tactic| (rw [if_pos (by first | assumption | rfl | decide | exact decide_eq_true (by assumption) | (simp [tyOf]; done) | (simp; omega) | omega)]; walk_at "rs"))
local macro_rules | `(tactic| walk_at "F") => `(tactic| (rw [if_neg (by first | assumption | decide | (simp [tyOf]; done) | (simp; omega) | (simp; assumption) | omega)]; walk_at "rs"))
section
variable {P : Program} {w : World} {K : PySem.W.Frag} {mg : Str → Option Value} {base : Heap} {f : Addr} {fd : FuncData}
def sp_law_divisor : Sp := fun vs H Q _ => ∃ a b : Int, vs = [.int a, .int b] ∧ Q (.int (Nat.gcd a.natAbs b.natAbs : Nat)) H
def gdI (H : Hp) (g : Nat) (m : Nat) (σ : L2.St) (H' : Hp) : Prop := ∃ x y : Nat, m = y ∧ H' = H ∧ σ = [some (.int (x : Nat)), some (.int (y : Nat))] ∧ Nat.gcd x y = g
theorem ok_law_divisor (Z : Zb mg) (D : C8.Def K mg "_law_divisor" s_law_divisor f fd) (b : Binds K fd ["one", "other"] []) : CalX P w K mg base 1 "_law_divisor" sp_law_divisor := by
  have nd := sc_law_divisor.nd
  refine calX D b sc_law_divisor (fun vs H Q E h => by obtain ⟨x, y, rfl, _⟩ := h; rfl) fun cdv A outer s H vs Q E hr h => ?_
  obtain ⟨x, y, rfl, q⟩ := h
  refine ⟨_, (pss_cons (ps_par (i := 0) (j := 1) rfl nd rfl rfl (by decide) rfl rfl (pa_cons (pe_callB call_abs rfl Z.abs PyProof.Rows.boot_abs (pa_cons (pv 0) pa_nil)) (pa_cons (pe_callB call_abs rfl Z.abs PyProof.Rows.boot_abs (pa_cons (pv 1) pa_nil)) pa_nil)) (by rfl))
    (pss_cons (ps_while (L2.passes_of rfl) (pt_cmpR op_ne (pv 1) pe_int (nomark _)) (pss_one (ps_par (i := 0) (j := 1) rfl nd rfl rfl (by decide) rfl rfl (pa_cons (pv 1) (pa_cons (pe_op op_mod (pe_callTy call_int1 rfl Z.int PyProof.Rows.boot_int (pa_cons (pv 0) pa_nil)) (pv 1)) pa_nil)) (by rfl))))
    (pss_one (ps_ret (pv 0))))), ?_⟩
  walk_at "r"
  refine ⟨_, _, ⟨rfl, rfl⟩, ?_⟩
  rw [abs_if, abs_if]
  refine ⟨gdI H (Nat.gcd x.natAbs y.natAbs), ⟨y.natAbs, x.natAbs, y.natAbs, rfl, rfl, rfl, rfl⟩, ?_⟩
  rintro m σ H' ⟨a, b, rfl, rfl, rfl, hg⟩
  walk_at "r"
  refine ⟨rfl, ?_⟩
  by_cases hb : m = 0
  · subst hb
    walk_at "rs"
    rw [Nat.gcd_zero_right] at hg
    rw [hg]
    exact q
  · rw [if_pos (by rw [decide_eq_false (by omega)]; rfl)]
    refine ⟨_, fun _ _ h => h, .inl ⟨by omega, ?_⟩⟩
    have hlt := Nat.mod_lt a (Nat.pos_of_ne_zero hb)
    refine ⟨_, _, ⟨rfl, rfl⟩, a % m, hlt, m, a % m, rfl, rfl, by rw [Int.natCast_emod], ?_⟩
    rw [← hg, Nat.gcd_comm m, ← Nat.gcd_rec, Nat.gcd_comm]
def lowD (t b : Int) : PyData := if b = (Nat.gcd t.natAbs b.natAbs : Nat) then .int (t / (Nat.gcd t.natAbs b.natAbs : Nat)) else .tuple [.int (t / (Nat.gcd t.natAbs b.natAbs : Nat)), .int (b / (Nat.gcd t.natAbs b.natAbs : Nat))]
def sp_law_low (K : PySem.W.Frag) : Sp := fun vs H Q _ => ∃ t b : Int, vs = [.int t, .int b] ∧ 0 < b ∧ b.natAbs.log2 < 9000 ∧ ∀ v H', Same H H' → Dp K H' v (lowD t b) → Q v H'
theorem ok_law_low (D : C8.Def K mg "_law_low" s_law_low f fd) (b : Binds K fd ["top", "bottom"] []) (c_law_divisor : CalX P w K mg base 1 "_law_divisor" sp_law_divisor) : CalX P w K mg base 2 "_law_low" (sp_law_low K) := by
  have nd := sc_law_low.nd
  refine calX D b sc_law_low (fun vs H Q E h => by obtain ⟨x, y, rfl, _⟩ := h; rfl) fun cdv A outer s H vs Q E hr h => ?_
  obtain ⟨t, b, rfl, b0, bl, q⟩ := h
  refine ⟨_, (pss_cons (ps_set (i := 2) nd rfl (Or.inl rfl) (pe_x c_law_divisor hr (by decide) tk0 rfl (pa_cons (pv 0) (pa_cons (pv 1) pa_nil))))
    (pss_cons (ps_if (pt_cmpR op_lt (pv 1) pe_int (nomark _)) (pss_one (ps_set (i := 2) nd rfl (Or.inl rfl) (pe_un un_neg (pv 2)))) pss_nil)
    (pss_one (ps_ret (pe_ifExp (pt_cmpR op_eq (pv 1) (pv 2) (nomark _)) (pe_op op_fdivW (pv 0) (pv 2)) (pe_tup (pa_cons (pe_op op_fdivW (pv 0) (pv 2)) (pa_cons (pe_op op_fdivW (pv 1) (pv 2)) pa_nil)))))))), ?_⟩
  walk_at "r"
  refine ⟨t, b, rfl, ?_⟩
  show if decide (b < 0) = true then _ else _
  rw [if_neg (fun z => by have := of_decide_eq_true z; omega)]
  refine ⟨rfl, ?_⟩
  have g0 : 0 < Nat.gcd t.natAbs b.natAbs := Nat.gcd_pos_of_pos_right _ (by omega)
  have gl : Nat.gcd t.natAbs b.natAbs ≤ b.natAbs := Nat.gcd_le_right _ (by omega)
  have cw : ∀ x : Int, CDivW x ((Nat.gcd t.natAbs b.natAbs : Nat) : Int) := fun x => ⟨by omega, by
    rw [Int.natAbs_natCast]
    exact (Nat.log2_lt (by omega)).mpr (Nat.lt_of_le_of_lt gl ((Nat.log2_lt (by omega)).mp bl))⟩
  by_cases hb : b = ((Nat.gcd t.natAbs b.natAbs : Nat) : Int)
  · rw [if_pos (decide_eq_true (congrArg V.int hb))]
    unfold lowD at q
    rw [if_pos hb] at q
    exact ⟨_, rfl, cw t, q _ _ (Same.refl H) (.int _)⟩
  · rw [if_neg (fun z => hb (by have := of_decide_eq_true z; injection this))]
    unfold lowD at q
    rw [if_neg hb] at q
    exact ⟨_, rfl, cw t, _, rfl, cw b, sz (by decide), fun p np => q _ _ (same_new np _) (Dp.of_pair (.inl (.inl upd_same)))⟩
def sp_law_times (K : PySem.W.Frag) : Sp := fun vs H Q _ => ∃ s v d t b, vs = [.int s, v] ∧ -2 < s ∧ s < 2 ∧ Dp K H v d ∧ ratioOf d = some (t, b) ∧ b.natAbs.log2 < 9000 ∧ ∀ v' H', Same H H' → Dp K H' v' (lowD (s * t) b) → Q v' H'
theorem ok_law_times (D : C8.Def K mg "_law_times" s_law_times f fd) (b : Binds K fd ["one", "other"] []) (c_law_pair : CalX P w K mg base 1 "_law_pair" (sp_law_pair K)) (c_law_low : CalX P w K mg base 2 "_law_low" (sp_law_low K)) : CalX P w K mg base 3 "_law_times" (sp_law_times K) := by
  have nd := sc_law_times.nd
  refine calX D b sc_law_times (fun vs H Q E h => by obtain ⟨s, v, d, t, b, rfl, _⟩ := h; rfl) fun cdv A outer s H vs Q E hr h => ?_
  obtain ⟨sg, v, d, t, b, rfl, s1, s2, hd, hr', bl, q⟩ := h
  refine ⟨_, (pss_cons (ps_par (i := 2) (j := 3) rfl nd rfl rfl (by decide) rfl rfl (pa_cons (pe_x c_law_pair hr (by decide) tk0 rfl (pa_cons (pv 0) pa_nil)) (pa_cons (pe_x c_law_pair hr (by decide) tk0 rfl (pa_cons (pv 1) pa_nil)) pa_nil)) (by rfl))
    (pss_one (ps_ret (pe_x c_law_low hr (by decide) tk0 rfl (pa_cons (pe_op op_mul (pe_ix ix_tup (pv 2) pe_int (fun _ _ => rfl)) (pe_ix ix_tup (pv 3) pe_int (fun _ _ => rfl))) (pa_cons (pe_op op_mul (pe_ix ix_tup (pv 2) pe_int (fun _ _ => rfl)) (pe_ix ix_tup (pv 3) pe_int (fun _ _ => rfl))) pa_nil)))))), ?_⟩
  walk_at "r"
  refine ⟨.int sg, .int sg, sg, 1, rfl, .int _, rfl, fun a1 H1 e1 h1 => ?_⟩
  walk_at "rs"
  refine ⟨v, d, t, b, rfl, Dp.same e1 hd, hr', fun a2 H2 e2 h2 => ?_⟩
  walk_at "rs"
  have h3 := SqT.same e2 h1
  refine ⟨_, _, ⟨rfl, rfl⟩, ixT h3 rfl (ixT h2 rfl ⟨_, rfl, _, rfl, .inl ⟨by omega, by omega⟩, ixT h3 rfl (ixT h2 rfl ⟨_, rfl, _, rfl, .inl ⟨by decide, by decide⟩, ?_⟩)⟩)⟩
  have b0 := ratio_pos hr'
  rw [Int.one_mul]
  exact ⟨_, _, rfl, b0, bl, fun v' H3 e3 hd' => q v' H3 ((e1.trans e2).trans e3) hd'⟩
def sp_law_is_ratio (K : PySem.W.Frag) : Sp := fun vs H Q _ => ∃ v d, vs = [v] ∧ Dp K H v d ∧ Q (.bl (ratioOf d).isSome) H
theorem ok_law_is_ratio (Z : Zb mg) (D : C8.Def K mg "_law_is_ratio" s_law_is_ratio f fd) (b : Binds K fd ["value"] []) (c_law_is_whole : CalX P w K mg base 1 "_law_is_whole" (sp_law_is_whole K)) (c_law_divisor : CalX P w K mg base 1 "_law_divisor" sp_law_divisor) : CalX P w K mg base 2 "_law_is_ratio" (sp_law_is_ratio K) := by
  refine calX D b sc_law_is_ratio (fun vs H Q E h => by obtain ⟨v, d, rfl, _⟩ := h; rfl) fun cdv A outer s H vs Q E hr h => ?_
  obtain ⟨v, d, rfl, hd, q⟩ := h
  refine ⟨_, (pss_cons (ps_if (pt_val (pe_callB call_isi rfl Z.isinstance PyProof.Rows.boot_isinstance (pa_cons (pv 0) (pa_cons (pe_ty rfl Z.tuple PyProof.Rows.boot_tuple) pa_nil)))) (pss_cons (ps_if (PW.pt (pw_or (pt_cmpR op_ne (pe_callB call_len rfl Z.len PySem.boot_len (pa_cons (pv 0) pa_nil)) pe_int (nomark _)) (pw_or (pt_not (pt_val (pe_x c_law_is_whole hr (by decide) tk0 rfl (pa_cons (pe_ix ix_tup (pv 0) pe_int (fun _ _ => rfl)) pa_nil)))) (pw_or1 (pt_not (pt_val (pe_x c_law_is_whole hr (by decide) tk0 rfl (pa_cons (pe_ix ix_tup (pv 0) pe_int (fun _ _ => rfl)) pa_nil)))))))) (pss_one (ps_ret pe_bl)) pss_nil)
    (pss_one (ps_ret (pe_and (pe_cmpR op_gt (pe_ix ix_tup (pv 0) pe_int (fun _ _ => rfl)) pe_int (nomark _)) (pe_one (pe_cmpR op_eq (pe_x c_law_divisor hr (by decide) tk0 rfl (pa_cons (pe_ix ix_tup (pv 0) pe_int (fun _ _ => rfl)) (pa_cons (pe_ix ix_tup (pv 0) pe_int (fun _ _ => rfl)) pa_nil))) pe_int (nomark _))))))) pss_nil)
    (pss_one (ps_ret (pe_x c_law_is_whole hr (by decide) tk0 rfl (pa_cons (pv 0) pa_nil))))), ?_⟩
  walk_at "r"
  refine isi_tuple (Dp.kd hd) ?_
  walk_at "rs"
  by_cases ht : (tyOf d == "tuple") = true
  · obtain ⟨ds, rfl⟩ := ty_tuple.mp ht
    obtain ⟨a, xs, rfl, hs, al⟩ := Dp.tupI hd
    rw [ht]
    walk_at "rs"
    refine lenT hs ⟨rfl, ?_⟩
    have hl := DpAll.length al
    match xs, ds, al, hl, hs, q with
    | [x, y], [d, e], .cons hx (.cons hy _), _, hs, q =>
      walk_at "F"
      refine ixT hs rfl ⟨_, _, rfl, Dp.kd hx, ?_⟩
      walk_at "rs"
      by_cases hd : (tyOf d == "int") = true
      · rw [hd]
        walk_at "rs"
        obtain ⟨i, rfl⟩ := ty_int.mp hd
        cases hx
        refine ixT hs rfl ⟨_, _, rfl, Dp.kd hy, ?_⟩
        walk_at "rs"
        by_cases he : (tyOf e == "int") = true
        · rw [he]
          walk_at "rs"
          obtain ⟨j, rfl⟩ := ty_int.mp he
          cases hy
          refine ixT hs rfl ⟨_, rfl, ?_⟩
          by_cases hj : 1 < j
          · walk_at "T"
            refine ixT hs rfl (ixT hs rfl ⟨_, _, rfl, rfl, ?_⟩)
            have e : decide (V.int ((Nat.gcd i.natAbs j.natAbs : Nat) : Int) = V.int 1) = (ratioOf (.tuple [.int i, .int j])).isSome := by
              rw [ratio_pair]
              by_cases g : Nat.gcd i.natAbs j.natAbs = 1
              · rw [if_pos ⟨hj, g⟩, g]; rfl
              · rw [if_neg (fun z => g z.2)]
                refine decide_eq_false fun z => g ?_
                injection z with z
                exact Int.ofNat_inj.mp z
            rw [e]; exact q
          · walk_at "F"
            have e : (ratioOf (.tuple [.int i, .int j])).isSome = false := by
              rw [ratio_pair, if_neg (fun z => hj z.1)]; rfl
            rw [e] at q; exact q
        · rw [Bool.eq_false_iff.mpr he]
          walk_at "rs"
          have e : (ratioOf (.tuple [.int i, e])).isSome = false := by
            cases e <;> first | rfl | exact absurd rfl he
          rw [e] at q; exact q
      · rw [Bool.eq_false_iff.mpr hd]
        walk_at "rs"
        have e : (ratioOf (.tuple [d, e])).isSome = false := by
          cases d <;> first | rfl | exact absurd rfl hd
        rw [e] at q; exact q
    | [], [], _, _, _, q => walk_at "T"; exact q
    | [_], [e], _, _, _, q =>
      walk_at "T"
      have e : (ratioOf (.tuple [e])).isSome = false := by cases e <;> rfl
      rw [e] at q; exact q
    | _ :: _ :: _ :: r, a :: b :: c :: r', _, _, _, q =>
      rw [if_pos (by simp; omega)]
      have e : (ratioOf (.tuple (a :: b :: c :: r'))).isSome = false := by cases a <;> first | rfl | (cases b <;> rfl)
      rw [e] at q; walk_at "rs"; exact q
  · rw [Bool.eq_false_iff.mpr ht]
    walk_at "rs"
    refine ⟨_, _, rfl, Dp.kd hd, ?_⟩
    have e : (ratioOf d).isSome = (tyOf d == "int") := by
      cases d <;> first | rfl | exact absurd rfl ht
    rw [e] at q; exact q
theorem Pen.same {H H' : Hp} {p : Addr} {tc : Addr × List Int} (h : Pen K H p tc) (e : Same H H') : Pen K H' p tc := by
  obtain ⟨at_, dg, ct, fo, S⟩ := h
  exact ⟨at_, dg, ct, fo, e _ _ S.d, e.seq S.l, S.ne, S.n0, S.f0, S.f1⟩
def sp_law_pick (K : PySem.W.Frag) : Sp := fun vs H Q _ => ∃ p tc l xs, vs = [.ref p, .ref l] ∧ Pen K H p tc ∧ SqL K H l xs ∧ ¬ l = p ∧ xs ≠ [] ∧ xs.length < 1000 ∧ ∀ (i : Nat) v H', xs[i]? = some v → But (· = p) H H' → Pen K H' p tc → Q v H'
theorem ok_law_pick (Z : Zb mg) (D : C8.Def K mg "_law_pick" s_law_pick f fd) (b : Binds K fd ["pen", "some"] []) (c_law_draw : CalX P w K mg base 1 "_law_draw" (sp_law_draw K)) : CalX P w K mg base 2 "_law_pick" (sp_law_pick K) := by
  refine calX D b sc_law_pick (fun vs H Q E h => by obtain ⟨p, tc, l, xs, rfl, _⟩ := h; rfl) fun cdv A outer s H vs Q E hr h => ?_
  obtain ⟨p, tc, l, xs, rfl, pn, sl, ne, nn, few, q⟩ := h
  refine ⟨_, (pss_one (ps_ret (pe_ix ix_list (pv 1) (pe_x c_law_draw hr (by decide) tk0 rfl (pa_cons (pv 0) (pa_cons (pe_callB call_len rfl Z.len PySem.boot_len (pa_cons (pv 1) pa_nil)) pa_nil))) (fun _ _ => rfl)))), ?_⟩
  walk_at "r"
  have := List.length_pos_iff.mpr nn
  refine lenL sl ⟨p, tc, _, rfl, by omega, by omega, pn, fun d H' d0 d1 k pn' => ?_⟩
  obtain ⟨n, rfl⟩ : ∃ n : Nat, d = (n : Nat) := ⟨d.toNat, by omega⟩
  have hi : n < xs.length := by omega
  exact ixL (SqL.but (S := (· = p)) ne k sl) (v := xs[n]) (atI_nat (List.getElem?_eq_getElem hi)) (q n _ H' (List.getElem?_eq_getElem hi) k pn')
def sp_law_wide (K : PySem.W.Frag) : Sp := fun vs H Q _ => ∃ p tc, ∃ n : Nat, vs = [.ref p, .int (n : Nat)] ∧ n ≤ 1000 ∧ Pen K H p tc ∧ ∀ d H', 0 ≤ d → d < 10 ^ n → But (· = p) H H' → Pen K H' p tc → Q (.int d) H'
def wd1 (K : PySem.W.Frag) (p : Addr) (tc : Addr × List Int) (n : Nat) (H : Hp) (_i : Nat) (σ : L2.St) (H' : Hp) : Prop := But (· = p) H H' ∧ Pen K H' p tc ∧ ∃ (fo : Int) (e : Option V), σ = [some (.ref p), some (.int (n : Nat)), some (.int fo), some (.int 1), e] ∧ 0 ≤ fo
def wd2 (p : Addr) (n : Nat) (fo : Int) (H : Hp) (i : Nat) (σ : L2.St) (H' : Hp) : Prop := H' = H ∧ ∃ (e : Option V), σ = [some (.ref p), some (.int (n : Nat)), some (.int fo), some (.int (10 ^ i)), e]
theorem ok_law_wide (Z : Zb mg) (D : C8.Def K mg "_law_wide" s_law_wide f fd) (b : Binds K fd ["pen", "figures"] []) (c_law_draw : CalX P w K mg base 1 "_law_draw" (sp_law_draw K)) : CalX P w K mg base 2 "_law_wide" (sp_law_wide K) := by
  have nd := sc_law_wide.nd
  refine calX D b sc_law_wide (fun vs H Q E h => by obtain ⟨p, tc, n, rfl, _⟩ := h; rfl) fun cdv A outer s H vs Q E hr h => ?_
  obtain ⟨p, tc, n, rfl, hn, pn, q⟩ := h
  refine ⟨_, (pss_cons (ps_asg (pe_tup (pa_cons pe_int (pa_cons pe_int pa_nil))) (pg_tup rfl (pgs_cons (pg_name (i := 2) nd rfl (Or.inl rfl)) (pgs_cons (pg_name (i := 3) nd rfl (Or.inl rfl)) pgs_nil))))
    (pss_cons (ps_for (L2.passes_of rfl) rfl (pi_range1 rfl Z.range (pa_cons (pe_op op_fdiv (pe_op op_add (pv 1) pe_int) pe_int) pa_nil)) (pg_name (i := 4) nd rfl (Or.inl rfl)) (pss_one (ps_set (i := 2) nd rfl (Or.inl rfl) (pe_op op_add (pe_op op_mul (pv 2) (pe_op op_pow2 pe_int pe_int)) (pe_x c_law_draw hr (by decide) tk0 rfl (pa_cons (pv 0) (pa_cons (pe_op op_pow2 pe_int pe_int) pa_nil)))))))
    (pss_cons (ps_for (L2.passes_of rfl) rfl (pi_range1 rfl Z.range (pa_cons (pv 1) pa_nil)) (pg_name (i := 4) nd rfl (Or.inl rfl)) (pss_one (ps_set (i := 3) nd rfl (Or.inl rfl) (pe_op op_mul (pv 3) pe_int))))
    (pss_one (ps_ret (pe_op op_mod (pe_callTy call_int1 rfl Z.int PyProof.Rows.boot_int (pa_cons (pv 2) pa_nil)) (pv 3))))))), ?_⟩
  walk_at "r"
  refine ⟨sz (by decide), fun t nt => ⟨_, .inl (.inl upd_same), rfl, _, _, rfl, _, _, rfl, rfl, ?_⟩⟩
  have e0 := same_new nt (.tup [.int 0, .int 1])
  have pn0 := pn.same e0
  refine ⟨_, rfl, _, _, rfl, rfl, _, _, rfl, rfl, ⟨by decide, by decide⟩, _, rfl, by omega, by omega, ?_⟩
  refine for_it walk_range (wd1 K p tc n H) ⟨Same.but e0, pn0, 0, none, rfl, by decide⟩ (fun _ _ _ _ _ => trivial) ?_ ?_
  · rintro i x σ H1 H2 hi ⟨k1, pn1, fo, e, rfl, f0⟩ ⟨rfl, rfl⟩
    walk_at "r"
    refine ⟨⟨by decide, by decide +kernel⟩, cmulR (by decide), ⟨by decide, by decide +kernel⟩, ?_⟩
    refine ⟨p, tc, _, rfl, by decide, by decide, pn1, fun d H3 d0 d1 k3 pn3 => ?_⟩
    refine ⟨_, rfl, k1.trans k3, pn3, _, _, rfl, ?_⟩
    have : 0 ≤ fo * 10 ^ Int.toNat 6 := Int.mul_nonneg f0 (by decide)
    omega
  · rintro σ H1 ⟨k1, pn1, fo, e, rfl, f0⟩
    refine ⟨_, rfl, _, rfl, by omega, by omega, ?_⟩
    rw [Int.toNat_natCast]
    refine for_it walk_range (wd2 p n fo H1) ⟨rfl, e, by rw [Int.pow_zero]⟩ (fun _ _ _ _ _ => trivial) ?_ ?_
    · rintro i x σ H3 H2 hi ⟨rfl, e, rfl⟩ ⟨rfl, rfl⟩
      walk_at "r"
      exact ⟨cmulR (by decide), rfl, _, by rw [Int.pow_succ]⟩
    · rintro σ H3 ⟨rfl, e, rfl⟩
      walk_at "r"
      have hp : (0 : Int) < 10 ^ n := Int.pow_pos (by decide)
      exact .inl ⟨hp, q _ _ (Int.emod_nonneg _ (by omega)) (Int.emod_lt_of_pos _ hp) k1 pn1⟩
end
end FP
set_option maxHeartbeats 4000000
namespace FP
open PySem PySem.Spec PyProof.Rows L2
local macro_rules | `(tactic| walk_at "rd") => `(tactic| dsimp only [tVar, tC, tCmp, tIsN, tNotN, tB, tAnd, tOr, tNot, tAndV, tOrV, tNotV, tIf, tNext, tSeq, tBreak, tCont, tDrop, tRet, tRetN, tIfS, tNever, tAsg, tPar, tAug, tOp, tUn, tTest, tChain, tFld, tNil, tCons, tTup, tLst, tCB, iList, iTup, iStr, tLc, tM0, tM1, tPart, tNoPart, tSl, tBM, tCallS, tCallSD, tMethW, tMake, sDPut, tDisp, tPairs, WE, tDGet, tDIn, gName, gTup, gCons, gNil, gSub, sFld, sFldAug, rI, rI0, rU, rEq, rNe, rAdd, rSub, t2I, tYes, cx_K, cx_w, cx_prog])
local macro_rules | `(tactic| walk_at "rs") => `(tactic| (try simp (maxSteps := 4000000) only [L2.start, List.map_cons, List.map_nil, List.length_cons, List.length_nil, List.cons_append, List.nil_append, Nat.reduceAdd, Nat.reduceSub, Nat.zero_add, List.replicate, List.getElem?_cons_zero, List.getElem?_cons_succ, Option.some.injEq, exists_eq_left', exists_eq_left, V.int.injEq, V.str.injEq, V.bl.injEq, V.ref.injEq, List.set_cons_zero, List.set_cons_succ, exists_and_left, List.cons.injEq, and_true, true_and, wipe, if_true, if_false, Bool.not_true, Bool.not_false, Bool.false_eq_true, decide_true, decide_false]))
local macro_rules | `(tactic| walk_at "r") => `(tactic| (walk_at "rd"; walk_at "rs"))
local macro_rules | `(tactic| walk_at "T") => `(tactic| (rw [if_pos (by first | assumption | rfl | decide | exact decide_eq_true (by assumption) | (simp [tyOf]; done) | (simp; omega) | omega)]; walk_at "rs"))
local macro_rules | `(tactic| walk_at "F") => `(tactic| (rw [if_neg (by first | assumption | decide | (simp [tyOf]; done) | (simp; omega) | (simp; assumption) | omega)]; walk_at "rs"))
/-! ### plain: lowest terms -/
theorem low_ratio {t b : Int} (b0 : 0 < b) : ∃ t' b', ratioOf (lowD t b) = some (t', b') ∧ t'.natAbs ≤ t.natAbs ∧ b' ≤ b := by
  have g0 : 0 < Nat.gcd t.natAbs b.natAbs := Nat.gcd_pos_of_pos_right _ (by omega)
  have d1 : ((Nat.gcd t.natAbs b.natAbs : Nat) : Int) ∣ t := Int.ofNat_dvd_left.mpr (Nat.gcd_dvd_left _ _)
  have d2 : ((Nat.gcd t.natAbs b.natAbs : Nat) : Int) ∣ b := Int.ofNat_dvd_left.mpr (Nat.gcd_dvd_right _ _)
  have e1 : (t / ((Nat.gcd t.natAbs b.natAbs : Nat) : Int)).natAbs = t.natAbs / Nat.gcd t.natAbs b.natAbs := by
    rw [Int.natAbs_ediv_of_dvd d1, Int.natAbs_natCast]
  have e2 : (b / ((Nat.gcd t.natAbs b.natAbs : Nat) : Int)).natAbs = b.natAbs / Nat.gcd t.natAbs b.natAbs := by
    rw [Int.natAbs_ediv_of_dvd d2, Int.natAbs_natCast]
  have l1 : (t / ((Nat.gcd t.natAbs b.natAbs : Nat) : Int)).natAbs ≤ t.natAbs := by rw [e1]; exact Nat.div_le_self _ _
  have p2 : 0 < b / ((Nat.gcd t.natAbs b.natAbs : Nat) : Int) := Int.ediv_pos_of_pos_of_dvd b0 (by omega) d2
  have l2 : b / ((Nat.gcd t.natAbs b.natAbs : Nat) : Int) ≤ b := Int.ediv_le_self _ (by omega)
  unfold lowD
  by_cases h : b = ((Nat.gcd t.natAbs b.natAbs : Nat) : Int)
  · rw [if_pos h]
    exact ⟨_, 1, rfl, l1, by omega⟩
  · rw [if_neg h, ratio_pair]
    refine ⟨_, _, if_pos ⟨?_, ?_⟩, l1, l2⟩
    · refine Int.not_le.mp fun z => h ?_
      have z2 : b / ((Nat.gcd t.natAbs b.natAbs : Nat) : Int) = 1 := by omega
      have := Int.ediv_mul_cancel d2
      rw [z2] at this
      omega
    · rw [e1, e2]
      rw [Nat.gcd_div (Nat.gcd_dvd_left _ _) (Nat.gcd_dvd_right _ _)]
      exact Nat.div_self g0
def Nice (d : PyData) : Prop := ∃ t b, ratioOf d = some (t, b) ∧ t.natAbs < 10 ^ 40 ∧ b ≤ 10 ^ 40
def Dv : Nat → PyData → Prop
  | 0, d => Nice d
  | n + 1, d => Nice d ∨ ∃ ds, d = .tuple ds ∧ ds.length ≤ 3 ∧ ∀ e, e ∈ ds → Dv n e
theorem Nice.nol {d : PyData} (h : Nice d) : Nol d := by
  obtain ⟨t, b, h, _⟩ := h
  exact (nol_opp (by rw [h]; rfl)).1
theorem lowD_nice {t b : Int} (b0 : 0 < b) (h1 : t.natAbs < 10 ^ 40) (h2 : b ≤ 10 ^ 40) : Nice (lowD t b) := by
  obtain ⟨t', b', e, l1, l2⟩ := low_ratio (t := t) b0
  exact ⟨t', b', e, Nat.lt_of_le_of_lt l1 h1, Int.le_trans l2 h2⟩
/-! ### a comprehension that draws -/
theorem Pen.noTup {K : PySem.W.Frag} {H : Hp} {p : Addr} {tc : Addr × List Int} (h : Pen K H p tc) : NoTup H (· = p) := by
  obtain ⟨at_, dg, ct, fo, S⟩ := h
  exact noTup1 S.d (fun _ => by simp) (fun _ _ => by simp)
/-- a new object is written -/
theorem Pen.app {K : PySem.W.Frag} {H H1 : Hp} {p D : Addr} {tc : Addr × List Int} {o : HO} (hp : Pen K H p tc) (k : But (· = p) H H1) (h : Pen K H1 p tc) (nD : H D = none) : Pen K (L2.upd H1 D o) p tc ∧ But (· = p) H (L2.upd H1 D o) := by
  obtain ⟨a0, d0, c0, f0, S0⟩ := hp
  obtain ⟨at_, dg, ct, fo, S⟩ := h
  have ne : p ≠ D := fun z => by have := S0.d; rw [z, nD] at this; cases this
  have k2 : But (· = p) H (L2.upd H1 D o) := fun b u n h => by
    rw [upd_ne (fun z => by rw [z, nD] at h; cases h)]
    exact k b u n h
  exact ⟨⟨at_, dg, ct, fo, by rw [upd_ne ne]; exact S.d, SqL.but (S := (· = p)) S0.ne k2 S0.l, S.ne, S.n0, S.f0, S.f1⟩, k2⟩
/-- a comprehension that draws -/
theorem comp_pen {K : PySem.W.Frag} {J : It} {n : Nat} {Y : Nat → Hp → V → Hp → Prop} {H1 : Hp} {D p : Addr} {tc : Addr × List Int} {Rend : Hp → Prop} (w : Walk J n (fun _ => True) Y) (small : n < sizeLine) (nD : H1 D = none) (pn : Pen K H1 p tc) (B : V → Hp → VK → Prop) (R : V → Hp → Prop)
    (hY : ∀ i H x H', Y i H x H' → H' = H)
    (hup : ∀ v H H', But (fun a => a = D ∨ a = p) H H' → NoTup H (fun a => a = D ∨ a = p) → R v H → R v H')
    (hs : ∀ x H Q, But (· = p) H1 H → Pen K H p tc → (∀ y H', But (· = p) H H' → Pen K H' p tc → R y H' → Q y H') → B x H Q)
    (hd : ∀ H ys, But (· = p) H1 H → Pen K H p tc → H D = some (.lst ys) → ys.length = n → (∀ y, y ∈ ys → R y H) → Rend H) :
    ∃ W : Nat → Nat → Hp → Prop, (∃ m, W 0 m (L2.upd H1 D (.lst []))) ∧ ∀ i m H, W i m H →
      (J.stop i H ∧ Rend H) ∨ (J.go i H ∧ ∃ Nx : Hp → Prop, (∀ H', Nx H' → ∃ m', m' < m ∧ W (i + 1) m' H') ∧ ∀ x H', J.yld i H x H' →
        B x H' fun y H4 => ∃ acc, H4 D = some (.lst acc) ∧ acc.length < sizeLine ∧ Nx (L2.upd H4 D (.lst (acc ++ [y])))) := by
  have ne : ¬ D = p := fun z => by obtain ⟨a0, d0, c0, f0, S0⟩ := pn; have := S0.d; rw [← z, nD] at this; cases this
  have two : ∀ {H : Hp} {ys : List V}, Pen K H p tc → H D = some (.lst ys) → NoTup H (fun a => a = D ∨ a = p) := fun {H ys} pn hD x xs hx => by
    rcases hx with rfl | rfl
    · exact noTupD hD _ _ rfl
    · exact pn.noTup _ _ rfl
  refine ⟨fun i m H => m = n - i ∧ i ≤ n ∧ But (· = p) H1 H ∧ Pen K H p tc ∧ ∃ ys, H D = some (.lst ys) ∧ ys.length = i ∧ ∀ y, y ∈ ys → R y H, ⟨n, by simp, Nat.zero_le _, (pn.app (But.refl _ _) pn nD).2, (pn.app (But.refl _ _) pn nD).1, [], upd_same, rfl, fun y h => nomatch h⟩, ?_⟩
  rintro i m H ⟨rfl, hi, e, pn1, ys, hD, hl, hR⟩
  by_cases hlt : i < n
  · refine .inr ⟨w.goes i H hlt trivial, fun H' => But (· = p) H1 H' ∧ Pen K H' p tc ∧ ∃ ys, H' D = some (.lst ys) ∧ ys.length = i + 1 ∧ ∀ y, y ∈ ys → R y H', fun H' p' => ⟨n - (i + 1), by omega, rfl, hlt, p'⟩, fun x H' y => ?_⟩
    have eH := hY _ _ _ _ (w.yields i H x H' hlt trivial y)
    subst eH
    refine hs x H' _ e pn1 fun v H4 e4 pn4 r => ?_
    have hD4 : H4 D = some (.lst ys) := e4 _ _ ne hD
    obtain ⟨pn5, k5⟩ := pn.app (o := .lst (ys ++ [v])) (e.trans e4) pn4 nD
    refine ⟨ys, hD4, by omega, k5, pn5, ys ++ [v], upd_same, by simp [hl], fun y hy => ?_⟩
    have up4 : But (fun a => a = D ∨ a = p) H4 (L2.upd H4 D (.lst (ys ++ [v]))) := But.upd (.inl rfl)
    rcases List.mem_append.mp hy with hy | hy
    · refine hup y H' _ (But.trans (fun b o n h => e4 b o (fun z => n (.inr z)) h) up4) (two pn1 hD) (hR y hy)
    · rw [List.mem_singleton.mp hy]
      exact hup v H4 _ up4 (two pn4 hD4) r
  · have e1 : i = n := by omega
    subst e1
    exact .inl ⟨w.stops H trivial, hd H ys e pn1 hD hl hR⟩
theorem gather {K : PySem.W.Frag} {H : Hp} {Pd : PyData → Prop} : ∀ {ys : List V}, (∀ y, y ∈ ys → ∃ d, Dp K H y d ∧ Pd d) → ∃ ds, DpAll K H ys ds ∧ ds.length = ys.length ∧ ∀ d, d ∈ ds → Pd d
  | [], _ => ⟨[], .nil, rfl, fun _ h => nomatch h⟩
  | y :: ys, h => by
    obtain ⟨d, h1, h2⟩ := h y List.mem_cons_self
    obtain ⟨ds, h3, h4, h5⟩ := gather (ys := ys) fun z hz => h z (List.mem_cons_of_mem _ hz)
    refine ⟨d :: ds, .cons h1 h3, congrArg Nat.succ h4, fun e he => ?_⟩
    rcases List.mem_cons.mp he with rfl | he
    · exact h2
    · exact h5 e he
section
variable {P : Program} {w : World} {K : PySem.W.Frag} {mg : Str → Option Value} {base : Heap} {f : Addr} {fd : FuncData}
def sp_law_number (K : PySem.W.Frag) : Sp := fun vs H Q _ => ∃ p tc k, vs = [.ref p, .int k] ∧ 0 ≤ k ∧ k < 4 ∧ Pen K H p tc ∧ ∀ v d H', But (· = p) H H' → Pen K H' p tc → Dp K H' v d → Nice d → Q v H'
theorem ok_law_number (D : C8.Def K mg "_law_number" s_law_number f fd) (b : Binds K fd ["pen", "size"] []) (c_law_draw : CalX P w K mg base 1 "_law_draw" (sp_law_draw K)) (c_law_low : CalX P w K mg base 2 "_law_low" (sp_law_low K)) (c_law_wide : CalX P w K mg base 2 "_law_wide" (sp_law_wide K)) : CalX P w K mg base 3 "_law_number" (sp_law_number K) := by
  refine calX D b sc_law_number (fun vs H Q E h => by obtain ⟨p, tc, k, rfl, _⟩ := h; rfl) fun cdv A outer s H vs Q E hr h => ?_
  obtain ⟨p, tc, k, rfl, k0, k4, pn, q⟩ := h
  refine ⟨_, (pss_cons (ps_if (pt_cmpR op_eq (pv 1) pe_int (nomark _)) (pss_one (ps_ret (pe_op op_sub (pe_x c_law_draw hr (by decide) tk0 rfl (pa_cons (pv 0) (pa_cons pe_int pa_nil))) pe_int))) pss_nil)
    (pss_cons (ps_if (pt_cmpR op_eq (pv 1) pe_int (nomark _)) (pss_one (ps_ret (pe_x c_law_low hr (by decide) tk0 rfl (pa_cons (pe_op op_sub (pe_x c_law_draw hr (by decide) tk0 rfl (pa_cons (pv 0) (pa_cons pe_int pa_nil))) pe_int) (pa_cons (pe_op op_add pe_int (pe_x c_law_draw hr (by decide) tk0 rfl (pa_cons (pv 0) (pa_cons pe_int pa_nil)))) pa_nil))))) pss_nil)
    (pss_cons (ps_if (pt_cmpR op_eq (pv 1) pe_int (nomark _)) (pss_one (ps_ret (pe_x c_law_low hr (by decide) tk0 rfl (pa_cons (pe_op op_sub (pe_x c_law_draw hr (by decide) tk0 rfl (pa_cons (pv 0) (pa_cons pe_int pa_nil))) pe_int) (pa_cons (pe_op op_add pe_int (pe_x c_law_draw hr (by decide) tk0 rfl (pa_cons (pv 0) (pa_cons pe_int pa_nil)))) pa_nil))))) pss_nil)
    (pss_one (ps_ret (pe_x c_law_low hr (by decide) tk0 rfl (pa_cons (pe_op op_mul (pe_op op_sub pe_int (pe_op op_mul pe_int (pe_x c_law_draw hr (by decide) tk0 rfl (pa_cons (pv 0) (pa_cons pe_int pa_nil))))) (pe_x c_law_wide hr (by decide) tk0 rfl (pa_cons (pv 0) (pa_cons pe_int pa_nil)))) (pa_cons (pe_op op_add pe_int (pe_x c_law_wide hr (by decide) tk0 rfl (pa_cons (pv 0) (pa_cons pe_int pa_nil)))) pa_nil)))))))), ?_⟩
  walk_at "r"
  refine ⟨rfl, ?_⟩
  have low : ∀ (t b : Int) (H3 : Hp) (Q' : XK), But (· = p) H H3 → Pen K H3 p tc → 0 < b → t.natAbs < 10 ^ 40 → b ≤ 10 ^ 40 → sp_law_low K [.int t, .int b] H3 Q Q' := by
    intro t b H3 Q' k3 pn3 b0 h1 h2
    refine ⟨t, b, rfl, b0, ?_, fun v H4 e4 hd => q v _ H4 (k3.trans (Same.but e4)) (pn3.same e4) hd (lowD_nice b0 h1 h2)⟩
    refine (Nat.log2_lt (by omega)).mpr ?_
    have : b.natAbs ≤ 10 ^ 40 := by omega
    exact Nat.lt_of_le_of_lt this (by decide +kernel)
  by_cases hk0 : k = 0
  · rw [if_pos (decide_eq_true hk0)]
    refine ⟨p, tc, _, rfl, by decide, by decide, pn, fun d H1 d0 d1 k1 pn1 => ⟨_, rfl, q _ _ H1 k1 pn1 (.int _) ⟨_, 1, rfl, by omega, by omega⟩⟩⟩
  rw [if_neg (fun z => hk0 (of_decide_eq_true z))]
  refine ⟨rfl, ?_⟩
  by_cases hk1 : k = 1
  · rw [if_pos (decide_eq_true hk1)]
    refine ⟨p, tc, _, rfl, by decide, by decide, pn, fun d H1 d0 d1 k1 pn1 => ⟨_, rfl, p, tc, _, rfl, by decide, by decide, pn1, fun e H2 e0 e1 k2 pn2 => ⟨_, rfl, ?_⟩⟩⟩
    exact low _ _ H2 _ (k1.trans k2) pn2 (by omega) (by omega) (by omega)
  rw [if_neg (fun z => hk1 (of_decide_eq_true z))]
  refine ⟨rfl, ?_⟩
  by_cases hk2 : k = 2
  · rw [if_pos (decide_eq_true hk2)]
    refine ⟨p, tc, _, rfl, by decide, by decide, pn, fun d H1 d0 d1 k1 pn1 => ⟨_, rfl, p, tc, _, rfl, by decide, by decide, pn1, fun e H2 e0 e1 k2 pn2 => ⟨_, rfl, ?_⟩⟩⟩
    exact low _ _ H2 _ (k1.trans k2) pn2 (by omega) (by omega) (by omega)
  rw [if_neg (fun z => hk2 (of_decide_eq_true z))]
  refine ⟨p, tc, _, rfl, by decide, by decide, pn, fun d H1 d0 d1 k1 pn1 => ⟨_, rfl, .inl ⟨by decide, by decide⟩, p, tc, 40, rfl, by decide, pn1, fun e H2 e0 e1 k2 pn2 => ⟨_, rfl, .inl ⟨by omega, by omega⟩, p, tc, 39, rfl, by decide, pn2, fun f' H3 f0 f1 k3 pn3 => ⟨_, rfl, ?_⟩⟩⟩⟩
  refine low _ _ H3 _ ((k1.trans k2).trans k3) pn3 (by omega) ?_ (by omega)
  have hd : d = 0 ∨ d = 1 := by omega
  rcases hd with rfl | rfl
  · simp; omega
  · simp; omega
def sp_law_drawn (K : PySem.W.Frag) (n : Nat) : Sp := fun vs H Q _ => ∃ p tc, vs = [.ref p, .int (n : Nat)] ∧ Pen K H p tc ∧ ∀ v d H', But (· = p) H H' → Pen K H' p tc → Dp K H' v d → Nol d → Dv n d → Q v H'
theorem fn_law_drawn (Z : Zb mg) (D : C8.Def K mg "_law_drawn_value" s_law_drawn_value f fd) (b : Binds K fd ["pen", "deep"] []) {n : Nat} (c_law_draw : CalX P w K mg base 1 "_law_draw" (sp_law_draw K)) (c_law_number : CalX P w K mg base 3 "_law_number" (sp_law_number K)) (c_law_drawn_value : CalX P w K mg base (n + 3) "_law_drawn_value" (fun vs H Q E => 0 < n ∧ sp_law_drawn K (n - 1) vs H Q E)) : CalX P w K mg base (n + 4) "_law_drawn_value" (sp_law_drawn K n) := by
  have nd := sc_law_drawn_value.nd
  refine calX D b sc_law_drawn_value (fun vs H Q E h => by obtain ⟨p, tc, rfl, _⟩ := h; rfl) fun cdv A outer s H vs Q E hr h => ?_
  obtain ⟨p, tc, rfl, pn, q⟩ := h
  refine ⟨_, (pss_cons (ps_set (i := 2) nd rfl (Or.inl rfl) (pe_x c_law_draw hr (by(omega)) tk0 rfl (pa_cons (pv 0) (pa_cons (pe_ifExp (pt_cmpR op_gt (pv 1) pe_int (nomark _)) pe_int pe_int) pa_nil))))
    (pss_cons (ps_if (pt_cmpR op_lt (pv 2) pe_int (nomark _)) (pss_one (ps_ret (pe_x c_law_number hr (by(omega)) tk0 rfl (pa_cons (pv 0) (pa_cons (pe_x c_law_draw hr (by(omega)) tk0 rfl (pa_cons (pv 0) (pa_cons pe_int pa_nil))) pa_nil))))) pss_nil)
    (pss_one (ps_ret (pe_callTy call_tuple_of rfl Z.tuple PyProof.Rows.boot_tuple (pa_cons (pe_lc (own := [("lap", 3)]) rfl nd (pi_range1 rfl Z.range (pa_cons (pe_x c_law_draw hr (by(omega)) tk0 rfl (pa_cons (pv 0) (pa_cons pe_int pa_nil))) pa_nil)) (blkOk_by (N := ["pen", "deep", "way", "lap"]) (sc := C8.fnScope s_law_drawn_value) (by decide +kernel)) (fun _ _ _ _ _ => (pg_name (i := 3) nd rfl (Or.inl rfl))) (fun _ _ _ _ _ => pts_nil) (fun _ _ _ _ _ => (pe_x c_law_drawn_value hr (by(omega)) tk0 rfl (pa_cons (pv 0) (pa_cons (pe_op op_sub (pv 1) pe_int) pa_nil))))) pa_nil)))))), ?_⟩
  walk_at "r"
  have num : ∀ (H1 : Hp) (E1 E2 : XK), But (· = p) H H1 → Pen K H1 p tc → sp_law_draw K [.ref p, .int 4] H1 (fun x H2 => sp_law_number K [.ref p, x] H2 Q E1) E2 := by
    intro H1 E1 E2 k1 pn1
    refine ⟨p, tc, 4, rfl, by decide, by decide, pn1, fun d H2 d0 d1 k2 pn2 => ⟨p, tc, d, rfl, d0, d1, pn2, fun v dd H3 k3 pn3 hd nc => ?_⟩⟩
    refine q v dd H3 ((k1.trans k2).trans k3) pn3 hd nc.nol ?_
    cases n with
    | zero => exact nc
    | succ n => exact .inl nc
  cases n with
  | zero =>
    rw [if_neg (by decide)]
    refine ⟨p, tc, 2, rfl, by decide, by decide, pn, fun d H1 d0 d1 k1 pn1 => ⟨_, rfl, ?_⟩⟩
    rw [if_pos (decide_eq_true (by omega))]
    exact num H1 _ _ k1 pn1
  | succ n =>
    rw [if_pos (decide_eq_true (by omega))]
    refine ⟨p, tc, 5, rfl, by decide, by decide, pn, fun d H1 d0 d1 k1 pn1 => ⟨_, rfl, ?_⟩⟩
    by_cases h2 : d < 2
    · rw [if_pos (decide_eq_true h2)]
      exact num H1 _ _ k1 pn1
    rw [if_neg (fun z => h2 (of_decide_eq_true z))]
    refine ⟨_, rfl, p, tc, 4, rfl, by decide, by decide, pn1, fun m H2 m0 m1 k2 pn2 => ⟨m, rfl, by omega, by omega, fun D nD => ?_⟩⟩
    have k02 := k1.trans k2
    refine comp_pen walk_range (szL (by omega)) nD pn2 (fun x H' Q' => 0 < n + 1 ∧ sp_law_drawn K (n + 1 - 1) [.ref p, .int (((n + 1 : Nat) : Int) - 1)] H' Q' _) (fun v H' => ∃ d, Dp K H' v d ∧ (Nol d ∧ Dv n d)) (fun _ _ _ _ y => y.1) ?_ ?_ ?_
    · rintro v Ha Hb k z ⟨d, hd, nl, dv⟩
      exact ⟨d, Dp.but z k nl hd, nl, dv⟩
    · intro x Ha Q' ka pna q'
      have e : ((n + 1 : Nat) : Int) - 1 = (n : Nat) := by omega
      rw [e]
      exact ⟨Nat.succ_pos _, p, tc, rfl, pna, fun v d Hb kb pnb hd nl dv => q' v Hb kb pnb ⟨d, hd, nl, dv⟩⟩
    · intro Ha ys ka pna hD hl hR
      obtain ⟨ds, al, hlen, hp⟩ := gather hR
      refine ⟨ys, .inl ⟨.inl (.inl hD), fun l nl => ?_⟩⟩
      have e3 := same_new nl (.tup ys)
      refine q _ (.tuple ds) _ ((k02.trans ka).trans (Same.but e3)) (pna.same e3) (.tup (.inl (.inl upd_same)) (DpAll.same e3 al)) (.tup fun d hd => (hp d hd).1) (.inr ⟨ds, rfl, by omega, fun d hd => (hp d hd).2⟩)
theorem ok_law_drawn (Z : Zb mg) (D : C8.Def K mg "_law_drawn_value" s_law_drawn_value f fd) (b : Binds K fd ["pen", "deep"] []) (c_law_draw : CalX P w K mg base 1 "_law_draw" (sp_law_draw K)) (c_law_number : CalX P w K mg base 3 "_law_number" (sp_law_number K)) : ∀ n, CalX P w K mg base (n + 4) "_law_drawn_value" (sp_law_drawn K n)
  | 0 => fn_law_drawn Z D b c_law_draw c_law_number ((CalX.none D b _).imp fun _ _ _ _ h => absurd h.1 (Nat.lt_irrefl 0))
  | n + 1 => fn_law_drawn Z D b c_law_draw c_law_number ((ok_law_drawn Z D b c_law_draw c_law_number n).imp fun _ _ _ _ h => h.2)
end
end FP
set_option maxHeartbeats 4000000
/-! for i, x in enumerate(a tuple): the library has the walk over a list; here the same over a tuple, by the library's general draw (Draws) -/
namespace FP
open PySem PySem.Spec PyProof.Rows L2
open AutoSeq1 (wpAny_loadPart')
/-- the objects that are made: the tuple's iterator, then the enumerator -/
def tIt (l : Addr) : Obj := { cls := .type "tuple_iterator", data := .fields #[.ref l, .int 0 0] }
def tEn (it : Addr) : Obj := { cls := .type "enumerate", data := .fields #[.none, .bool false, .ref it, rawInt 0, .none, .none] }
theorem tenum_new (l : Addr) (its : Array Value) (n : Nat) (dt : Option Addr) (sl : Array (Option Value)) : Meets (Builtin.«enumerate.__new__» ⟨[.type "enumerate", .ref l], []⟩) (fun _ R s =>
    s.heap.get? l = some { cls := .type "tuple", dict := dt, data := .seq its n, slots := sl } ∧ R (.ok (.ret (.ref (s.heap.push (tIt l)).objs.size))) { s with heap := (s.heap.push (tIt l)).push (tEn s.heap.objs.size) }) := .of_wp fun prog w A R s h => by
  obtain ⟨hp, g, d, tk, os⟩ := s
  obtain ⟨ht, h⟩ := h
  have hT : Heap.IsTuple (Shared.heap ⟨hp, g, d, tk, os⟩) l its := ⟨_, ht, rfl, n, rfl⟩
  have hs := sub_enumerate
  wp_walk using wpAny_loadPart' ht
  refine wpAny_stack_any fun q => wpAny_pure ?_
  split
  · rename_i c _ _ _ _ _
    cases (c == Value.type "enumerate") <;> (wp_walk using wpAny_loadPart' ht, wpAny_pyIter_tuple hT; exact ⟨_, rfl, h⟩)
  · wp_walk using wpAny_loadPart' ht, wpAny_pyIter_tuple hT; exact ⟨_, rfl, h⟩
section
variable {prog : Program} {w : World} {A : Around} {E : Value → Shared → Prop} {s : Shared}
theorem call_tenum {l : Addr} {its : Array Value} {Q : Value → Shared → Prop} (hT : s.heap.IsTuple l its)
    (h : ∀ h', IsEnum h' (s.heap.objs.size + 1) s.heap.objs.size 0 .none → h'.IsTupleIter s.heap.objs.size l 0 → (∀ b o, s.heap.get? b = some o → h'.get? b = some o) → Q (.ref (s.heap.objs.size + 1)) { s with heap := h' }) :
    wpAny (model prog w) A (call (.type "enumerate") [.ref l]) Q E s := by
  obtain ⟨⟨c, dt, da, sl⟩, e, hc, n, hd⟩ := hT
  replace hc : c = .type "tuple" := hc
  replace hd : da = .seq its n := hd
  subst hc hd
  refine callType_new F.called_enumerate (by decide) (F.typeCall_enumerate_1 _) (F.newCall_enumerate_1 _) (fun obj => F.args_object_init_2 obj _) F.entry_enumerate_new (tenum_new l its n dt sl) ⟨e, ?_⟩
  have z : (s.heap.push (tIt l)).objs.size = s.heap.objs.size + 1 := Heap.size_push ..
  rw [z]
  have en : ((s.heap.push (tIt l)).push (tEn s.heap.objs.size)).get? (s.heap.objs.size + 1) = some (tEn s.heap.objs.size) := by
    have q := Heap.get?_push_size (s.heap.push (tIt l)) (o := tEn s.heap.objs.size) rfl
    rw [z] at q; exact q
  exact ⟨⟨_, en, rfl⟩, h _ en ⟨_, Heap.get?_push_of_some _ (Heap.get?_push_size _ rfl), rfl, rfl⟩ fun b o x => Heap.get?_push_of_some _ (Heap.get?_push_of_some _ x)⟩
/-- a tuple's iterator draws the tuple's items -/
theorem drawsT (it l : Addr) (its : Array Value) (hh : A.handled = none) : Draws prog w A it [it, l] its.size (fun i x => its[i]? = some x) (fun i h => h.IsTupleIter it l i ∧ h.IsTuple l its ∧ it ≠ l) where
  live := fun i h st => let ⟨⟨o, e, _⟩, _⟩ := st; ⟨o, e⟩
  frame := fun i h h' st k => let ⟨⟨o, e, r⟩, ⟨o2, e2, r2⟩, ne⟩ := st; ⟨⟨o, k it (by simp) o e, r⟩, ⟨o2, k l (by simp) o2 e2, r2⟩, ne⟩
  item := fun i s Q E hi st hQ => RZ.nextOf_tuple_item st.1 st.2.1 (x := its[i]) (by simp [hi]) fun h' st' sb =>
    hQ its[i] h' s.toks (by simp [hi]) ⟨st', let ⟨o2, e2, r2⟩ := st.2.1; ⟨o2, (sb.2 l (Ne.symm st.2.2)).trans e2, r2⟩, st.2.2⟩ sb
  done := fun s Q E st hE => RZ.nextOf_tuple_end hh st.1 st.2.1 (by simp) hE
/-- .. and at its end none -/
theorem drawsE (it l : Addr) (its : Array Value) (n : Nat) (hn : its.size ≤ n) (hh : A.handled = none) : Draws prog w A it [it, l] n (fun _ _ => True) (fun i h => i = n ∧ h.IsTupleIter it l n ∧ h.IsTuple l its) where
  live := fun i h st => let ⟨_, ⟨o, e, _⟩, _⟩ := st; ⟨o, e⟩
  frame := fun i h h' st k => let ⟨ei, ⟨o, e, r⟩, ⟨o2, e2, r2⟩⟩ := st; ⟨ei, ⟨o, k it (by simp) o e, r⟩, ⟨o2, k l (by simp) o2 e2, r2⟩⟩
  item := fun i s Q E hi st hQ => absurd hi (by rw [st.1]; exact Nat.lt_irrefl n)
  done := fun s Q E st hE => RZ.nextOf_tuple_end hh st.2.1 st.2.2 (by simp; exact hn) hE
end
/-- the tuple at a, each item in a new pair -/
def IteT (K : PySem.W.Frag) (a : Addr) : It :=
  ⟨fun i H => ∃ (xs : List V) (x : V), SqT K H a xs ∧ xs[i]? = some x, fun i H v H' => ∃ T x, v = .ref T ∧ H T = none ∧ H' = upd H T (.tup [.int (i : Nat), x]) ∧ ∀ xs, SqT K H a xs → xs[i]? = some x, fun i H => ∃ xs : List V, SqT K H a xs ∧ xs.length ≤ i⟩
theorem walk_enumT {K : PySem.W.Frag} {a : Addr} {xs : List V} : Walk (IteT K a) xs.length (fun H => SqT K H a xs) (YPair (fun i => some (.int (i : Nat))) (fun i => xs[i]?)) := by
  refine ⟨fun i _ hi q => ⟨xs, xs[i], q, by simp [hi]⟩, fun _ q => ⟨xs, q, Nat.le_refl _⟩, fun i H v H' _ q y => ?_⟩
  obtain ⟨T, x, h1, h2, h3, h4⟩ := y
  exact ⟨T, .int (i : Nat), x, h1, h2, h3, rfl, h4 xs q⟩
theorem turn_enumT {P : Program} {w : World} {K : PySem.W.Frag} {elts : List Expr} {kk : Nat} {tpos : Pos} (a e it : Addr) :
    Turn P w K (.Tuple elts kk tpos) (IteT K a) [e, it] e (fun i h => (∃ old, IsEnum h e it ((i : Nat) : Int) old) ∧ h.IsTupleIter it a i ∧ e ≠ it ∧ it ≠ a ∧ e ≠ a) where
  mem := by simp
  obj := fun i h st b hb => by
    obtain ⟨⟨old, he⟩, ⟨o, ho, hc, hd⟩, _⟩ := st
    rcases (show b = e ∨ b = it by simpa using hb) with z | z
    · rw [z]; exact ⟨_, he, fun v q => nomatch q⟩
    · rw [z]; exact ⟨o, ho, fun v q => by rw [hd] at q; cases q⟩
  keep := fun i h h' st k => let ⟨⟨old, he⟩, ⟨o, ho, r⟩, ne⟩ := st; ⟨⟨old, k e (by simp) _ he⟩, ⟨o, k it (by simp) o ho, r⟩, ne⟩
  item := by
    intro X hP hw hK hc i pins s σ H E I hf st hg
    subst hP hw hK
    obtain ⟨⟨old, he⟩, hit, n1, n2, n3⟩ := st
    obtain ⟨xs, x, hq, hx⟩ := hg
    obtain ⟨its, rv, tu, hz⟩ := I.tuple hq
    obtain ⟨u, hu, ru⟩ := rv.get hx
    have hel : e < s.heap.objs.size := Heap.lt_size he
    have hil : it < s.heap.objs.size := by obtain ⟨_, q, _⟩ := hit; exact Heap.lt_size q
    have hu2 : its.toArray[i]? = some u := by simpa using hu
    refine wpAny_pyNext_enum_itemD (drawsT it a its.toArray (show X.A.in1.handled = none from I.ok.hd hc)) he ⟨hit, show s.heap.IsTuple a its.toArray from tu, n2⟩ (by have := (List.getElem?_eq_some_iff.mp hu).1; simpa using this) n1 (by simp [n1, n3]) fun v h1 tk hv eo st1 hT hs1 k1 => ?_
    rw [hu2] at hv
    cases hv
    refine ⟨_, rfl, wpAny_letOwnedTupleGo_enum (s := { s with heap := h1, toks := tk + 1 }) eo fun h2 e2 sb => ?_⟩
    have hT2 : h2.get? s.heap.objs.size = some { cls := .type "tuple", data := .seq #[.int i tk, u] } := (sb.2 _ (Nat.ne_of_gt hel)).trans hT
    have nw : ObjOk X.prog X.w (upd H s.heap.objs.size (.tup [.int (i : Nat), x])) h2 s.heap.objs.size (.tup [.int (i : Nat), x]) := ⟨by show 2 ≤ sizeLine; decide, [.int i tk, u], .cons ⟨_, rfl⟩ (.cons ru .nil), ⟨_, hT2, rfl, _, rfl⟩⟩
    have J : Inv X pins σ (upd H s.heap.objs.size (.tup [.int (i : Nat), x])) { s with heap := h2, toks := tk + 1 } :=
      I.turnedNew (ch := [e, it]) (fun b ob hb q => (sb.2 b (fun z => hb (by simp [z]))).trans (k1 b ob (fun z => hb (by simp [z])) (fun z => hb (by simp [z])) q)) hf (Nat.le_refl _) nw
    have i1 : h2.IsTupleIter it a (i + 1) := by
      obtain ⟨o, ho, r⟩ := st1.1
      exact ⟨o, (sb.2 it (Ne.symm n1)).trans ho, r⟩
    refine ⟨.ref s.heap.objs.size, _, J, rfl, ⟨_, x, rfl, I.hok.fresh (Nat.le_refl _), rfl, fun ys hy => by rw [I.tuple_inj hy hq]; exact hx⟩, ⟨⟨u, ?_⟩, i1, n1, n2, n3⟩, fun b hb => ?_⟩
    · rw [show ((i + 1 : Nat) : Int) = (i : Int) + 1 by omega]; exact e2
    · have lb : b < s.heap.objs.size := by
        rcases (show b = e ∨ b = it by simpa using hb) with z | z
        · rw [z]; exact hel
        · rw [z]; exact hil
      rw [upd_ne (Nat.ne_of_lt lb)]
      exact (hf b hb).1
  done := by
    intro X hP hw hK hc i pins s σ H E I hf st hg
    subst hP hw hK
    obtain ⟨⟨old, he⟩, hit, n1, n2, n3⟩ := st
    obtain ⟨xs, hq, hx⟩ := hg
    obtain ⟨its, rv, tu, hz⟩ := I.tuple hq
    obtain ⟨f0, f1, f2, f3, f4, f5⟩ := hf it (by simp)
    have hl := rv.length
    exact wpAny_pyNext_enum_endD (drawsE it a its.toArray i (by simp; omega) (show X.A.in1.handled = none from I.ok.hd hc)) he ⟨rfl, hit, show s.heap.IsTuple a its.toArray from tu⟩ fun h' eb => ⟨rfl, I.turned (t' := s.toks) (fun b o hb q => eb b o hb q) f0 f1 f3 f4 f5⟩
  self := fun A i s Q E st h => let ⟨⟨_, he⟩, _⟩ := st; wpAny_pyIter_enum he h
def iEnumT (K : PySem.W.Frag) (ta : TA) : TI := fun σ H R => ta σ H fun vs H1 => ∃ a xs, vs = [.ref a] ∧ SqT K H1 a xs ∧ R (IteT K a) H1
/-- for i, x in enumerate(e): e a tuple -/
theorem pi_enumT {X : Cx} {e : Expr} {ta : TA} {p pos tpos : Pos} {elts : List Expr} {kk : Nat} (hg : Gl X "enumerate") (hm : X.mg "enumerate" = none) (ha : PA X [e] ta) (hs : starEach [e] X.env = [(false, eval e X.env)] := by rfl) : PI X (.Tuple elts kk tpos) (.Call (.Name "enumerate" p) [e] [] pos) (iEnumT X.K ta) := by
  refine ⟨fun pins s σ H R I h => Call_ (ld_blt I hg hm boot_enumerate (PyProof.Rows.callWith_type1 (thn (ha.run pos pins s σ H _ I h) fun us s1 ⟨vs, H1, I1, r1, q1⟩ => ?_) hs rfl))⟩
  obtain ⟨a, xs, ex, hq, q⟩ := q1
  subst ex
  cases r1 with
  | cons r rr =>
    cases rr
    cases r
    obtain ⟨its, rv, tu, hz⟩ := I1.tuple hq
    have tu2 : s1.heap.IsTuple a its.toArray := tu
    have al : a < s1.heap.objs.size := by obtain ⟨_, e, _⟩ := tu2; exact Heap.lt_size e
    refine call_tenum tu2 fun h' he hit hk => wpAny_pyIter_enum he ?_
    have I2 : Inv X pins σ H1 { s1 with heap := h' } := I1.kept (t' := s1.toks) hk
    refine ⟨s1.heap.objs.size + 1, [s1.heap.objs.size + 1, s1.heap.objs.size], _, _, H1, rfl, I2, turn_enumT a (s1.heap.objs.size + 1) s1.heap.objs.size, ⟨⟨.none, he⟩, hit, Nat.succ_ne_self _, (Nat.ne_of_lt al).symm, Nat.ne_of_gt (Nat.lt_succ_of_lt al)⟩, fun b hb => ?_, q⟩
    have le : s1.heap.objs.size ≤ b := by
      rcases (show b = s1.heap.objs.size + 1 ∨ b = s1.heap.objs.size by simpa using hb) with z | z
      · rw [z]; exact Nat.le_add_right _ _
      · rw [z]; exact Nat.le_refl _
    exact I1.fpOk le (I1.hok.fresh le)
end FP
set_option maxHeartbeats 4000000
namespace FP
open PySem PySem.Spec PyProof.Rows L2
local macro_rules | `(tactic| walk_at "rd") => `(tactic| dsimp only [tVar, tC, tCmp, tIsN, tNotN, tB, tAnd, tOr, tNot, tAndV, tOrV, tNotV, tIf, tNext, tSeq, tBreak, tCont, tDrop, tRet, tRetN, tIfS, tNever, tAsg, tPar, tAug, tOp, tUn, tTest, tChain, tFld, tNil, tCons, tTup, tLst, tCB, iList, iTup, iStr, tLc, tM0, tM1, tPart, tNoPart, tSl, tBM, tCallS, tCallSD, tMethW, tMake, sDPut, tDisp, tPairs, WE, tDGet, tDIn, gName, gTup, gCons, gNil, gSub, sFld, sFldAug, rI, rI0, rU, rEq, rNe, rAdd, rSub, t2I, tYes, cx_K, cx_w, cx_prog])
local macro_rules | `(tactic| walk_at "rs") => `(tactic| (try simp (maxSteps := 4000000) only [L2.start, List.map_cons, List.map_nil, List.length_cons, List.length_nil, List.cons_append, List.nil_append, Nat.reduceAdd, Nat.reduceSub, Nat.zero_add, List.replicate, List.getElem?_cons_zero, List.getElem?_cons_succ, Option.some.injEq, exists_eq_left', exists_eq_left, V.int.injEq, V.str.injEq, V.bl.injEq, V.ref.injEq, List.set_cons_zero, List.set_cons_succ, exists_and_left, List.cons.injEq, and_true, true_and, wipe, if_true, if_false, Bool.not_true, Bool.not_false, Bool.false_eq_true, decide_true, decide_false]))
local macro_rules | `(tactic| walk_at "r") => `(tactic| (walk_at "rd"; walk_at "rs"))
local macro_rules | `(tactic| walk_at "T") => `(tactic| (rw [if_pos (by first | assumption | rfl | decide | exact decide_eq_true (by assumption) | (simp [tyOf]; done) | (simp; omega) | omega)]; walk_at "rs"))
local macro_rules | `(tactic| walk_at "F") => `(tactic| (rw [if_neg (by first | assumption | decide | (simp [tyOf]; done) | (simp; omega) | (simp; assumption) | omega)]; walk_at "rs"))
/-! ### the law's tokens -/
abbrev strV (x : List Nat) : V := .str (SX.S x)
def sepT : Bool → List (List (List Nat)) → List (List Nat)
  | _, [] => []
  | b, x :: r => (if b then [] else [[44]]) ++ x ++ sepT false r
theorem sepT_snoc (b : Bool) (x : List (List Nat)) : ∀ l : List (List (List Nat)), sepT b (l ++ [x]) = sepT b l ++ ((if (b && l.isEmpty) = true then [] else [[44]]) ++ x)
  | [] => by cases b <;> simp [sepT]
  | y :: r => by
    rw [List.cons_append]
    show (if b then [] else [[44]]) ++ y ++ sepT false (r ++ [x]) = ((if b then [] else [[44]]) ++ y ++ sepT false r) ++ _
    rw [sepT_snoc false x r]
    simp
theorem sepT_mem {x : List (List Nat)} : ∀ {l : List (List (List Nat))} {b : Bool}, x ∈ l → x.length ≤ (sepT b l).length
  | _ :: r, b, .head _ => by show x.length ≤ ((if b then [] else [[44]]) ++ x ++ sepT false r).length; rw [List.length_append, List.length_append]; omega
  | y :: r, b, .tail _ h => by
    have := sepT_mem (b := false) h
    show x.length ≤ ((if b then [] else [[44]]) ++ y ++ sepT false r).length
    rw [List.length_append]; omega
theorem sepT_take (i : Nat) : ∀ (l : List (List (List Nat))) (b : Bool), (sepT b (l.take i)).length ≤ (sepT b l).length := by
  induction i with
  | zero => intro l b; rw [List.take_zero]; exact Nat.zero_le _
  | succ i ih =>
    intro l b
    cases l with
    | nil => exact Nat.le_refl _
    | cons x r =>
      have := ih r false
      show ((if b then [] else [[44]]) ++ x ++ sepT false (r.take i)).length ≤ ((if b then [] else [[44]]) ++ x ++ sepT false r).length
      simp only [List.length_append]; omega
def ratT (t b : Int) : List (List Nat) := (if t < 0 then [[45]] else []) ++ (if b = 1 then [TL.numL t.natAbs] else [TL.numL t.natAbs, [47], TL.numL b.natAbs])
def tokV : Nat → PyData → List (List Nat)
  | n, d => match ratioOf d with
    | some (t, b) => ratT t b
    | none => match n, d with
      | n + 1, .tuple ds => [40] :: (sepT true (ds.map (tokV n)) ++ ((if ds.length = 1 then [[44]] else []) ++ [[41]]))
      | _, _ => []
theorem tokV_rat {n : Nat} {d : PyData} {t b : Int} (h : ratioOf d = some (t, b)) : tokV n d = ratT t b := by
  unfold tokV; rw [h]
theorem tokV_tup {n : Nat} {ds : List PyData} (h : ratioOf (.tuple ds) = none) : tokV (n + 1) (.tuple ds) = [40] :: (sepT true (ds.map (tokV n)) ++ ((if ds.length = 1 then [[44]] else []) ++ [[41]])) := by
  rw [tokV.eq_def]
  show (match ratioOf (.tuple ds) with | some (t, b) => _ | none => _) = _
  rw [h]
theorem absD {d : PyData} {t b : Int} (h : ratioOf d = some (t, b)) : lowD (sgn t * t) b = if b = 1 then .int (t.natAbs : Nat) else .tuple [.int (t.natAbs : Nat), .int b] := by
  have e : sgn t * t = (t.natAbs : Nat) := by
    unfold sgn
    by_cases h1 : 0 < t
    · rw [if_pos h1]; omega
    · rw [if_neg h1]
      by_cases h2 : t < 0
      · rw [if_pos h2]; omega
      · rw [if_neg h2]; omega
  rw [e]
  rcases ratio_some h with ⟨_, rfl⟩ | ⟨_, h1, g⟩
  · rw [if_pos rfl]
    unfold lowD
    have g : Nat.gcd ((t.natAbs : Nat) : Int).natAbs (1 : Int).natAbs = 1 := Nat.gcd_one_right _
    rw [g, Int.natCast_one, if_pos rfl, Int.ediv_one]
  · rw [if_neg (by omega)]
    unfold lowD
    have g2 : Nat.gcd ((t.natAbs : Nat) : Int).natAbs b.natAbs = 1 := by rw [Int.natAbs_natCast]; exact g
    rw [g2, if_neg (by show ¬ b = ((1 : Nat) : Int); omega), Int.natCast_one, Int.ediv_one, Int.ediv_one]
theorem same_none {H H' : Hp} {l : Addr} (e : Same H H') (h : H' l = none) : H l = none := by
  cases z : H l with
  | none => rfl
  | some o => have := e l o z; rw [h] at this; cases this
theorem Same.upd {H H' : Hp} {D : Addr} {o : HO} (e : Same H H') (n : H D = none) : Same H (L2.upd H' D o) := fun b u h => by
  rw [upd_ne (fun z => by rw [z, n] at h; cases h)]; exact e b u h
theorem cat_fin {H H4 : Hp} {p p1 : Addr} {pre suf : List (List Nat)} {Q : VK} (e : Same H H4) (hp : H4 p = some (.lst (pre.map strV))) (np1 : H4 p1 = none) (len : pre.length + suf.length ≤ 10000)
    (q : ∀ l H', Same H4 H' → H' l = some (.lst ((pre ++ suf).map strV)) → H4 l = none → Q (.ref l) H') : rCat (.ref p) (.ref p1) (L2.upd H4 p1 (.lst (suf.map strV))) Q := by
  refine ⟨p, p1, _, _, rfl, rfl, (same_new np1 _) _ _ hp, upd_same, sz (by rw [List.length_map, List.length_map]; omega), fun l nl => ?_⟩
  exact q l _ ((same_new np1 _).trans (same_new nl _)) (by rw [upd_same, List.map_append]) (same_none (same_new np1 _) nl)
theorem num_V (n : Nat) : V.str (Str.ofString (toString ((n : Nat) : Int))) = strV (TL.numL n) := congrArg V.str (SX.num_S n)
section
variable {P : Program} {w : World} {K : PySem.W.Frag} {mg : Str → Option Value} {base : Heap} {f : Addr} {fd : FuncData}
def sp_law_tokens_of (K : PySem.W.Frag) (n : Nat) : Sp := fun vs H Q _ => ∃ v d, vs = [v] ∧ Dp K H v d ∧ Nol d ∧ Tw n d ∧ (tokV n d).length ≤ 10000 ∧ ∀ l H', Same H H' → H' l = some (.lst ((tokV n d).map strV)) → H l = none → Q (.ref l) H'
def tkL (K : PySem.W.Frag) (n : Nat) (ds : List PyData) (a p : Addr) (H : Hp) (i : Nat) (σ : L2.St) (H' : Hp) : Prop := Same H H' ∧ H' p = some (.lst (([40] :: sepT true ((ds.take i).map (tokV n))).map strV)) ∧ ∃ x3 x4 : Option V, σ = [some (.ref a), none, some (.ref p), x3, x4]
theorem fn_law_tokens_of (Z : Zb mg) (D : C8.Def K mg "_law_tokens_of" s_law_tokens_of f fd) (b : Binds K fd ["value"] []) {n : Nat} (c_law_is_ratio : CalX P w K mg base 2 "_law_is_ratio" (sp_law_is_ratio K)) (c_law_sign : CalX P w K mg base 2 "_law_sign" (sp_law_sign K)) (c_law_times : CalX P w K mg base 3 "_law_times" (sp_law_times K)) (c_law_is_whole : CalX P w K mg base 1 "_law_is_whole" (sp_law_is_whole K)) (c_law_tokens_of : CalX P w K mg base (n + 3) "_law_tokens_of" (fun vs H Q E => 0 < n ∧ sp_law_tokens_of K (n - 1) vs H Q E)) : CalX P w K mg base (n + 4) "_law_tokens_of" (sp_law_tokens_of K n) := by
  have nd := sc_law_tokens_of.nd
  refine calX D b sc_law_tokens_of (fun vs H Q E h => by obtain ⟨v, d, rfl, _⟩ := h; rfl) fun cdv A outer s H vs Q E hr h => ?_
  obtain ⟨v, d, rfl, hd, nl, tw, hl, q⟩ := h
  refine ⟨_, (pss_cons (ps_if (pt_val (pe_x c_law_is_ratio hr (by(omega)) tk0 rfl (pa_cons (pv 0) pa_nil))) (pss_cons (ps_set (i := 1) nd rfl (Or.inl rfl) (pe_x c_law_times hr (by(omega)) tk0 rfl (pa_cons (pe_x c_law_sign hr (by(omega)) tk0 rfl (pa_cons (pv 0) pa_nil)) (pa_cons (pv 0) pa_nil))))
    (pss_one (ps_ret (pe_op op_cat (pe_ifExp (pt_cmpR op_lt (pe_x c_law_sign hr (by(omega)) tk0 rfl (pa_cons (pv 0) pa_nil)) pe_int (nomark _)) (pe_lst (pa_cons pe_str pa_nil)) (pe_lst pa_nil)) (pe_ifExp (pt_val (pe_x c_law_is_whole hr (by(omega)) tk0 rfl (pa_cons (pv 1) pa_nil))) (pe_lst (pa_cons (pe_callTy call_str_int rfl Z.str PyProof.Rows.boot_str (pa_cons (pv 1) pa_nil)) pa_nil)) (pe_lst (pa_cons (pe_callTy call_str_int rfl Z.str PyProof.Rows.boot_str (pa_cons (pe_ix ix_tup (pv 1) pe_int (fun _ _ => rfl)) pa_nil)) (pa_cons pe_str (pa_cons (pe_callTy call_str_int rfl Z.str PyProof.Rows.boot_str (pa_cons (pe_ix ix_tup (pv 1) pe_int (fun _ _ => rfl)) pa_nil)) pa_nil))))))))) pss_nil)
    (pss_cons (ps_set (i := 2) nd rfl (Or.inl rfl) (pe_lst (pa_cons pe_str pa_nil)))
    (pss_cons (ps_for (L2.passes_of rfl) rfl (pi_enumT rfl Z.enumerate (pa_cons (pv 0) pa_nil)) (pg_tup rfl (pgs_cons (pg_name (i := 3) nd rfl (Or.inl rfl)) (pgs_cons (pg_name (i := 4) nd rfl (Or.inl rfl)) pgs_nil))) (pss_one (ps_expr (pe_bm PySem.F.plainAttrs_list PySem.F.slot_list_extend PySem.F.type_list_extend mt_extend (pv 2) (pa_cons (pe_op op_cat (pe_ifExp (pt_cmpR op_gt (pv 3) pe_int (nomark _)) (pe_lst (pa_cons pe_str pa_nil)) (pe_lst pa_nil)) (pe_x c_law_tokens_of hr (by(omega)) tk0 rfl (pa_cons (pv 4) pa_nil))) pa_nil)))))
    (pss_one (ps_ret (pe_op op_cat (pe_op op_cat (pv 2) (pe_ifExp (pt_cmpR op_eq (pe_callB call_len rfl Z.len PySem.boot_len (pa_cons (pv 0) pa_nil)) pe_int (nomark _)) (pe_lst (pa_cons pe_str pa_nil)) (pe_lst pa_nil))) (pe_lst (pa_cons pe_str pa_nil)))))))), ?_⟩
  walk_at "r"
  refine ⟨v, d, rfl, hd, ?_⟩
  cases tw with
  | @rat _ _ t b hr' sm =>
    rw [hr']
    rw [tokV_rat hr'] at q hl
    refine ⟨true, rfl, ?_⟩
    walk_at "T"
    have b0 := ratio_pos hr'
    have ht := small_top sm
    have hb := small_bot sm b0
    refine ⟨v, d, t, b, rfl, hd, hr', fun H1 e1 => ?_⟩
    refine ⟨sgn t, v, d, t, b, rfl, (by unfold sgn; split; omega; split <;> omega), (by unfold sgn; split; omega; split <;> omega), Dp.same e1 hd, hr', Nat.lt_trans (log2_lt hb) (by decide), fun x H2 e2 hx => ?_⟩
    have e02 := e1.trans e2
    refine ⟨v, d, t, b, rfl, Dp.same e02 hd, hr', fun H3 e3 => ?_⟩
    have e03 := e02.trans e3
    rw [absD hr'] at hx
    replace hx := Dp.same e3 hx
    refine ⟨_, rfl, ?_⟩
    have sg : (sgn t < 0) ↔ t < 0 := by unfold sgn; split; omega; split <;> omega
    by_cases h0 : t < 0
    case' pos =>
      rw [if_pos (decide_eq_true (sg.mpr h0))]
      refine ⟨sz (by decide), fun p np => ?_⟩
      have hp : (upd H3 p (.lst [V.str (Str.ofString "-")])) p = some (.lst (([[45]] : List (List Nat)).map strV)) := upd_same
      have hpre : ([[45]] : List (List Nat)) ++ (if b = 1 then [TL.numL t.natAbs] else [TL.numL t.natAbs, [47], TL.numL b.natAbs]) = ratT t b := by unfold ratT; rw [if_pos h0]
    case' neg =>
      rw [if_neg (fun z => h0 (sg.mp (of_decide_eq_true z)))]
      refine ⟨sz (by decide), fun p np => ?_⟩
      have hp : (upd H3 p (.lst [])) p = some (.lst (([] : List (List Nat)).map strV)) := upd_same
      have hpre : ([] : List (List Nat)) ++ (if b = 1 then [TL.numL t.natAbs] else [TL.numL t.natAbs, [47], TL.numL b.natAbs]) = ratT t b := by unfold ratT; rw [if_neg h0]
    all_goals
      have e4 := same_new np (.lst [])
      refine ⟨x, _, rfl, Dp.kd (Dp.same (same_new np _) hx), ?_⟩
      by_cases h1 : b = 1
      · rw [if_pos h1] at hpre hx
        rw [if_pos h1]
        cases hx
        refine ⟨true, rfl, ?_⟩
        walk_at "T"
        refine ⟨by rw [Int.natAbs_natCast]; exact log2_lt ht, sz (by decide), fun p1 np1 => ?_⟩
        rw [num_V]
        exact cat_fin (pre := _) (suf := [_]) (e03.trans (same_new np _)) hp np1 (by rw [← hpre, List.length_append] at hl; exact hl) fun l H' e' hl' nl' => q l H' ((e03.trans (same_new np _)).trans e') (by rw [← hpre]; exact hl') (same_none (e03.trans (same_new np _)) nl')
      · rw [if_neg h1] at hpre hx
        rw [if_neg h1]
        obtain ⟨a, rfl, hs⟩ := Dp.pair hx
        refine ⟨false, rfl, ?_⟩
        walk_at "F"
        refine ixT (SqT.same (same_new np _) hs) rfl ⟨_, rfl, by rw [Int.natAbs_natCast]; exact log2_lt ht, ixT (SqT.same (same_new np _) hs) rfl ⟨_, rfl, log2_lt hb, sz (by decide), fun p1 np1 => ?_⟩⟩
        rw [num_V]
        have eb : V.str (Str.ofString (toString b)) = strV (TL.numL b.natAbs) := by
          have e : b = ((b.natAbs : Nat) : Int) := by omega
          have z := num_V b.natAbs
          rw [← e] at z
          exact z
        rw [eb]
        exact cat_fin (pre := _) (suf := [_, [47], _]) (e03.trans (same_new np _)) hp np1 (by rw [← hpre, List.length_append] at hl; exact hl) fun l H' e' hl' nl' => q l H' ((e03.trans (same_new np _)).trans e') (by rw [← hpre]; exact hl') (same_none (e03.trans (same_new np _)) nl')
  | @tup n ds nr hin hw =>
    rw [nr]
    refine ⟨false, rfl, ?_⟩
    walk_at "F"
    refine ⟨sz (by decide), fun p np => ?_⟩
    obtain ⟨a, xs, rfl, hs, al⟩ := Dp.tupI hd
    have hlen := DpAll.length al
    have e0 := same_new np (.lst [V.str (Str.ofString "(")])
    rw [tokV_tup nr] at hl q
    refine ⟨_, rfl, a, xs, rfl, SqT.same e0 hs, ?_⟩
    refine for_it walk_enumT (tkL K n ds a p H) ⟨e0, upd_same, none, none, rfl⟩ (fun i σ H' _ h => SqT.same h.1 hs) ?_ ?_
    · rintro i x σ H1 H2 hi ⟨e1, hp, x3, x4, rfl⟩ hy
      obtain ⟨T, vi, vx, rfl, nT, rfl, hvi, hvx⟩ := hy
      cases hvi
      walk_at "r"
      obtain ⟨d, hd1, dp⟩ := DpAll.getV al hvx
      have hm := List.mem_of_getElem? hd1
      have nlm : Nol d := by cases nl with | tup g => exact g d hm
      have e2 := same_new nT (.tup [.int (i : Nat), vx])
      have hi2 : i < ds.length := by omega
      have htk : ds.take (i + 1) = ds.take i ++ [d] := by rw [List.take_succ, hd1]; rfl
      have lt1 : (sepT true ((ds.take i).map (tokV n))).length ≤ (sepT true (ds.map (tokV n))).length := by rw [List.map_take]; exact sepT_take i _ true
      have lt2 : (tokV n d).length ≤ (sepT true (ds.map (tokV n))).length := sepT_mem (List.mem_map_of_mem hm)
      have lt3 : (sepT true (ds.map (tokV n))).length ≤ 10000 := by rw [List.length_cons, List.length_append] at hl; omega
      refine ⟨_, .inl (.inl upd_same), rfl, _, _, rfl, _, _, rfl, rfl, tyL (e2 _ _ hp), _, rfl, ?_⟩
      by_cases h0 : i = 0
      case' pos =>
        rw [if_neg (fun z => by have := of_decide_eq_true z; omega)]
        refine ⟨sz (by decide), fun p1 np1 => ?_⟩
        have hp1 : (upd (upd H1 T (.tup [.int (i : Nat), vx])) p1 (.lst [])) p1 = some (.lst (([] : List (List Nat)).map strV)) := upd_same
        have hpre : sepT true ((ds.take (i + 1)).map (tokV n)) = sepT true ((ds.take i).map (tokV n)) ++ (([] : List (List Nat)) ++ tokV n d) := by
          rw [htk, List.map_append, List.map_singleton, sepT_snoc, h0]; rfl
        have lpre : ([] : List (List Nat)).length ≤ 1 := by decide
        have e3 := e2.trans (same_new np1 (.lst []))
      case' neg =>
        rw [if_pos (decide_eq_true (by omega))]
        refine ⟨sz (by decide), fun p1 np1 => ?_⟩
        have hp1 : (upd (upd H1 T (.tup [.int (i : Nat), vx])) p1 (.lst [V.str (Str.ofString ",")])) p1 = some (.lst (([[44]] : List (List Nat)).map strV)) := upd_same
        have hpre : sepT true ((ds.take (i + 1)).map (tokV n)) = sepT true ((ds.take i).map (tokV n)) ++ (([[44]] : List (List Nat)) ++ tokV n d) := by
          rw [htk, List.map_append, List.map_singleton, sepT_snoc]
          have : ((ds.take i).map (tokV n)).isEmpty = false := by
            cases hds : (ds.take i).map (tokV n) with
            | nil => have z := congrArg List.length hds; rw [List.length_map, List.length_take] at z; have z2 : min i ds.length = 0 := z; omega
            | cons _ _ => rfl
          rw [this]; rfl
        have lpre : ([[44]] : List (List Nat)).length ≤ 1 := by decide
        have e3 := e2.trans (same_new np1 (.lst [V.str (Str.ofString ",")]))
      all_goals
        refine ⟨Nat.succ_pos _, vx, d, rfl, Dp.same (e1.trans e3) dp, nlm, hin d hm, Nat.le_trans lt2 lt3, fun l H3 e4 hl3 nl3 => ?_⟩
        replace hl3 : H3 l = some (.lst ((tokV n d).map strV)) := hl3
        refine ⟨p1, l, _, _, rfl, rfl, e4 _ _ hp1, hl3, sz (by simp only [List.length_map]; omega), fun y ny => ?_⟩
        have e5 : ∀ o, Same H1 (L2.upd H3 y o) := fun o => (e3.trans e4).trans (same_new ny o)
        refine ⟨p, y, _, _, rfl, rfl, e5 _ _ _ hp, upd_same, sz (by simp only [List.length_map, List.length_append, List.length_cons, List.length_nil]; omega), ?_⟩
        refine ⟨Same.upd (e1.trans (e5 _)) np, ?_, _, _, rfl⟩
        rw [upd_same, hpre, ← List.map_append, ← List.map_append]
        rfl
    · rintro σ H1 ⟨e1, hp, x3, x4, rfl⟩
      walk_at "r"
      refine lenT (SqT.same e1 hs) ⟨rfl, ?_⟩
      have etk : ds.take xs.length = ds := by rw [hlen]; exact List.take_length
      rw [etk] at hp
      by_cases h1 : ds.length = 1
      case' pos =>
        rw [if_pos (decide_eq_true (by omega))]
        refine ⟨sz (by decide), fun p1 np1 => ?_⟩
        have el : ([V.str (Str.ofString ",")] : List V) = ([[44]] : List (List Nat)).map strV := rfl
        have hc : (if ds.length = 1 then [[44]] else []) = ([[44]] : List (List Nat)) := if_pos h1
      case' neg =>
        rw [if_neg (fun z => by have := of_decide_eq_true z; omega)]
        refine ⟨sz (by decide), fun p1 np1 => ?_⟩
        have el : ([] : List V) = ([] : List (List Nat)).map strV := rfl
        have hc : (if ds.length = 1 then [[44]] else []) = ([] : List (List Nat)) := if_neg h1
      all_goals
        rw [hc] at hl q
        rw [el]
        refine cat_fin e1 hp np1 (by simp only [List.length_cons, List.length_append, List.length_nil] at hl ⊢; omega) fun l2 H4 e4 hl4 nl4 => ?_
        refine ⟨sz (by decide), fun p2 np2 => ?_⟩
        refine cat_fin (suf := [[41]]) (e1.trans e4) hl4 np2 (by simp only [List.length_cons, List.length_append, List.length_nil] at hl ⊢; omega) fun l3 H5 e5 hl5 nl5 => ?_
        refine q l3 H5 ((e1.trans e4).trans e5) ?_ (same_none (e1.trans e4) nl5)
        rw [hl5]
        simp only [List.cons_append, List.append_assoc]
theorem ok_law_tokens_of (Z : Zb mg) (D : C8.Def K mg "_law_tokens_of" s_law_tokens_of f fd) (b : Binds K fd ["value"] []) (c_law_is_ratio : CalX P w K mg base 2 "_law_is_ratio" (sp_law_is_ratio K)) (c_law_sign : CalX P w K mg base 2 "_law_sign" (sp_law_sign K)) (c_law_times : CalX P w K mg base 3 "_law_times" (sp_law_times K)) (c_law_is_whole : CalX P w K mg base 1 "_law_is_whole" (sp_law_is_whole K)) : ∀ n, CalX P w K mg base (n + 4) "_law_tokens_of" (sp_law_tokens_of K n)
  | 0 => fn_law_tokens_of Z D b c_law_is_ratio c_law_sign c_law_times c_law_is_whole ((CalX.none D b _).imp fun _ _ _ _ h => absurd h.1 (Nat.lt_irrefl 0))
  | n + 1 => fn_law_tokens_of Z D b c_law_is_ratio c_law_sign c_law_times c_law_is_whole ((ok_law_tokens_of Z D b c_law_is_ratio c_law_sign c_law_times c_law_is_whole n).imp fun _ _ _ _ h => h.2)
end
end FP
set_option maxHeartbeats 4000000
namespace FP
open PySem PySem.Spec PyProof.Rows L2
local macro_rules | `(tactic| walk_at "rd") => `(tactic| dsimp only [tVar, tC, tCmp, tIsN, tNotN, tB, tAnd, tOr, tNot, tAndV, tOrV, tNotV, tIf, tNext, tSeq, tBreak, tCont, tDrop, tRet, tRetN, tIfS, tNever, tAsg, tPar, tAug, tOp, tUn, tTest, tChain, tFld, tNil, tCons, tTup, tLst, tCB, iList, iTup, iStr, tLc, tM0, tM1, tPart, tNoPart, tSl, tBM, tCallS, tCallSD, tMethW, tMake, sDPut, tDisp, tPairs, WE, tDGet, tDIn, gName, gTup, gCons, gNil, gSub, sFld, sFldAug, rI, rI0, rU, rEq, rNe, rAdd, rSub, t2I, tYes, cx_K, cx_w, cx_prog])
local macro_rules | `(tactic| walk_at "rs") => `(tactic| (try simp (maxSteps := 4000000) only [L2.start, List.map_cons, List.map_nil, List.length_cons, List.length_nil, List.cons_append, List.nil_append, Nat.reduceAdd, Nat.reduceSub, Nat.zero_add, List.replicate, List.getElem?_cons_zero, List.getElem?_cons_succ, Option.some.injEq, exists_eq_left', exists_eq_left, V.int.injEq, V.str.injEq, V.bl.injEq, V.ref.injEq, List.set_cons_zero, List.set_cons_succ, exists_and_left, List.cons.injEq, and_true, true_and, wipe, if_true, if_false, Bool.not_true, Bool.not_false, Bool.false_eq_true, decide_true, decide_false]))
local macro_rules | `(tactic| walk_at "r") => `(tactic| (walk_at "rd"; walk_at "rs"))
local macro_rules | `(tactic| walk_at "T") => `(tactic| (rw [if_pos (by first | assumption | rfl | decide | exact decide_eq_true (by assumption) | (simp [tyOf]; done) | (simp; omega) | omega)]; walk_at "rs"))
local macro_rules | `(tactic| walk_at "F") => `(tactic| (rw [if_neg (by first | assumption | decide | (simp [tyOf]; done) | (simp; omega) | (simp; assumption) | omega)]; walk_at "rs"))
/-- the text of tokens: a blank behind a comma that no bracket follows -/
def txtT : List (List Nat) → List Nat
  | [] => []
  | t :: r => t ++ ((if t = [44] ∧ r.head? ≠ some [41] then [32] else []) ++ txtT r)
/-- those whose flag is set -/
def fltL : List V → List Bool → List V
  | x :: xs, b :: bs => if b = true then x :: fltL xs bs else fltL xs bs
  | _, _ => []
theorem fltL_snoc (x : V) (b : Bool) : ∀ {xs : List V} {bs : List Bool}, xs.length = bs.length → fltL (xs ++ [x]) (bs ++ [b]) = fltL xs bs ++ (if b = true then [x] else [])
  | [], [], _ => by cases b <;> rfl
  | [], _ :: _, h => by simp at h
  | _ :: _, [], h => by simp at h
  | y :: ys, c :: cs, h => by
    have q := fltL_snoc x b (xs := ys) (bs := cs) (by simpa using h)
    show (if c = true then y :: fltL (ys ++ [x]) (cs ++ [b]) else fltL (ys ++ [x]) (cs ++ [b])) = (if c = true then y :: fltL ys cs else fltL ys cs) ++ _
    rw [q]
    cases c <;> rfl
theorem fltL_len : ∀ (xs : List V) (bs : List Bool), (fltL xs bs).length ≤ xs.length
  | [], _ => by cases ‹List Bool› <;> exact Nat.zero_le _
  | _ :: _, [] => Nat.zero_le _
  | x :: xs, b :: bs => by
    have := fltL_len xs bs
    show (if b = true then x :: fltL xs bs else fltL xs bs).length ≤ xs.length + 1
    split
    · simp; omega
    · omega
theorem fltL_mem {v : V} : ∀ {xs : List V} {bs : List Bool}, v ∈ fltL xs bs → v ∈ xs
  | [], [], h => nomatch h
  | [], _ :: _, h => nomatch h
  | _ :: _, [], h => nomatch h
  | x :: xs, b :: bs, h => by
    have h : v ∈ (if b = true then x :: fltL xs bs else fltL xs bs) := h
    split at h
    · rcases List.mem_cons.mp h with rfl | h
      · exact List.mem_cons_self
      · exact List.mem_cons_of_mem _ (fltL_mem h)
    · exact List.mem_cons_of_mem _ (fltL_mem h)
theorem fltL_nil : ∀ {xs : List V} {bs : List Bool}, xs.length = bs.length → (fltL xs bs).isEmpty = bs.all (!·)
  | [], [], _ => rfl
  | [], _ :: _, h => by simp at h
  | _ :: _, [], h => by simp at h
  | x :: xs, b :: bs, h => by
    have q := fltL_nil (xs := xs) (bs := bs) (by simpa using h)
    show (if b = true then x :: fltL xs bs else fltL xs bs).isEmpty = (!b && bs.all (!·))
    cases b
    · exact q
    · rfl
/-- a comprehension with a test, the items as they are -/
theorem comp_flt {J : It} {xs : List V} {G : Hp → Prop} {H1 : Hp} {D : Addr} {Rend : Hp → Prop} (w : Walk J xs.length G (YAt xs)) (small : xs.length < sizeLine) (nD : H1 D = none) (B : V → Hp → (Bool → Hp → Prop) → Prop) (ps : List Bool) (hl : ps.length = xs.length)
    (hG : ∀ H, But (· = D) (L2.upd H1 D (.lst [])) H → G H)
    (hs : ∀ (i : Nat) x b H (Kc : Bool → Hp → Prop), xs[i]? = some x → ps[i]? = some b → Same H1 H → (∀ H', Same H H' → Kc b H') → B x H Kc)
    (hd : ∀ H, Same H1 H → H D = some (.lst (fltL xs ps)) → Rend H) :
    ∃ W : Nat → Nat → Hp → Prop, (∃ m, W 0 m (L2.upd H1 D (.lst []))) ∧ ∀ i m H, W i m H →
      (J.stop i H ∧ Rend H) ∨ (J.go i H ∧ ∃ Nx : Hp → Prop, (∀ H', Nx H' → ∃ m', m' < m ∧ W (i + 1) m' H') ∧ ∀ x H', J.yld i H x H' →
        B x H' fun k H4 => if k = true then ∃ acc, H4 D = some (.lst acc) ∧ acc.length < sizeLine ∧ Nx (L2.upd H4 D (.lst (acc ++ [x]))) else Nx H4) := by
  refine ⟨fun i m H => m = xs.length - i ∧ i ≤ xs.length ∧ But (· = D) (L2.upd H1 D (.lst [])) H ∧ H D = some (.lst (fltL (xs.take i) (ps.take i))), ⟨xs.length, by simp, Nat.zero_le _, But.refl _ _, upd_same⟩, ?_⟩
  rintro i m H ⟨rfl, hi, e, hD⟩
  have q := hG H e
  by_cases hlt : i < xs.length
  · refine .inr ⟨w.goes i H hlt q, fun H' => But (· = D) (L2.upd H1 D (.lst [])) H' ∧ H' D = some (.lst (fltL (xs.take (i + 1)) (ps.take (i + 1)))), fun H' p' => ⟨xs.length - (i + 1), by omega, rfl, hlt, p'⟩, fun x H' y => ?_⟩
    obtain ⟨rfl, hy⟩ := w.yields i H x H' hlt q y
    have hp : ps[i]? = some ps[i] := List.getElem?_eq_getElem (by omega)
    have es : fltL (xs.take (i + 1)) (ps.take (i + 1)) = fltL (xs.take i) (ps.take i) ++ (if ps[i] = true then [x] else []) := by
      rw [List.take_succ, List.take_succ, hy, hp]
      exact fltL_snoc x _ (by rw [List.length_take, List.length_take, hl])
    refine hs i x _ H' _ hy hp (Same.of_but nD e) fun H4 e4 => ?_
    have hD4 := e4 _ _ hD
    by_cases hb : ps[i] = true
    · rw [if_pos hb]
      rw [if_pos hb] at es
      refine ⟨_, hD4, Nat.lt_of_le_of_lt (Nat.le_trans (fltL_len _ _) (by rw [List.length_take]; omega)) small, e.trans ((Same.but e4).trans (But.upd rfl)), by rw [upd_same, es]⟩
    · rw [if_neg hb]
      rw [if_neg hb, List.append_nil] at es
      exact ⟨e.trans (Same.but e4), by rw [es]; exact hD4⟩
  · have e1 : i = xs.length := by omega
    subst e1
    rw [List.take_length, ← hl, List.take_length] at hD
    exact .inl ⟨w.stops H q, hd H (Same.of_but nD e) hD⟩
theorem lay_all : ∀ {ds : List PyData}, (∀ d, d ∈ ds → d.canLay0 = true) → PyData.canLayAll0 ds = true
  | [], _ => rfl
  | d :: ds, h => by
    show (PyData.canLay0 d && PyData.canLayAll0 ds) = true
    rw [h d List.mem_cons_self, lay_all fun e he => h e (List.mem_cons_of_mem _ he)]; rfl
theorem depth_all {k : Nat} : ∀ {ds : List PyData}, (∀ d, d ∈ ds → d.depth ≤ k) → PyData.depthAll ds ≤ k
  | [], _ => Nat.zero_le _
  | d :: ds, h => by
    show max (PyData.depth d) (PyData.depthAll ds) ≤ k
    exact Nat.max_le.mpr ⟨h d List.mem_cons_self, depth_all fun e he => h e (List.mem_cons_of_mem _ he)⟩
theorem shapedL {k : Nat} {ds : List PyData} (h : ∀ d, d ∈ ds → d.canLay0 = true ∧ d.depth ≤ k) (hk : k < 64) : SeqAt.shaped (.list ds) = true := by
  unfold SeqAt.shaped
  rw [show PyData.canLay0 (.list ds) = true from lay_all fun d hd => (h d hd).1]
  have := depth_all (ds := ds) (k := k) fun d hd => (h d hd).2
  rw [decide_eq_true (show PyData.depth (.list ds) ≤ 64 by show PyData.depthAll ds + 1 ≤ 64; omega)]; rfl
theorem shapedT {k : Nat} {ds : List PyData} (h : ∀ d, d ∈ ds → d.canLay0 = true ∧ d.depth ≤ k) (hk : k < 64) : SeqAt.shaped (.tuple ds) = true := by
  unfold SeqAt.shaped
  rw [show PyData.canLay0 (.tuple ds) = true from lay_all fun d hd => (h d hd).1]
  have := depth_all (ds := ds) (k := k) fun d hd => (h d hd).2
  rw [decide_eq_true (show PyData.depth (.tuple ds) ≤ 64 by show PyData.depthAll ds + 1 ≤ 64; omega)]; rfl
/-- code points -/
def Cps (l : List Nat) : Prop := ∀ c, c ∈ l → c < 1114112
theorem lay_str {l : List Nat} (h : Cps l) : (PyData.str (SX.S l)).canLay0 = true := by
  show (SX.S l).cps.all (· < 0x110000) = true
  rw [← Array.all_toList]
  exact List.all_eq_true.mpr fun c hc => decide_eq_true (h c hc)
theorem eqv_nil (ds : List PyData) : PyData.eqv (.list ds) (.list []) = ds.isEmpty := by
  show PyData.eqvAll ds [] = _
  cases ds <;> rfl
theorem dp_nil {K : PySem.W.Frag} {H : Hp} {p : Addr} (h : H p = some (.lst [])) : Dp K H (.ref p) (.list []) := .lst (.inl (.inl h)) .nil
theorem shaped_nil : SeqAt.shaped (.list []) = true := rfl
theorem u64 {k : Nat} {A : Around} (r : Room k A) : A.units + 64 < cLine := by have := r.un; omega
section
variable {P : Program} {w : World} {K : PySem.W.Frag} {mg : Str → Option Value} {base : Heap} {f : Addr} {fd : FuncData}
def sp_law_text_of (K : PySem.W.Frag) (n : Nat) : Sp := fun vs H Q _ => ∃ v d, vs = [v] ∧ Dp K H v d ∧ Nol d ∧ Tw n d ∧ (tokV n d).length ≤ 10000 ∧ (txtT (tokV n d)).length ≤ 100000 ∧ (∀ i, (tokV n d)[i]? = some [44] → i + 1 < (tokV n d).length) ∧ ∀ H', Same H H' → Q (.str (SX.S (txtT (tokV n d)))) H'
def txI (v : V) (l : Addr) (ts : List (List Nat)) (H : Hp) (i : Nat) (σ : L2.St) (H' : Hp) : Prop := Same H H' ∧ ∃ (u : List Nat) (x3 x4 x5 : Option V), u ++ txtT (ts.drop i) = txtT ts ∧ σ = [some v, some (strV u), some (.ref l), x3, x4, x5]
theorem ok_law_text_of (Z : Zb mg) (D : C8.Def K mg "_law_text_of" s_law_text_of f fd) (b : Binds K fd ["value"] []) {n : Nat} (c_law_tokens_of : CalX P w K mg base (n + 4) "_law_tokens_of" (sp_law_tokens_of K n)) : CalX P w K mg base (n + 5) "_law_text_of" (sp_law_text_of K n) := by
  have nd := sc_law_text_of.nd
  refine calX D b sc_law_text_of (fun vs H Q E h => by obtain ⟨v, d, rfl, _⟩ := h; rfl) fun cdv A outer s H vs Q E hr h => ?_
  obtain ⟨v, d, rfl, hd, nl, tw, hl, hl2, hcm, q⟩ := h
  refine ⟨_, (pss_cons (ps_set (i := 1) nd rfl (Or.inl rfl) pe_str)
    (pss_cons (ps_set (i := 2) nd rfl (Or.inl rfl) (pe_x c_law_tokens_of hr (by(omega)) tk0 rfl (pa_cons (pv 0) pa_nil)))
    (pss_cons (ps_for (L2.passes_of rfl) rfl (pi_enum rfl Z.enumerate (pa_cons (pv 2) pa_nil)) (pg_tup rfl (pgs_cons (pg_name (i := 3) nd rfl (Or.inl rfl)) (pgs_cons (pg_name (i := 4) nd rfl (Or.inl rfl)) pgs_nil))) (pss_cons (ps_set (i := 5) nd rfl (Or.inl rfl) (pe_and (pe_cmpR op_eq (pv 4) pe_str (nomark _)) (pe_one (pe_cmpR op_ne (pe_ix ix_list (pv 2) (pe_op op_add (pv 3) pe_int) (fun _ _ => rfl)) pe_str (nomark _)))))
    (pss_one (ps_set (i := 1) nd rfl (Or.inl rfl) (pe_op op_add_str (pe_op op_add_str (pv 1) (pv 4)) (pe_ifExp (pt_val (pv 5)) pe_str pe_str))))))
    (pss_one (ps_ret (pv 1)))))), ?_⟩
  walk_at "r"
  refine ⟨v, d, rfl, hd, nl, tw, hl, fun l H1 e1 hl1 nl1 => ?_⟩
  refine ⟨_, rfl, l, _, rfl, .inl (.inl hl1), ?_⟩
  have hll : ((tokV n d).map strV).length = (tokV n d).length := List.length_map _
  refine for_it walk_enum (txI v l (tokV n d) H1) ⟨Same.refl H1, [], none, none, none, rfl, rfl⟩ (fun i σ H' _ h => .inl (.inl (h.1 _ _ hl1))) ?_ ?_
  · rintro i x σ H2 H3 hi ⟨e2, u, x3, x4, x5, hu, rfl⟩ hy
    obtain ⟨T, vi, vx, rfl, nT, rfl, hvi, hvx⟩ := hy
    cases hvi
    rw [hll] at hi
    replace hvx : ((tokV n d).map strV)[i]? = some vx := hvx
    rw [List.getElem?_map, List.getElem?_eq_getElem hi] at hvx
    cases hvx
    walk_at "r"
    have e3 := same_new nT (.tup [.int (i : Nat), strV (tokV n d)[i]])
    refine ⟨_, .inl (.inl upd_same), rfl, _, _, rfl, _, _, rfl, rfl, ?_⟩
    have hdr : (tokV n d).drop i = (tokV n d)[i] :: (tokV n d).drop (i + 1) := List.drop_eq_getElem_cons hi
    rw [hdr] at hu
    replace hu : u ++ ((tokV n d)[i] ++ ((if (tokV n d)[i] = [44] ∧ ((tokV n d).drop (i + 1)).head? ≠ some [41] then [32] else []) ++ txtT ((tokV n d).drop (i + 1)))) = txtT (tokV n d) := hu
    have hlu := congrArg List.length hu
    simp only [List.length_append] at hlu
    have e13 := e2.trans e3
    refine ⟨rfl, ?_⟩
    rw [l_comma, eqSd]
    by_cases hc : (tokV n d)[i] = [44]
    · rw [if_pos (decide_eq_true hc)]
      have hi1 : i + 1 < (tokV n d).length := hcm i (by rw [List.getElem?_eq_getElem hi, hc])
      have hd1 : ((tokV n d).drop (i + 1)).head? = some (tokV n d)[i + 1] := by rw [List.head?_drop, List.getElem?_eq_getElem hi1]
      have hat : atI ((tokV n d).map strV) ((i : Nat) + 1 : Int) = some (strV (tokV n d)[i + 1]) := atI_nat (j := i + 1) (by rw [List.getElem?_map, List.getElem?_eq_getElem hi1]; rfl)
      refine ⟨_, rfl, ixL (.inl (.inl (e13 _ _ hl1))) hat ⟨rfl, _, rfl, sz (by rw [S_len, S_len]; omega), ?_⟩⟩
      rw [l_close, eqSd, S_cat, l_blank, l_empty, S_cat, S_cat]
      rw [hd1] at hu hlu
      by_cases hb : (tokV n d)[i + 1] = [41]
      · rw [if_neg (by rw [decide_eq_true hb]; decide)]
        rw [if_neg (fun z => z.2 (by rw [hb]))] at hu
        refine ⟨sz (by rw [S_len]; simp only [List.length_append]; show _ + 0 ≤ _; omega), e13, _, _, _, _, ?_, rfl⟩
        rw [← hu]; simp only [List.append_assoc]
      · rw [if_pos (by rw [decide_eq_false hb]; rfl)]
        rw [if_pos ⟨hc, fun z => hb (Option.some.inj z)⟩] at hu
        refine ⟨sz (by rw [S_len]; simp only [List.length_append]; show _ + 1 ≤ _; omega), e13, _, _, _, _, ?_, rfl⟩
        rw [← hu]; simp only [List.append_assoc]
    · rw [if_neg (fun z => hc (of_decide_eq_true z))]
      rw [if_neg (fun z => hc z.1)] at hu
      refine ⟨_, rfl, sz (by rw [S_len, S_len]; omega), ?_⟩
      rw [l_empty, S_cat, S_cat]
      refine ⟨sz (by rw [S_len]; simp only [List.length_append]; show _ + 0 ≤ _; omega), e13, _, _, _, _, ?_, rfl⟩
      rw [← hu]; simp only [List.append_assoc]
  · rintro σ H2 ⟨e2, u, x3, x4, x5, hu, rfl⟩
    rw [hll, List.drop_length] at hu
    have hu2 : u = txtT (tokV n d) := by rw [← hu]; exact (List.append_nil u).symm
    subst hu2
    exact ⟨_, rfl, q H2 (e1.trans e2)⟩
def sp_law_is_figures : Sp := fun vs H Q _ => ∃ l, vs = [.str (SX.S l)] ∧ l.length ≤ 100000 ∧ Cps l ∧ ∀ H', Same H H' → Q (.bl (isNum l)) H'
theorem ok_law_is_figures (Z : Zb mg) (D : C8.Def K mg "_law_is_figures" s_law_is_figures f fd) (b : Binds K fd ["word"] []) : CalX P w K mg base 1 "_law_is_figures" sp_law_is_figures := by
  have nd := sc_law_is_figures.nd
  refine calX D b sc_law_is_figures (fun vs H Q E h => by obtain ⟨l, rfl, _⟩ := h; rfl) fun cdv A outer s H vs Q E hr h => ?_
  obtain ⟨l, rfl, hl, hcp, q⟩ := h
  refine ⟨_, (pss_cons (ps_if (PW.pt (pw_or (pt_cmpR op_eq (pv 0) pe_str (nomark _)) (pw_or (pt_cmpR op_gt (pe_callB call_len rfl Z.len PySem.boot_len (pa_cons (pv 0) pa_nil)) pe_int (nomark _)) (pw_or1 (pt_cmpR (op_neD (u64 hr)) (pe_lc (own := [("one", 1)]) rfl nd (pi_str (pv 0)) (blkOk_by (N := ["word", "one"]) (sc := C8.fnScope s_law_is_figures) (by decide +kernel)) (fun _ _ _ _ _ => (pg_name (i := 1) nd rfl (Or.inl rfl))) (fun _ _ _ _ _ => pts_one (pt_cmpR op_notInS (pv 1) pe_str (by with_unfolding_all rfl))) (fun _ _ _ _ _ => (pv 1))) (pe_lst pa_nil) (nomark _)))))) (pss_one (ps_ret pe_bl)) pss_nil)
    (pss_one (ps_ret (pe_or (pe_cmpR op_eq (pv 0) pe_str (nomark _)) (pe_one (pe_cmpR op_ne (pe_ix ix_str (pv 0) pe_int (fun _ _ => rfl)) pe_str (nomark _))))))), ?_⟩
  walk_at "r"
  rw [l_empty, l_zero, fig_S]
  refine ⟨rfl, ?_⟩
  rw [eqSs]
  by_cases h0 : l = []
  · subst h0
    walk_at "T"
    exact q H (Same.refl H)
  walk_at "F"
  refine lenS (by omega) ?_
  by_cases h4 : l.length ≤ 400
  case neg =>
    rw [if_pos (decide_eq_true (by omega))]
    have e : isNum l = false := by unfold isNum; rw [decide_eq_false h4]; simp
    rw [e] at q
    exact q H (Same.refl H)
  rw [if_neg (fun z => by have := of_decide_eq_true z; omega)]
  intro D nD
  refine comp_flt walk_S (by rw [List.length_map]; exact szL (by omega)) nD (fun x H Kc => rNotInS x (.str (SX.S figL)) H fun y H' => ∃ k, y = V.bl k ∧ Kc k H') (l.map fun c => !decide (c ∈ figL)) (by simp) (fun _ _ => trivial) ?_ ?_
  · intro i x b H2 Kc hx hb e q2
    rw [List.getElem?_map] at hx hb
    cases hc : l[i]? with
    | none => rw [hc] at hx; cases hx
    | some c =>
      rw [hc] at hx hb
      cases hx; cases hb
      exact ⟨c, SX.S figL, rfl, rfl, _, rfl, q2 _ (Same.refl _)⟩
  · intro H2 e hD
    refine ⟨sz (by decide), fun p np => ?_⟩
    obtain ⟨ds, al, hlen, hp⟩ := gather (K := K) (H := H2) (Pd := fun d => d.canLay0 = true ∧ d.depth ≤ 0) (ys := fltL (l.map fun c => V.str (SX.S [c])) (l.map fun c => !decide (c ∈ figL))) fun y hy => by
      obtain ⟨c, hc, rfl⟩ := List.mem_map.mp (fltL_mem hy)
      exact ⟨_, .str _, lay_str (fun x hx => by rw [List.mem_singleton.mp hx]; exact hcp c hc), Nat.le_refl 0⟩
    have e2 := same_new np (.lst [])
    refine ⟨.list ds, .list [], .lst (.inl (.inl (e2 _ _ hD))) (DpAll.same e2 al), dp_nil upd_same, shapedL hp (by decide), shaped_nil, ?_⟩
    have eb : PyData.eqv (.list ds) (.list []) = l.all (fun c => decide (c ∈ figL)) := by
      rw [eqv_nil]
      have : ds.isEmpty = (fltL (l.map fun c => V.str (SX.S [c])) (l.map fun c => !decide (c ∈ figL))).isEmpty := by
        cases ds <;> cases hf : fltL (l.map fun c => V.str (SX.S [c])) (l.map fun c => !decide (c ∈ figL)) <;> first | rfl | (rw [hf] at hlen; simp at hlen)
      rw [this, fltL_nil (by simp), List.all_map]
      congr 1
      funext c
      simp
    rw [eb]
    have ee := e.trans e2
    cases hall : l.all (fun c => decide (c ∈ figL)) with
    | false =>
      refine ⟨true, rfl, ?_⟩
      walk_at "T"
      have e2 : isNum l = false := by unfold isNum; rw [hall]; simp
      rw [e2] at q
      exact q _ ee
    | true =>
      refine ⟨false, rfl, ?_⟩
      walk_at "F"
      refine ⟨rfl, ?_⟩
      rw [eqSs]
      have e2 : isNum l = (decide (l = [48]) || decide (l.head? ≠ some 48)) := by
        unfold isNum; rw [hall, decide_eq_true h0, decide_eq_true h4]; rfl
      rw [e2] at q
      by_cases h48 : l = [48]
      · walk_at "T"
        rw [decide_eq_true h48] at q
        exact q _ ee
      · walk_at "F"
        cases l with
        | nil => exact absurd rfl h0
        | cons c r =>
          refine ixS (by omega) (atI_nat (j := 0) rfl) ⟨rfl, ?_⟩
          rw [eqSd]
          rw [decide_eq_false h48, Bool.false_or] at q
          have e3 : (!decide ([c] = [48])) = decide ((c :: r).head? ≠ some 48) := by
            by_cases hc : c = 48
            · subst hc; rfl
            · rw [decide_eq_false (fun z => hc (List.cons.inj z).1), decide_eq_true (p := (c :: r).head? ≠ some 48) (fun z => hc (Option.some.inj z))]; rfl
          rw [e3]
          exact q _ ee
end
end FP
set_option maxHeartbeats 4000000
namespace FP
open PySem PySem.Spec PyProof.Rows L2
local macro_rules | `(tactic| walk_at "rd") => `(tactic| dsimp only [tVar, tC, tCmp, tIsN, tNotN, tB, tAnd, tOr, tNot, tAndV, tOrV, tNotV, tIf, tNext, tSeq, tBreak, tCont, tDrop, tRet, tRetN, tIfS, tNever, tAsg, tPar, tAug, tOp, tUn, tTest, tChain, tFld, tNil, tCons, tTup, tLst, tCB, iList, iTup, iStr, tLc, tM0, tM1, tPart, tNoPart, tSl, tBM, tCallS, tCallSD, tMethW, tMake, sDPut, tDisp, tPairs, WE, tDGet, tDIn, gName, gTup, gCons, gNil, gSub, sFld, sFldAug, rI, rI0, rU, rEq, rNe, rAdd, rSub, t2I, tYes, cx_K, cx_w, cx_prog])
local macro_rules | `(tactic| walk_at "rs") => `(tactic| (try simp (maxSteps := 4000000) only [L2.start, List.map_cons, List.map_nil, List.length_cons, List.length_nil, List.cons_append, List.nil_append, Nat.reduceAdd, Nat.reduceSub, Nat.zero_add, List.replicate, List.getElem?_cons_zero, List.getElem?_cons_succ, Option.some.injEq, exists_eq_left', exists_eq_left, V.int.injEq, V.str.injEq, V.bl.injEq, V.ref.injEq, List.set_cons_zero, List.set_cons_succ, exists_and_left, List.cons.injEq, and_true, true_and, wipe, if_true, if_false, Bool.not_true, Bool.not_false, Bool.false_eq_true, decide_true, decide_false]))
local macro_rules | `(tactic| walk_at "r") => `(tactic| (walk_at "rd"; walk_at "rs"))
local macro_rules | `(tactic| walk_at "T") => `(tactic| (rw [if_pos (by first | assumption | rfl | decide | exact decide_eq_true (by assumption) | (simp [tyOf]; done) | (simp; omega) | omega)]; walk_at "rs"))
local macro_rules | `(tactic| walk_at "F") => `(tactic| (rw [if_neg (by first | assumption | decide | (simp [tyOf]; done) | (simp; omega) | (simp; assumption) | omega)]; walk_at "rs"))
/-! ### readings by what they mean -/
theorem pe_imp {X : Cx} {e : Expr} {t t' : TE} (h : PE X e t) (f : ∀ σ H Q, t' σ H Q → t σ H Q) : PE X e t' := ⟨fun pins s σ H Q I q => h.run pins s σ H Q I (f σ H Q q)⟩
theorem pt_imp {X : Cx} {e : Expr} {t t' : TT} (h : PT X e t) (f : ∀ σ H Q, t' σ H Q → t σ H Q) : PT X e t' := ⟨fun pins s σ H Q I q => h.run pins s σ H Q I (f σ H Q q)⟩
/-- tokens[e] if e < len(tokens) else '' -/
def tTok (K : PySem.W.Frag) (j : Nat) (te te2 : TE) : TE := fun σ H Q => ∃ (T : Addr) (ts : List (List Nat)) (i : Nat), σ[j]? = some (some (.ref T)) ∧ SqL K H T (ts.map strV) ∧ (∀ Q', Q' (.int (i : Nat)) H → te σ H Q') ∧ (∀ Q', Q' (.int (i : Nat)) H → te2 σ H Q') ∧ Q (strV (tok ts i)) H
theorem rd_tok {K : PySem.W.Frag} {j : Nat} {te te2 : TE} {σ : L2.St} {H : Hp} {Q : VK} (h : tTok K j te te2 σ H Q) :
    tIf (tTest (tOp (rI0 fun i j => V.bl (decide (i < j))) te (tCB (fun xs H Q => ∃ x n, xs = [x] ∧ LenV K x H n ∧ Q (V.int (n : Nat)) H) (tCons (tVar j) tNil)))) (tOp (rIxL K) (tVar j) te2) (tC (.str "")) σ H Q := by
  obtain ⟨T, ts, i, hj, sl, h1, h2, q⟩ := h
  refine h1 _ ⟨_, hj, _, _, rfl, .inl ⟨_, sl, rfl⟩, _, _, rfl, rfl, _, rfl, ?_⟩
  rw [List.length_map]
  show if decide (((i : Nat) : Int) < ((ts.length : Nat) : Int)) = true then _ else _
  by_cases hi : i < ts.length
  · rw [if_pos (decide_eq_true (by omega))]
    refine ⟨_, hj, h2 _ (ixL sl (v := strV (tok ts i)) (atI_nat ?_) q)⟩
    unfold tok
    rw [List.getElem?_map, List.getD_eq_getElem?_getD, List.getElem?_eq_getElem hi]; rfl
  · rw [if_neg (fun z => by have := of_decide_eq_true z; omega)]
    have e : tok ts i = [] := by unfold tok; rw [List.getD_eq_getElem?_getD, List.getElem?_eq_none (by omega)]; rfl
    rw [e] at q
    exact q
def tStart : TE := fun σ H Q => ∃ (tk : List Nat) (i : Nat), σ[2]? = some (some (strV tk)) ∧ σ[1]? = some (some (.int (i : Nat))) ∧ Q (.int ((if tk = [45] then i + 1 else i : Nat) : Int)) H
theorem rd_start {σ : L2.St} {H : Hp} {Q : VK} (h : tStart σ H Q) : tIf (tTest (tOp rEq (tVar 2) (tC (.str "-")))) (tOp (rI0 fun i j => V.int (i + j)) (tVar 1) (tC (.int 1))) (tVar 1) σ H Q := by
  obtain ⟨tk, i, h2, h1, q⟩ := h
  refine ⟨_, h2, rfl, _, rfl, ?_⟩
  rw [l_minus, eqSd]
  show if decide (tk = [45]) = true then _ else _
  by_cases h : tk = [45]
  · rw [if_pos (decide_eq_true h)]
    rw [if_pos h] at q
    exact ⟨_, h1, _, _, rfl, rfl, q⟩
  · rw [if_neg (fun z => h (of_decide_eq_true z))]
    rw [if_neg h] at q
    exact ⟨_, h1, q⟩
/-- tokens[lo:hi] against one token -/
def tSlq (K : PySem.W.Frag) (j : Nat) (tl th : TO) (W : Str) (neg : Bool) : TT := fun σ H Q => ∃ (T : Addr) (ts : List (List Nat)) (i : Nat) (tk : List Nat), σ[j]? = some (some (.ref T)) ∧ SqL K H T (ts.map strV) ∧ W = SX.S tk ∧ tk ≠ [] ∧ Cps tk ∧ (∀ t, t ∈ ts → Cps t) ∧
  (∀ Q', Q' (some ((i : Nat) : Int)) H → tl σ H Q') ∧ (∀ Q', Q' (some ((i + 1 : Nat) : Int)) H → th σ H Q') ∧ ∀ H', Same H H' → Q (xor neg (decide (tok ts i = tk))) H'
theorem cut1 {ts : List (List Nat)} {i : Nat} : cutV (ts.map strV) (some ((i : Nat) : Int)) (some ((i + 1 : Nat) : Int)) = (match ts[i]? with | some t => [t] | none => []).map strV := by
  unfold cutV
  rw [HT.sIx_nat, HT.sIx_nat, List.length_map]
  by_cases hi : i < ts.length
  · rw [List.getElem?_eq_getElem hi, Nat.min_eq_left (by omega), Nat.min_eq_left (by omega), Nat.add_sub_cancel_left, ← List.map_drop, List.drop_eq_getElem_cons hi]
    rfl
  · rw [List.getElem?_eq_none (by omega), Nat.min_eq_right (by omega), Nat.min_eq_right (by omega), Nat.sub_self, List.take_zero]
    rfl
theorem eqv_one (ts : List (List Nat)) (i : Nat) (tk : List Nat) (h : tk ≠ []) : PyData.eqv (.list ((match ts[i]? with | some t => [t] | none => []).map fun x => PyData.str (SX.S x))) (.list [.str (SX.S tk)]) = decide (tok ts i = tk) := by
  unfold tok
  rw [List.getD_eq_getElem?_getD]
  cases ts[i]? with
  | none =>
    rw [decide_eq_false (fun z => h z.symm)]
    rfl
  | some t =>
    show (PyData.eqv (.str (SX.S t)) (.str (SX.S tk)) && true) = _
    rw [Bool.and_true]
    show (SX.S t == SX.S tk) = _
    rw [SX.S_beq_eq]
    rfl
theorem dp_strs {K : PySem.W.Frag} {H : Hp} : ∀ (l : List (List Nat)), DpAll K H (l.map strV) (l.map fun x => PyData.str (SX.S x))
  | [] => .nil
  | _ :: r => .cons (.str _) (dp_strs r)
theorem shaped_strs {l : List (List Nat)} (h : ∀ t, t ∈ l → Cps t) : SeqAt.shaped (.list (l.map fun x => PyData.str (SX.S x))) = true := shapedL (k := 0) (fun d hd => by
  obtain ⟨t, ht, rfl⟩ := List.mem_map.mp hd
  exact ⟨lay_str (h t ht), Nat.le_refl 0⟩) (by decide)
theorem sl_core {K : PySem.W.Frag} {j : Nat} {tl th : TO} {W : Str} {neg : Bool} {σ : L2.St} {H : Hp} {Q : Bool → Hp → Prop} {Z : V → V → Hp → Prop} (h : tSlq K j tl th W neg σ H Q)
    (f : ∀ x y H2 d e, Dp K H2 x d → Dp K H2 y e → SeqAt.shaped d = true → SeqAt.shaped e = true → Q (xor neg (PyData.eqv d e)) H2 → Z x y H2) : tSl (rSlL K) (tVar j) tl th σ H fun x H1 => tLst (tCons (tC (.str W)) tNil) σ H1 fun y H2 => Z x y H2 := by
  obtain ⟨T, ts, i, tk, hj, sl, rfl, htk, hc, hts, h1, h2, q⟩ := h
  refine ⟨_, hj, h1 _ (h2 _ ⟨T, _, rfl, sl, fun p np => ?_⟩)⟩
  rw [cut1]
  refine ⟨sz (show 1 ≤ 1000000 by decide), fun p2 np2 => ?_⟩
  have e1 := same_new np (.lst ((match ts[i]? with | some t => [t] | none => []).map strV))
  have e2 := e1.trans (same_new np2 (.lst [V.str (SX.S tk)]))
  refine f _ _ _ _ _ (.lst (.inl (.inl ((same_new np2 _) _ _ upd_same))) (dp_strs _)) (.lst (.inl (.inl upd_same)) (.cons (.str _) .nil)) (shaped_strs ?_) (shaped_strs (l := [tk]) ?_) ?_
  · intro t ht
    cases hg : ts[i]? with
    | none => rw [hg] at ht; cases ht
    | some u =>
      rw [hg] at ht
      rw [List.mem_singleton.mp ht]
      exact hts u (List.mem_of_getElem? hg)
  · intro t ht
    rw [List.mem_singleton.mp ht]; exact hc
  · rw [eqv_one ts i tk htk]
    exact q _ e2
theorem rd_sle {K : PySem.W.Frag} {j : Nat} {tl th : TO} {W : Str} {σ : L2.St} {H : Hp} {Q : Bool → Hp → Prop} (h : tSlq K j tl th W false σ H Q) : tTest (tOp (rEqD K) (tSl (rSlL K) (tVar j) tl th) (tLst (tCons (tC (.str W)) tNil))) σ H Q :=
  sl_core h fun x y H2 d e hd he sd se q => ⟨d, e, hd, he, sd, se, _, rfl, by rw [Bool.false_xor] at q; exact q⟩
theorem rd_sln {K : PySem.W.Frag} {j : Nat} {tl th : TO} {W : Str} {σ : L2.St} {H : Hp} {Q : Bool → Hp → Prop} (h : tSlq K j tl th W true σ H Q) : tTest (tOp (rNeD K) (tSl (rSlL K) (tVar j) tl th) (tLst (tCons (tC (.str W)) tNil))) σ H Q :=
  sl_core h fun x y H2 d e hd he sd se q => ⟨d, e, hd, he, sd, se, _, rfl, by rw [Bool.true_xor] at q; exact q⟩
end FP
set_option maxHeartbeats 4000000
namespace FP
open PySem PySem.Spec PyProof.Rows L2
local macro_rules | `(tactic| walk_at "rd") => `(tactic| dsimp only [tVar, tC, tCmp, tIsN, tNotN, tB, tAnd, tOr, tNot, tAndV, tOrV, tNotV, tIf, tNext, tSeq, tBreak, tCont, tDrop, tRet, tRetN, tIfS, tNever, tAsg, tPar, tAug, tOp, tUn, tTest, tChain, tFld, tNil, tCons, tTup, tLst, tCB, iList, iTup, iStr, tLc, tM0, tM1, tPart, tNoPart, tSl, tBM, tCallS, tCallSD, tMethW, tMake, sDPut, tDisp, tPairs, WE, tDGet, tDIn, gName, gTup, gCons, gNil, gSub, sFld, sFldAug, rI, rI0, rU, rEq, rNe, rAdd, rSub, t2I, tYes, cx_K, cx_w, cx_prog])
local macro_rules | `(tactic| walk_at "rs") => `(tactic| (try simp (maxSteps := 4000000) only [L2.start, List.map_cons, List.map_nil, List.length_cons, List.length_nil, List.cons_append, List.nil_append, Nat.reduceAdd, Nat.reduceSub, Nat.zero_add, List.replicate, List.getElem?_cons_zero, List.getElem?_cons_succ, Option.some.injEq, exists_eq_left', exists_eq_left, V.int.injEq, V.str.injEq, V.bl.injEq, V.ref.injEq, List.set_cons_zero, List.set_cons_succ, exists_and_left, List.cons.injEq, and_true, true_and, wipe, if_true, if_false, Bool.not_true, Bool.not_false, Bool.false_eq_true, decide_true, decide_false]))
local macro_rules | `(tactic| walk_at "r") => `(tactic| (walk_at "rd"; walk_at "rs"))
local macro_rules | `(tactic| walk_at "T") => `(tactic| (rw [if_pos (by first | assumption | rfl | decide | exact decide_eq_true (by assumption) | (simp [tyOf]; done) | (simp; omega) | omega)]; walk_at "rs"))
local macro_rules | `(tactic| walk_at "F") => `(tactic| (rw [if_neg (by first | assumption | decide | (simp [tyOf]; done) | (simp; omega) | (simp; assumption) | omega)]; walk_at "rs"))
section
variable {P : Program} {w : World} {K : PySem.W.Frag} {mg : Str → Option Value} {base : Heap} {f : Addr} {fd : FuncData}
/-- what the law's reader tells -/
def rdOf : Res → Nat × Bool
  | .ok a _ => (a, true)
  | .err e => (e, false)
def sp_law_read (K : PySem.W.Frag) (n : Nat) : Sp := fun vs H Q _ => ∃ ts, ∃ (T : Addr) (i : Nat) (res : Res), vs = [.ref T, .int (i : Nat)] ∧ SqL K H T (ts.map strV) ∧ (∀ t, t ∈ ts → t.length ≤ 100000 ∧ Cps t) ∧ PV ts n i res ∧
  ∀ l H', Same H H' → SqT K H' l [.int ((rdOf res).1 : Nat), .bl (rdOf res).2] → Q (.ref l) H'
theorem skip_if2 {c d : Bool} {p X Y : Prop} (hp : p) (h : ¬ (c = true ∧ d = true)) (y : Y) : if c = true then p ∧ (if d = true then X else Y) else Y := by
  by_cases hc : c = true
  · rw [if_pos hc, if_neg (fun hd => h ⟨hc, hd⟩)]; exact ⟨hp, y⟩
  · rw [if_neg hc]; exact y
theorem fold_ge : ∀ (r : List Nat) (a : Nat), a ≤ r.foldl (fun acc c => acc * 10 + (c - 48)) a
  | [], a => Nat.le_refl a
  | c :: r, a => by
    have := fold_ge r (a * 10 + (c - 48))
    show a ≤ r.foldl _ (a * 10 + (c - 48))
    omega
theorem num_zero {l : List Nat} (h : isNum l = true) : numV l = 0 ↔ l = [48] := by
  obtain ⟨h1, h2, _⟩ := num_all h
  constructor
  · intro hz
    unfold isNum at h
    rw [Bool.and_eq_true] at h
    have h3 := h.2
    rw [Bool.or_eq_true, decide_eq_true_eq, decide_eq_true_eq] at h3
    rcases h3 with h3 | h3
    · exact h3
    · exfalso
      cases l with
      | nil => exact h2 rfl
      | cons c r =>
        have hc := List.all_eq_true.mp h1 c List.mem_cons_self
        rw [Bool.and_eq_true, decide_eq_true_eq, decide_eq_true_eq] at hc
        have hne : c ≠ 48 := fun z => h3 (congrArg some z)
        have := fold_ge r (0 * 10 + (c - 48))
        have e : numV (c :: r) = r.foldl (fun acc c => acc * 10 + (c - 48)) (0 * 10 + (c - 48)) := rfl
        rw [hz] at e
        omega
  · intro e; subst e; rfl
def PL1 (F : Nat → Res → Prop) (ts : List (List Nat)) (a : Nat) (d : PyData) (r : Res) : Prop := (tok ts a ≠ [44] ∧ r = .err a) ∨ (tok ts a = [44] ∧ tok ts (a + 1) = [41] ∧ r = .ok (a + 2) (.tuple [d])) ∨
   (tok ts a = [44] ∧ tok ts (a + 1) ≠ [41] ∧ ((∃ e, F (a + 1) (.err e) ∧ r = .err e) ∨ ∃ b d', F (a + 1) (.ok b d') ∧ ∃ m, m ≤ 1000 ∧ PN F ts m b [d, d'] r))
def rdI (ts : List (List Nat)) (n : Nat) (T : Addr) (tk : List Nat) (H : Hp) (res : Res) (m : Nat) (σ : L2.St) (H' : Hp) : Prop := Same H H' ∧ ∃ (a many : Nat) (right : Bool), σ = [some (.ref T), some (.int (a : Nat)), some (strV tk), some (.bl right), some (.int (many : Nat)), none, none, none, none] ∧
  ((right = false ∧ res = .err a ∧ 1 ≤ many) ∨ (right = true ∧ many = 1 ∧ m = 2000 ∧ ∃ d, PL1 (PV ts n) ts a d res) ∨ (right = true ∧ 1 < many ∧ m ≤ 1000 ∧ ∃ acc, PN (PV ts n) ts m a acc res))
theorem lr_split {ts : List (List Nat)} {T : Addr} {j n : Nat} {H : Hp} {Q : VK} {E : XK} {z : Int} (ez : z = (j : Nat)) (sl : SqL K H T (ts.map strV)) (hts : ∀ t, t ∈ ts → t.length ≤ 100000 ∧ Cps t) (res : Res) (h : PV ts n j res)
    (q : ∀ l H', Same H H' → SqT K H' l [.int ((rdOf res).1 : Nat), .bl (rdOf res).2] → Q (.ref l) H') : 0 < n + 1 ∧ sp_law_read K (n + 1 - 1) [.ref T, .int z] H Q E := by
  subst ez
  exact ⟨Nat.succ_pos _, ts, T, j, res, rfl, sl, hts, h, q⟩
theorem iS {l : List Nat} (h : isNum l = true) : intText? (SX.S l) = some ((numV l : Nat) : Int) ∧ (SX.S l).length ≤ 640 := by
  obtain ⟨m1, m2, m3⟩ := num_all h
  exact ⟨SX.int_S m1 m2 (by omega), by rw [S_len]; omega⟩
theorem fn_law_read (Z : Zb mg) (D : C8.Def K mg "_law_read" s_law_read f fd) (b : Binds K fd ["tokens", "at"] []) {n : Nat} (c_law_is_figures : CalX P w K mg base 1 "_law_is_figures" sp_law_is_figures) (c_law_divisor : CalX P w K mg base 1 "_law_divisor" sp_law_divisor) (c_law_read : CalX P w K mg base (n + 1) "_law_read" (fun vs H Q E => 0 < n ∧ sp_law_read K (n - 1) vs H Q E)) : CalX P w K mg base (n + 2) "_law_read" (sp_law_read K n) := by
  have nd := sc_law_read.nd
  refine calX D b sc_law_read (fun vs H Q E h => by obtain ⟨ts, T, i, res, rfl, _⟩ := h; rfl) fun cdv A outer s H vs Q E hr h => ?_
  obtain ⟨ts, T, i, res, rfl, sl, hts, hpv, q⟩ := h
  refine ⟨_, (pss_cons (ps_set (i := 2) nd rfl (Or.inl rfl) (pe_imp (pe_ifExp (pt_cmpR op_lt (pv 1) (pe_callB call_len rfl Z.len PySem.boot_len (pa_cons (pv 0) pa_nil)) (nomark _)) (pe_ix ix_list (pv 0) (pv 1) (fun _ _ => rfl)) pe_str) (fun _ _ _ h => rd_tok h)))
    (pss_cons (ps_if (pt_cmpR op_eq (pv 2) pe_str (nomark _)) (pss_cons (ps_if (pt_imp (pt_cmpR (op_eqD (u64 hr)) (pe_slice sl_list (pv 0) (po_some (pe_op op_add (pv 1) pe_int)) (po_some (pe_op op_add (pv 1) pe_int))) (pe_lst (pa_cons pe_str pa_nil)) (nomark _)) (fun _ _ _ h => rd_sle h)) (pss_one (ps_ret (pe_tup (pa_cons (pe_op op_add (pv 1) pe_int) (pa_cons pe_bl pa_nil))))) pss_nil)
    (pss_cons (ps_asg (pe_x c_law_read hr (by(omega)) tk0 rfl (pa_cons (pv 0) (pa_cons (pe_op op_add (pv 1) pe_int) pa_nil))) (pg_tup rfl (pgs_cons (pg_name (i := 1) nd rfl (Or.inl rfl)) (pgs_cons (pg_name (i := 3) nd rfl (Or.inl rfl)) pgs_nil))))
    (pss_cons (ps_set (i := 4) nd rfl (Or.inl rfl) pe_int)
    (pss_cons (ps_while (L2.passes_of rfl) (PW.pt (pw_and (pt_val (pv 3)) (pw_and1 (pt_imp (pt_cmpR (op_eqD (u64 hr)) (pe_slice sl_list (pv 0) (po_some (pv 1)) (po_some (pe_op op_add (pv 1) pe_int))) (pe_lst (pa_cons pe_str pa_nil)) (nomark _)) (fun _ _ _ h => rd_sle h))))) (pss_cons (ps_if (PW.pt (pw_and (pt_cmpR op_eq (pv 4) pe_int (nomark _)) (pw_and1 (pt_imp (pt_cmpR (op_eqD (u64 hr)) (pe_slice sl_list (pv 0) (po_some (pe_op op_add (pv 1) pe_int)) (po_some (pe_op op_add (pv 1) pe_int))) (pe_lst (pa_cons pe_str pa_nil)) (nomark _)) (fun _ _ _ h => rd_sle h))))) (pss_one (ps_ret (pe_tup (pa_cons (pe_op op_add (pv 1) pe_int) (pa_cons pe_bl pa_nil))))) pss_nil)
    (pss_cons (ps_asg (pe_x c_law_read hr (by(omega)) tk0 rfl (pa_cons (pv 0) (pa_cons (pe_op op_add (pv 1) pe_int) pa_nil))) (pg_tup rfl (pgs_cons (pg_name (i := 1) nd rfl (Or.inl rfl)) (pgs_cons (pg_name (i := 3) nd rfl (Or.inl rfl)) pgs_nil))))
    (pss_one (ps_set (i := 4) nd rfl (Or.inl rfl) (pe_op op_add (pv 4) pe_int))))))
    (pss_cons (ps_if (pt_not (pt_val (pv 3))) (pss_one (ps_ret (pe_tup (pa_cons (pv 1) (pa_cons pe_bl pa_nil))))) pss_nil)
    (pss_one (ps_ret (pe_ifExp (PW.pt (pw_and (pt_cmpR op_gt (pv 4) pe_int (nomark _)) (pw_and1 (pt_imp (pt_cmpR (op_eqD (u64 hr)) (pe_slice sl_list (pv 0) (po_some (pv 1)) (po_some (pe_op op_add (pv 1) pe_int))) (pe_lst (pa_cons pe_str pa_nil)) (nomark _)) (fun _ _ _ h => rd_sle h))))) (pe_tup (pa_cons (pe_op op_add (pv 1) pe_int) (pa_cons pe_bl pa_nil))) (pe_tup (pa_cons (pv 1) (pa_cons pe_bl pa_nil))))))))))) pss_nil)
    (pss_cons (ps_set (i := 5) nd rfl (Or.inl rfl) (pe_imp (pe_ifExp (pt_cmpR op_eq (pv 2) pe_str (nomark _)) (pe_op op_add (pv 1) pe_int) (pv 1)) (fun _ _ _ h => rd_start h)))
    (pss_cons (ps_set (i := 6) nd rfl (Or.inl rfl) (pe_imp (pe_ifExp (pt_cmpR op_lt (pv 5) (pe_callB call_len rfl Z.len PySem.boot_len (pa_cons (pv 0) pa_nil)) (nomark _)) (pe_ix ix_list (pv 0) (pv 5) (fun _ _ => rfl)) pe_str) (fun _ _ _ h => rd_tok h)))
    (pss_cons (ps_if (PW.pt (pw_or (pt_not (pt_val (pe_x c_law_is_figures hr (by(omega)) tk0 rfl (pa_cons (pv 6) pa_nil)))) (pw_or1 (PW.pt (pw_and (pt_cmpR op_eq (pv 2) pe_str (nomark _)) (pw_and1 (pt_cmpR op_eq (pv 6) pe_str (nomark _)))))))) (pss_one (ps_ret (pe_tup (pa_cons (pv 5) (pa_cons pe_bl pa_nil))))) pss_nil)
    (pss_cons (ps_if (PW.pt (pw_or (pt_imp (pt_cmpR (op_neD (u64 hr)) (pe_slice sl_list (pv 0) (po_some (pe_op op_add (pv 5) pe_int)) (po_some (pe_op op_add (pv 5) pe_int))) (pe_lst (pa_cons pe_str pa_nil)) (nomark _)) (fun _ _ _ h => rd_sln h)) (pw_or1 (pt_cmpR op_eq (pv 6) pe_str (nomark _))))) (pss_one (ps_ret (pe_tup (pa_cons (pe_op op_add (pv 5) pe_int) (pa_cons pe_bl pa_nil))))) pss_nil)
    (pss_cons (ps_set (i := 7) nd rfl (Or.inl rfl) (pe_imp (pe_ifExp (pt_cmpR op_lt (pe_op op_add (pv 5) pe_int) (pe_callB call_len rfl Z.len PySem.boot_len (pa_cons (pv 0) pa_nil)) (nomark _)) (pe_ix ix_list (pv 0) (pe_op op_add (pv 5) pe_int) (fun _ _ => rfl)) pe_str) (fun _ _ _ h => rd_tok h)))
    (pss_cons (ps_set (i := 8) nd rfl (Or.inl rfl) (pe_and (pe_x c_law_is_figures hr (by(omega)) tk0 rfl (pa_cons (pv 7) pa_nil)) (pe_and (pe_cmpR op_gt (pe_callTy call_int_str rfl Z.int PyProof.Rows.boot_int (pa_cons (pv 7) pa_nil)) pe_int (nomark _)) (pe_one (pe_cmpR op_eq (pe_x c_law_divisor hr (by(omega)) tk0 rfl (pa_cons (pe_callTy call_int_str rfl Z.int PyProof.Rows.boot_int (pa_cons (pv 6) pa_nil)) (pa_cons (pe_callTy call_int_str rfl Z.int PyProof.Rows.boot_int (pa_cons (pv 7) pa_nil)) pa_nil))) pe_int (nomark _))))))
    (pss_one (ps_ret (pe_ifExp (pt_val (pv 8)) (pe_tup (pa_cons (pe_op op_add (pv 5) pe_int) (pa_cons pe_bl pa_nil))) (pe_tup (pa_cons (pe_op op_add (pv 5) pe_int) (pa_cons pe_bl pa_nil)))))))))))))), ?_⟩
  walk_at "r"
  have fin : ∀ (H1 : Hp) (a : Nat) (bb : Bool) (z : Int), Same H H1 → rdOf res = (a, bb) → z = (a : Nat) → 2 ≤ sizeLine ∧ ∀ p, H1 p = none → Q (.ref p) (upd H1 p (.tup [.int z, .bl bb])) := by
    intro H1 a bb z e1 er ez
    subst ez
    refine ⟨sz (by decide), fun p np => q p _ (e1.trans (same_new np _)) ?_⟩
    rw [er]
    exact .inl (.inl upd_same)
  have hcp : ∀ t, t ∈ ts → Cps t := fun t h => (hts t h).2
  have c1 : ∀ {x : Nat}, x < 1114112 → Cps [x] := fun h c hc => by rw [List.mem_singleton.mp hc]; exact h
  refine ⟨T, ts, i, rfl, sl, fun Q' h => ⟨_, rfl, h⟩, fun Q' h => ⟨_, rfl, h⟩, ?_⟩
  walk_at "rs"
  refine ⟨rfl, ?_⟩
  rw [l_open, eqSs]
  by_cases ht : tok ts i = [40]
  · rw [if_pos (decide_eq_true ht)]
    obtain ⟨n, rfl, hp2⟩ : ∃ n', n = n' + 1 ∧ ((tok ts (i + 1) = [41] ∧ res = .ok (i + 2) (.tuple [])) ∨ (tok ts (i + 1) ≠ [41] ∧ PL (PV ts n') ts (i + 1) res)) := by
      cases n with
      | zero => exact absurd ht hpv.1
      | succ n =>
        rcases hpv with h | h
        · exact absurd ht h.1
        · exact ⟨n, rfl, h.2⟩
    refine ⟨T, ts, i + 1, [41], rfl, sl, l_close, by simp, c1 (by decide), hcp, fun Q' h => ⟨_, rfl, _, _, rfl, rfl, _, rfl, h⟩, fun Q' h => ⟨_, rfl, _, _, rfl, rfl, _, rfl, h⟩, fun H1 e1 => ?_⟩
    rw [Bool.false_xor]
    dsimp only
    rcases hp2 with ⟨hc, rfl⟩ | ⟨hc, hpl⟩
    · rw [if_pos (decide_eq_true hc)]
      exact fin H1 (i + 2) true _ e1 rfl rfl
    rw [if_neg (fun z => hc (of_decide_eq_true z))]
    have go : ∀ (F : VK) (E' : XK) (H1 : Hp), Same H H1 → (∀ l H' a right, Same H H' → SqT K H' l [.int (a : Nat), .bl right] → (∃ m, rdI ts n T (tok ts i) H res m [some (.ref T), some (.int (a : Nat)), some (strV (tok ts i)), some (.bl right), some (.int 1), none, none, none, none] H') → F (.ref l) H') → 0 < n + 1 ∧ sp_law_read K (n + 1 - 1) [.ref T, .int ((i : Nat) + 1)] H1 F E' := by
      intro F E' H1 e1 k
      rcases hpl with ⟨e, he, rfl⟩ | ⟨a, d, hF, hpl⟩
      · exact lr_split (j := i + 1) rfl (e1.seq sl) hts _ he fun l H' e' sq => k l H' e false (e1.trans e') sq ⟨0, e1.trans e', e, 1, false, rfl, .inl ⟨rfl, rfl, Nat.le_refl 1⟩⟩
      · exact lr_split (j := i + 1) rfl (e1.seq sl) hts _ hF fun l H' e' sq => k l H' a true (e1.trans e') sq ⟨2000, e1.trans e', a, 1, true, rfl, .inr (.inl ⟨rfl, rfl, rfl, d, hpl⟩)⟩
    refine go _ _ H1 e1 fun l H2 a right e2 sq hI => ?_
    refine ⟨l, rfl, _, sq, rfl, _, _, rfl, _, _, rfl, rfl, ?_⟩
    refine ⟨rdI ts n T (tok ts i) H res, hI, ?_⟩
    rintro m σ H3 ⟨e3, a, many, right, rfl, hst⟩
    walk_at "r"
    rcases hst with ⟨rfl, rfl, hm1⟩ | ⟨rfl, rfl, rfl, d, hp1⟩ | ⟨rfl, hm1, hm2, acc, hpn⟩
    · walk_at "rs"
      exact fin H3 a false _ e3 rfl rfl
    · walk_at "rs"
      refine ⟨T, ts, a, [44], rfl, e3.seq sl, l_comma, by simp, c1 (by decide), hcp, fun Q' h => ⟨_, rfl, _, rfl, h⟩, fun Q' h => ⟨_, rfl, _, _, rfl, rfl, _, rfl, h⟩, fun H4 e4 => ?_⟩
      have e04 := e3.trans e4
      rw [Bool.false_xor]
      dsimp only
      by_cases hcm : tok ts a = [44]
      case neg =>
        rw [if_neg (fun z => hcm (of_decide_eq_true z))]
        rw [if_neg (by decide)]
        rcases hp1 with ⟨_, er⟩ | ⟨h, _⟩ | ⟨h, _⟩
        · exact fin H4 a false _ e04 (by rw [er]; rfl) rfl
        · exact absurd h hcm
        · exact absurd h hcm
      rw [if_pos (decide_eq_true hcm)]
      refine ⟨_, fun _ _ h => h, rfl, ?_⟩
      rw [if_pos (by decide)]
      refine ⟨T, ts, a + 1, [41], rfl, e04.seq sl, l_close, by simp, c1 (by decide), hcp, fun Q' h => ⟨_, rfl, _, _, rfl, rfl, _, rfl, h⟩, fun Q' h => ⟨_, rfl, _, _, rfl, rfl, _, rfl, h⟩, fun H5 e5 => ?_⟩
      have e05 := e04.trans e5
      rw [Bool.false_xor]
      dsimp only
      rcases hp1 with ⟨h, _⟩ | ⟨_, hc2, er⟩ | ⟨_, hc2, hp2⟩
      · exact absurd hcm h
      · rw [if_pos (decide_eq_true hc2)]
        exact fin H5 (a + 2) true _ e05 (by rw [er]; rfl) rfl
      rw [if_neg (fun z => hc2 (of_decide_eq_true z))]
      rcases hp2 with ⟨e, he, er⟩ | ⟨b', d', hF2, m, hm, hpn⟩
      · exact lr_split (j := a + 1) rfl (e05.seq sl) hts _ he fun l H' e' sq => ⟨l, rfl, _, sq, rfl, _, _, rfl, _, _, rfl, rfl, 0, by decide, e05.trans e', e, 2, false, rfl, .inl ⟨rfl, er, by decide⟩⟩
      · exact lr_split (j := a + 1) rfl (e05.seq sl) hts _ hF2 fun l H' e' sq => ⟨l, rfl, _, sq, rfl, _, _, rfl, _, _, rfl, rfl, m, by omega, e05.trans e', b', 2, true, rfl, .inr (.inr ⟨rfl, by decide, hm, _, hpn⟩)⟩
    · walk_at "rs"
      refine ⟨T, ts, a, [44], rfl, e3.seq sl, l_comma, by simp, c1 (by decide), hcp, fun Q' h => ⟨_, rfl, _, rfl, h⟩, fun Q' h => ⟨_, rfl, _, _, rfl, rfl, _, rfl, h⟩, fun H4 e4 => ?_⟩
      have e04 := e3.trans e4
      rw [Bool.false_xor]
      dsimp only
      by_cases hcm : tok ts a = [44]
      case neg =>
        rw [if_neg (fun z => hcm (of_decide_eq_true z))]
        rw [if_pos (decide_eq_true (by omega))]
        have hpn2 : (tok ts a = [41] ∧ res = .ok (a + 1) (.tuple acc)) ∨ (tok ts a ≠ [44] ∧ tok ts a ≠ [41] ∧ res = .err a) := by
          cases m with
          | zero => exact hpn
          | succ m =>
            rcases hpn with ⟨h, _⟩ | h
            · exact absurd h hcm
            · exact h
        refine ⟨T, ts, a, [41], rfl, e04.seq sl, l_close, by simp, c1 (by decide), hcp, fun Q' h => ⟨_, rfl, _, rfl, h⟩, fun Q' h => ⟨_, rfl, _, _, rfl, rfl, _, rfl, h⟩, fun H5 e5 => ?_⟩
        have e05 := e04.trans e5
        rw [Bool.false_xor]
        dsimp only
        rcases hpn2 with ⟨h, er⟩ | ⟨_, h, er⟩
        · rw [if_pos (decide_eq_true h)]
          exact fin H5 (a + 1) true _ e05 (by rw [er]; rfl) rfl
        · rw [if_neg (fun z => h (of_decide_eq_true z))]
          exact fin H5 a false _ e05 (by rw [er]; rfl) rfl
      rw [if_pos (decide_eq_true hcm)]
      refine ⟨_, fun _ _ h => h, rfl, ?_⟩
      rw [if_neg (fun z => by have := of_decide_eq_true z; omega)]
      cases m with
      | zero =>
        rcases hpn with ⟨h, _⟩ | ⟨h, _⟩
        · rw [hcm] at h; exact absurd h (by decide)
        · exact absurd hcm h
      | succ m =>
        rcases hpn with ⟨_, h⟩ | ⟨h, _⟩ | ⟨h, _⟩
        · rcases h with ⟨e, he, er⟩ | ⟨b', d', hF2, hpn⟩
          · exact lr_split (j := a + 1) rfl (e04.seq sl) hts _ he fun l H' e' sq => ⟨l, rfl, _, sq, rfl, _, _, rfl, _, _, rfl, rfl, 0, by omega, e04.trans e', e, many + 1, false, rfl, .inl ⟨rfl, er, by omega⟩⟩
          · exact lr_split (j := a + 1) rfl (e04.seq sl) hts _ hF2 fun l H' e' sq => ⟨l, rfl, _, sq, rfl, _, _, rfl, _, _, rfl, rfl, m, by omega, e04.trans e', b', many + 1, true, rfl, .inr (.inr ⟨rfl, by omega, by omega, _, hpn⟩)⟩
        · rw [hcm] at h; exact absurd h (by decide)
        · exact absurd hcm h
  rw [if_neg (fun z => ht (of_decide_eq_true z))]
  have hres : res = pvS ts (decide (tok ts i = [45])) (if tok ts i = [45] then i + 1 else i) := by
    have e : res = pvR ts i := by
      cases n with
      | zero => exact hpv.2
      | succ n =>
        rcases hpv with h | h
        · exact h.2
        · exact absurd h.1 ht
    rw [e]
    unfold pvR
    by_cases h : tok ts i = [45]
    · rw [if_pos h, if_pos h, decide_eq_true h]
    · rw [if_neg h, if_neg h, decide_eq_false h]
  refine ⟨tok ts i, i, rfl, rfl, ?_⟩
  generalize hst : (if tok ts i = [45] then i + 1 else i) = st at hres
  walk_at "rs"
  have tokOk : ∀ j, (tok ts j).length ≤ 100000 ∧ Cps (tok ts j) := by
    intro j
    by_cases hj : j < ts.length
    · have e : ts[j]? = some (tok ts j) := by unfold tok; rw [List.getD_eq_getElem?_getD, List.getElem?_eq_getElem hj]; rfl
      exact hts _ (List.mem_of_getElem? e)
    · have e : tok ts j = [] := by unfold tok; rw [List.getD_eq_getElem?_getD, List.getElem?_eq_none (by omega)]; rfl
      rw [e]
      exact ⟨Nat.zero_le _, fun _ h => nomatch h⟩
  refine ⟨T, ts, st, rfl, sl, fun Q' h => ⟨_, rfl, h⟩, fun Q' h => ⟨_, rfl, h⟩, ?_⟩
  refine ⟨_, rfl, (tokOk st).1, (tokOk st).2, fun H1 e1 => ?_⟩
  unfold pvS at hres
  cases hn : isNum (tok ts st) with
  | false =>
    rw [if_pos hn] at hres
    refine ⟨false, rfl, ?_⟩
    walk_at "T"
    exact fin H1 st false _ e1 (by rw [hres]; rfl) rfl
  | true =>
  rw [if_neg (by rw [hn]; decide)] at hres
  have hz := num_zero hn
  obtain ⟨n1, n2, n3⟩ := num_all hn
  refine ⟨true, rfl, ?_⟩
  walk_at "F"
  refine ⟨rfl, ?_⟩
  rw [l_minus, l_zero, eqSs]
  by_cases hb : tok ts i = [45] ∧ tok ts st = [48]
  · rw [if_pos (decide_eq_true hb.1)]
    refine ⟨rfl, ?_⟩
    rw [eqSs, if_pos (decide_eq_true hb.2)]
    rw [if_pos ⟨decide_eq_true hb.1, hz.mpr hb.2⟩] at hres
    exact fin H1 st false _ e1 (by rw [hres]; rfl) rfl
  rw [if_neg (fun z => hb ⟨of_decide_eq_true z.1, hz.mp z.2⟩)] at hres
  refine skip_if2 rfl (fun z => hb ⟨of_decide_eq_true z.1, by have := z.2; rw [eqSs] at this; exact of_decide_eq_true this⟩) ?_
  refine ⟨T, ts, st + 1, [47], rfl, e1.seq sl, l_slash, by simp, c1 (by decide), hcp, fun Q' h => ⟨_, rfl, _, _, rfl, rfl, _, rfl, h⟩, fun Q' h => ⟨_, rfl, _, _, rfl, rfl, _, rfl, h⟩, fun H2 e2 => ?_⟩
  have e02 := e1.trans e2
  rw [Bool.true_xor]
  dsimp only
  by_cases hs : tok ts (st + 1) = [47]
  case neg =>
    rw [if_pos (by rw [decide_eq_false hs]; rfl)]
    rw [if_neg (fun z => hs z.2)] at hres
    exact fin H2 (st + 1) true _ e02 (by rw [hres]; rfl) rfl
  rw [if_neg (by rw [decide_eq_true hs]; decide)]
  refine ⟨rfl, ?_⟩
  rw [eqSs]
  by_cases h0 : tok ts st = [48]
  · rw [if_pos (decide_eq_true h0)]
    rw [if_neg (fun z => z.1 (hz.mpr h0))] at hres
    exact fin H2 (st + 1) true _ e02 (by rw [hres]; rfl) rfl
  rw [if_neg (fun z => h0 (of_decide_eq_true z))]
  rw [if_pos ⟨fun z => h0 (hz.mp z), hs⟩] at hres
  refine ⟨T, ts, st + 2, rfl, e02.seq sl, fun Q' h => ⟨_, rfl, _, _, rfl, rfl, h⟩, fun Q' h => ⟨_, rfl, _, _, rfl, rfl, h⟩, ?_⟩
  refine ⟨_, rfl, (tokOk (st + 2)).1, (tokOk (st + 2)).2, fun H3 e3 => ?_⟩
  have e03 := e02.trans e3
  cases hn2 : isNum (tok ts (st + 2)) with
  | false =>
    rw [if_pos hn2] at hres
    refine ⟨false, rfl, ?_⟩
    walk_at "F"
    exact fin H3 (st + 2) false _ e03 (by rw [hres]; rfl) rfl
  | true =>
  rw [if_neg (by rw [hn2]; decide)] at hres
  obtain ⟨m1, m2, m3⟩ := num_all hn2
  refine ⟨true, rfl, ?_⟩
  walk_at "T"
  refine ⟨_, (iS hn2).1, (iS hn2).2, ?_⟩
  have hrp := ratio_pair (numV (tok ts st) : Nat) (numV (tok ts (st + 2)) : Nat)
  by_cases hlo : (1 : Int) < ((numV (tok ts (st + 2)) : Nat) : Int)
  case neg =>
    rw [if_neg (fun z => hlo (of_decide_eq_true z))]
    rw [if_neg (fun z => hlo z.1)] at hrp
    rw [hrp] at hres
    exact fin H3 (st + 2) false _ e03 (by rw [hres]; rfl) rfl
  rw [if_pos (decide_eq_true hlo)]
  refine ⟨_, (iS hn).1, (iS hn).2, _, (iS hn2).1, (iS hn2).2, ?_⟩
  refine ⟨_, _, rfl, rfl, ?_⟩
  by_cases hg : Nat.gcd ((numV (tok ts st) : Nat) : Int).natAbs ((numV (tok ts (st + 2)) : Nat) : Int).natAbs = 1
  · rw [if_pos ⟨hlo, hg⟩] at hrp
    rw [hrp] at hres
    have eg : V.int ((Nat.gcd ((numV (tok ts st) : Nat) : Int).natAbs ((numV (tok ts (st + 2)) : Nat) : Int).natAbs : Nat) : Int) = V.int 1 := by rw [hg]; rfl
    rw [if_pos (decide_eq_true eg)]
    exact fin H3 (st + 3) true _ e03 (by rw [hres]; rfl) rfl
  · rw [if_neg (fun z => hg z.2)] at hrp
    rw [hrp] at hres
    rw [if_neg (fun z => hg (by have := of_decide_eq_true z; injection this with this; exact Int.ofNat_inj.mp this))]
    exact fin H3 (st + 2) false _ e03 (by rw [hres]; rfl) rfl
theorem ok_law_read (Z : Zb mg) (D : C8.Def K mg "_law_read" s_law_read f fd) (b : Binds K fd ["tokens", "at"] []) (c_law_is_figures : CalX P w K mg base 1 "_law_is_figures" sp_law_is_figures) (c_law_divisor : CalX P w K mg base 1 "_law_divisor" sp_law_divisor) : ∀ n, CalX P w K mg base (n + 2) "_law_read" (sp_law_read K n)
  | 0 => fn_law_read Z D b c_law_is_figures c_law_divisor ((CalX.none D b _).imp fun _ _ _ _ h => absurd h.1 (Nat.lt_irrefl 0))
  | n + 1 => fn_law_read Z D b c_law_is_figures c_law_divisor ((ok_law_read Z D b c_law_is_figures c_law_divisor n).imp fun _ _ _ _ h => h.2)
end
end FP
set_option maxHeartbeats 4000000
/-! a lambda without parameters handed to a def that calls it: as in HandS.Lambda, with what ExcCtx knows of an error (its context is None) -/
namespace FP
open PySem PySem.Spec PyProof.Rows L2 LamX
/-- what the lambda's body wants of an error -/
def xeN (X : Cx) (A : Around) (outer : List Env) (s : Shared) (H : Hp) (E : XK) (sc : Scope) (f c : Addr) : Value → Shared → Prop := fun e t =>
  wpAny (model X.prog X.w) (A.deeper (lamEnv X sc s.heap.objs.size f c)) (leaving (lamEnv X sc s.heap.objs.size f c) e) (fun _ r => L2N.CX X.prog X.w outer H s E e r) (fun e2 r => L2N.CX X.prog X.w outer H s E e2 r) t
def lamN (X : Cx) (A : Around) (outer : List Env) (s : Shared) (H : Hp) (E : XK) (sc : Scope) (f c : Addr) : Cx := (lamCx X A outer s H E sc f c).tr [] (xeN X A outer s H E sc f c)
theorem tkN {X : Cx} {A : Around} {outer : List Env} {s : Shared} {H : Hp} {E : XK} {sc : Scope} {f c : Addr} : L2N.Takes (lamN X A outer s H E sc f c) (fun cls d _ H => E cls d H) := tk_of rfl rfl rfl rfl
section
variable {X : Cx} {pins : List (Addr × Obj)} {σ : L2.St} {H : Hp} {s : Shared}
/-- the call of what was handed over -/
theorem pe_actN {CXg : CXT} {Eg : XK} {Ng : List Str} {qg : Str} {sg : Scope} {g f c : Addr} {cdg pm ctv : Value} {params : Arguments} {body : Expr} {sc : Scope} {k i : Nat} {a : Str} {pn : List (Addr × Obj)} {xe : Value → Shared → Prop} {W : WX} {tb : XK → TE} {p1 p2 : Pos}
    (I : Inv X pins σ H s) (L : LamS X.env.scope sc) (hf : s.heap.get? f = some (PySem.W.kla_obj "<lambda>" (X.env.qual ++ "<lambda>") params body sc (cloFrom X.env.cells sc.names []) pm c ctv)) (nf : H f = none) (ff : f ∉ frs X.stack)
    (hbind : bindArgs (PySem.W.kla_fn "<lambda>" (X.env.qual ++ "<lambda>") params body sc (cloFrom X.env.cells sc.names []) pm (.ref c) ctv) ⟨[], []⟩ = pure [])
    (tk : L2N.Takes ((cxOf CXg X.prog X.w X.K X.mg X.base Ng qg sg g cdg X.A X.stack s H Eg).tr pn xe) W) (hr : Room (k + 1) (X.A.deeper (envOfC qg sg s.heap.objs.size g cdg)))
    (hbody : ∀ (A : Around) (outer : List Env) (s : Shared) (H : Hp) (E : XK), Room k (A.deeper (lamEnv X sc s.heap.objs.size f c)) → PE (lamN X A outer s H E sc f c) body (tb E))
    (hN : Ng[i]? = some a) (hv : Vis sg a) (hd : (a == ("__debug__" : Str)) = false := by decide) (hcd : (a == ("__classdict__" : Str)) = false := by decide) :
    PE ((cxOf CXg X.prog X.w X.K X.mg X.base Ng qg sg g cdg X.A X.stack s H Eg).tr pn xe) (.Call (.Name a p1) [] [] p2) (fun σZ HZ Q => σZ[i]? = some (some (.ref f)) ∧ HZ c = some (CodeO c (X.env.qual ++ "<lambda>")) ∧ tb (WE W σZ) σ HZ Q) := by
  refine ⟨fun pZ sZ σZ HZ Q IZ ⟨h1, h2, h3⟩ => ?_⟩
  refine wpAny_Call_Name_kw (thn ((pe_var (pos := p1) (i := i) hN hv hd hcd).run pZ sZ σZ HZ (fun v J => v = .ref f ∧ J = HZ) IZ ⟨.ref f, h1, rfl, rfl⟩) fun u t ⟨v, J, IJ, ru, ev, eJ⟩ => ?_)
  subst ev
  subst eJ
  obtain rfl : u = Value.ref f := ru
  have at1 : t.heap.get? f = some (PySem.W.kla_obj "<lambda>" (X.env.qual ++ "<lambda>") params body sc (cloFrom X.env.cells sc.names []) pm c ctv) := IJ.base.keep f _ hf nf ff (fun z => nomatch (show f ∈ ([] : List Addr) from z))
  refine PySem.W.callWith_F0 ⟨_, _, _, _, at1⟩ ?_
  obtain ⟨⟨oc, vs, tt, g1, g2, g3⟩, _, _⟩ := IJ.hok c _ h2
  have un : Un (frs X.stack) [] H J s.heap t.heap := IJ.base
  refine wpAny_call (codeAny_mono (?_ : codeAny (model X.prog X.w) _ (.call (.ref f) ⟨[], []⟩) (CR (L2N.CX X.prog X.w) (envOfC qg sg s.heap.objs.size g cdg :: X.stack) X.prog X.w J t Q (WE W σZ)) t) fun r t2 hq => ?_)
  · refine PySem.W.kla_callFunE hr.depth at1 rfl L.co L.gen rfl ⟨c, oc, vs, tt, rfl, g1, g2, g3⟩ ?_
    rw [hbind]
    refine wpAny_pure (wpAny_newFunctionEnv (fun y hy => (L.own y hy).2) (fun y hy => absurd hy (by simp)) (fun h2 hns sb => ⟨IJ.nolimit.fresh _ sb, ?_⟩) L.kind)
    have kp : ∀ b o, t.heap.get? b = some o → h2.get? b = some o := fun b o e => sb.extBut b o (Nat.ne_of_lt (Heap.lt_size e)) (Heap.get?_push_of_some _ e)
    have J0 : Inv (lamN X (X.A.deeper (envOfC qg sg s.heap.objs.size g cdg)) (envOfC qg sg s.heap.objs.size g cdg :: X.stack) t J (WE W σZ) sc f c) [] σ J { t with heap := h2, toks := t.toks + ([] : List (Str × Value)).length } :=
      Inv.toTry (lam_start2 (E := WE W σZ) I L IJ.env0 hr.hd un hns kp) _
    exact PySem.W.kla_codeExpr (wpAny_mono ((hbody _ _ t J _ (hr.deeper _)).run [] _ _ J Q J0 h3) (fun v t3 ⟨w3, H3, J3, rv, q⟩ => ⟨w3, H3, J3.os, J3.bare, J3.base, J3.hok, rv, q⟩) fun e t3 hq => hq)
  · cases r with
    | error e => exact L2N.passAt tk σZ pZ J t e t2 IJ hq
    | ok fl =>
      cases fl with
      | ret u => exact IJ.after hq
      | next | brk | cont => exact False.elim hq
end
/-- a def that calls what it got -/
def GivesN (X : Cx) (Ng : List Str) (x : Str) (sg : Scope) (g : Addr) (cdg : Value) (bg : List Stmt) (a q : Str) (TT : (XK → Hp → VK → Prop) → Hp → VK → Prop) (k : Nat) : Prop :=
  ∀ (f c : Addr) (s : Shared) (H : Hp) (Q : VK) (tl : XK → Hp → VK → Prop), Room (k + 1) (X.A.deeper (envOfC x sg s.heap.objs.size g cdg)) →
    (∀ (W : WX) (pn : List (Addr × Obj)) (xe : Value → Shared → Prop) (p1 p2 : Pos), L2N.Takes ((cxOf C8.CX0 X.prog X.w X.K X.mg X.base Ng x sg g cdg X.A X.stack s H C8.E0).tr pn xe) W →
      PE ((cxOf C8.CX0 X.prog X.w X.K X.mg X.base Ng x sg g cdg X.A X.stack s H C8.E0).tr pn xe) (.Call (.Name a p1) [] [] p2) (fun σZ HZ Q => σZ[0]? = some (some (.ref f)) ∧ HZ c = some (CodeO c q) ∧ tl (WE W σZ) HZ Q)) →
    H c = some (CodeO c q) → TT tl H Q →
    ∃ t, PSs (cxOf C8.CX0 X.prog X.w X.K X.mg X.base Ng x sg g cdg X.A X.stack s H C8.E0).nox bg t ∧ t { nx := fun _ H' => Q .non H', rt := Q } (L2.start Ng [.ref f]) H
section
variable {X : Cx}
/-- x(lambda: body) -/
theorem pe_lamN {T : List (Addr × Str)} {TT : (XK → Hp → VK → Prop) → Hp → VK → Prop} {x a : Str} {g c P : Addr} {k : Nat} {pg : Arguments} {bg : List Stmt} {sg : Scope} {dV kV doc pm cdv ct oc : Value} {an od : Option Addr} {osl : Array (Option Value)} {Ng : List Str}
    {params : Arguments} {body : Expr} {sc : Scope} {t : XK → TE} {p lpos pos : Pos} (hg : Gl X x) (hm : X.mg x = some (.ref g)) (hk : PySem.W.keepIn X.K (.ref g) = true)
    (lk : X.K.lookup g = some ⟨oc, od, .func (PySem.W.fnOf x x pg bg sg dV kV doc pm an cdv ct), osl⟩) (hcg : PySem.W.codeIn X.K cdv x = true) (hb : L2.Binds X.K (PySem.W.fnOf x x pg bg sg dV kV doc pm an cdv ct) [a] []) (Sg : FnScope Ng [a] sg) (hNg : Ng[0]? = some a) (hva : Vis sg a)
    (hG : GivesN X Ng x sg g cdv bg a (X.env.qual ++ "<lambda>") TT k) (TB : TabB X.base X.mg c P) (hcode : X.env.code = .ref c) (hmT : (P, X.env.qual ++ "<lambda>") ∈ T) (hu : ∀ p ∈ T, p.1 = P → p.2 = X.env.qual ++ "<lambda>") (hr : Room (k + 2) X.A) (L : LamS X.env.scope sc) (hdef : defaultsOf params X.env = ([], []))
    (hbind : ∀ (q : Str) (cl : List (Str × Addr)) (pm cv ctv : Value), bindArgs (PySem.W.kla_fn "<lambda>" q params body sc cl pm cv ctv) ⟨[], []⟩ = pure [])
    (hbody : ∀ (A : Around) (outer : List Env) (s : Shared) (H : Hp) (E : XK) (f c : Addr) (L : Addr), Room k (A.deeper (lamEnv X sc L f c)) → PE (lamN X A outer s H E sc f c) body (t E))
    (hdb : (x == ("__debug__" : Str)) = false := by decide) (hd : (a == ("__debug__" : Str)) = false := by decide) (hcd : (a == ("__classdict__" : Str)) = false := by decide) : PE X (.Call (.Name x p) [.Lambda params body sc lpos] [] pos) (tLam T TT t) := by
  refine ⟨fun pins s σ H Q I ⟨hT, h⟩ => ?_⟩
  refine wpAny_Call_Name_kw (ld_glob I hg hm (PySem.W.callWith_K (h₀ := X.base) I.ok.mod.kin hk ?_ (by rfl) (by rfl)) hdb)
  refine Calls.spliced_cons (lam_make2 I TB hcode hmT hu hT hdef (L.has I.ok) fun f c1 pm1 ct1 H1 s1 I1 eN T1 hf nf ff hco => Calls.spliced_nil ⟨I1.kIn, ?_⟩)
  refine wpAny_call (codeAny_mono (show codeAny (model X.prog X.w) X.A (.call (.ref g) ⟨[.ref f], []⟩) (CR C8.CX0 X.stack X.prog X.w H1 s1 Q C8.E0) s1 from run_ofS (N := Ng) (ps := [a]) (us := [.ref f]) (vs := [.ref f]) lk hcg Sg hr I1.env0 (hb s1 [.ref f] I1.kIn rfl) (.cons rfl .nil) rfl fun hr1 => ?_) fun r s2 hq => ?_)
  · obtain ⟨t1, ht1, hq1⟩ := hG f c1 s1 H1 Q (fun E H' Q' => t E σ H' Q') hr1 (fun W pn xe p1 p2 tk => pe_actN (i := 0) I1 L hf nf ff (hbind _ _ _ _ _) tk hr1 (fun A outer s H E hr2 => hbody A outer s H E f c1 _ hr2) hNg hva hd hcd) hco (h H1 eN T1)
    exact ⟨t1, ht1.nox, hq1⟩
  · cases r with
    | error e => exact (show False from hq).elim
    | ok fl =>
      cases fl with
      | ret u => exact I1.after hq
      | next | brk | cont => exact False.elim hq
end
end FP
set_option maxHeartbeats 4000000
/-! a caught error with a dict of its own is handed on, within the except suite, to a def: its class, its fields, isinstance -/
namespace FP
open PySem PySem.Spec PySem.Calls PyProof.Rows L2 L2H
section
open PySem.W
variable {prog : Program} {w : World} {A : Around} {E : Value → Shared → Prop} {s : Shared} {K : Frag} {x D : Addr} {ox od : Obj}
theorem findObj_dataD {C : Addr} {y : Str} {a g : Value} (hc : (clsIn K C).isSome = true) (h1 : findIn K (.ref C) y = some (some a)) (h2 : specialIn K a "__get__" = some (some g)) (h3 : takesIn K a = some true) : findObj K C (some od) y = some (.bind g a) := by
  obtain ⟨cd, hc⟩ := Option.isSome_iff_exists.mp hc
  unfold findObj
  rw [hc, Option.bind_some, h1, Option.bind_some]
  simp [h2, h3]
/-- e.__class__ of an error that has a dict -/
theorem classD {Q : Option Value → Shared → Prop} (C : L2.ExcC K D) (X : K.In s.heap) (I : InstAt s.heap x ox D (some od)) (h : Q (some (.ref D)) { s with toks := s.toks + 1 }) : wpAny (model prog w) A (getAttr? (.ref x) "__class__") Q E s := by
  obtain ⟨g1, g2, g3, g4, g5, g6, g7, g8⟩ := C
  have hf : findObj K D (some od) "__class__" = some (.bind (.builtin "getset_descriptor.__get__") (.builtin "object.__class__")) := findObj_dataD (by obtain ⟨cd, hc, _⟩ := any_some g4; rw [hc]; rfl) g5 g6 g7
  obtain ⟨hp, g, d, t, os⟩ := s
  have T0 := I.type (M := model prog w)
  have T1 := looks_findIn (M := model prog w) X g1
  have T2 := looks_findIn (M := model prog w) X g2
  have T3 := looks_find (M := model prog w) X I hf
  have isB : Looks (model prog w) hp (isInstance (.ref x) (.type "BaseException")) true := T0.andThen (looks_subIn X g3)
  have e0 : (false && onTheHeap (Value.builtin "BaseException.__getattribute__")) = false := rfl
  have e2 : (Value.builtin "BaseException.__getattribute__" == Value.builtin "object.__getattribute__") = false := by decide +kernel
  have e1 : (onTheHeap (Value.ref D) && Value.builtin "BaseException.__getattribute__" == Value.builtin "object.__getattribute__") = false := by rw [e2]; rfl
  unfold getAttr? getAttrBy? getAttrBy
  refine wpAny_bind (wpAny_mkText (wpAny_bind (wpAny_attempt (wpAny_holding (wpAny_bind (T0.at (wpAny_bind (T1.at ?_))))))))
  show wpAny _ _ (if (onTheHeap (Value.ref D) && Value.builtin "BaseException.__getattribute__" == Value.builtin "object.__getattribute__") = true then _ else _) _ _ _
  rw [e1, if_neg Bool.false_ne_true]
  unfold getAttrByItsOwn hookBefore
  refine wpAny_bind ?_
  rw [if_pos (show onTheHeap (Value.ref D) = true from rfl)]
  refine T2.at (wpAny_bind (wpAny_attempt (wpAny_holding ?_)))
  unfold callGetattribute
  rw [e0, if_neg Bool.false_ne_true]
  unfold boundAndCalled
  rw [PySem.F.excAttr_ValueError.ga.bind (.ref x)]
  refine wpAny_bind (wpAny_pure ?_)
  show wpAny _ _ (call (.builtin "BaseException.__getattribute__") [.ref x, .str "__class__" t]) _ _ _
  refine wpAny_call (codeAny_call_builtin PySem.F.excAttr_ValueError.ga.plain PySem.F.entry_bexc_ga ?_)
  refine @check_slot (model prog w) _ _ ⟨hp, g, d, t + 1, os⟩ "BaseException.__getattribute__" "BaseException" "__getattribute__" (.ref x) [.str "__class__" t] [] _ (by decide +kernel) (by decide +kernel) isB (PySem.F.args_bexc_ga (.ref x) (.str "__class__" t)) ?_
  unfold Builtin.«object.__getattribute__»
  refine wpAny_bind (wpAny_of_eq (a := ((Value.ref x : Value), [Value.str "__class__" t])) (by first | rfl | (simp only [slotArgs]; rfl)) ?_)
  refine wpAny_bind (wpAny_pure (wpAny_bind (T0.at (wpAny_bind (T3.at ?_)))))
  show wpAny _ _ (holding [Value.builtin "object.__class__"] (call (.builtin "getset_descriptor.__get__") [.builtin "object.__class__", .ref x, .ref D]) >>= ret) _ _ _
  refine wpAny_bind (wpAny_holding (wpAny_call (class_get (s := ⟨hp, g, d, t + 1, os⟩) (ox := ox) (od := some od) X I g8 (wpAny_pure ?_))))
  show wpAny _ _ (handedOut (.ref D)) _ _ _
  rw [handedOut_of (v := .ref D) rfl]
  first
    | exact wpAny_pure (wpAny_pure h)
    | exact wpAny_pure h
    | exact wpAny_pure (wpAny_bind (wpAny_pure (wpAny_pure h)))
theorem kitD (C : L2.ExcC K D) : KitX K (.ref x) (.ref D) (fun h => ∃ od, InstAt h x ox D (some od)) where
  ty := fun _ _ _ ⟨_, I⟩ => I.type
  it := fun _ _ X _ => by
    obtain ⟨cd, hc, _⟩ := any_some C.hd
    unfold clsIn at hc
    split at hc
    · rename_i c' d' cd' sl' ho
      intro A' Q' E' s' k q
      unfold isType loadHead
      exact wpAny_bind (wpAny_loadPart (k _ _ (X _ _ ho)) (wpAny_pure q))
    · cases hc
  ne := fun h tp dd its n sl X htp => by
    obtain ⟨cd, hc, _⟩ := any_some C.hd
    refine Bool.eq_false_iff.mpr fun q => ?_
    have e : D = tp := Value.ref.inj (beq_iff_eq.mp q)
    subst e
    unfold clsIn at hc
    split at hc
    · rename_i c' d' cd' sl' ho
      have z := (X _ _ ho).symm.trans htp
      cases z
    · cases hc
  ca := fun X ⟨_, I⟩ k => classD C X I k
end
/-- the context bears the error at a, as it is handled: its class, its dict, no context -/
structure HE (A : Around) (pn : List (Addr × Obj)) (a : Addr) (cls : Value) (d : Option Addr) : Prop where
  ex : ∃ oe, (a, oe) ∈ pn ∧ A.handled = some (.ref a) ∧ (∃ vs : Array Value, oe.data = .fields vs ∧ vs[2]? = some .none) ∧ Zc cls d oe
section
variable {X : Cx} {a C : Addr} {cls : Value} {d : Option Addr} {e : Expr} {te : TE} {pos : Pos} {n : Str}
theorem HE.suite {oe : Obj} {pn : List (Addr × Obj)} (hz : L2N.Zn cls d oe) (hf : ∃ vs, oe.data = .fields vs) : HE (X.suite a ((a, oe) :: pn)).A (X.suite a ((a, oe) :: pn)).pn a cls d := by
  obtain ⟨vs, h⟩ := hf
  exact ⟨oe, List.mem_cons_self, rfl, ⟨vs, h, hz.2.2 vs h⟩, hz.zc⟩
/-- a field of it -/
theorem pe_xfE (T : XfC X.K C) (no : PySem.W.findIn X.K (.ref C) n = some none) (hh : HE X.A X.pn a cls d) (he : PE X e te) (hb : attributeBase e n X.env (eval e X.env) = eval e X.env := by rfl) : PE X (.Attribute e n pos) (tXf a cls d C n te) := by
  obtain ⟨oe, hm, _, ⟨vs, hd, _⟩, hz⟩ := hh.ex
  refine ⟨fun pins s σ H Q I h => attr_of hb (thn (he.run pins s σ H _ I h) fun u t ⟨x, J, IJ, rx, ex, ec, dd, fs, v, ed, ea, l, q⟩ => ?_)⟩
  subst ex ec ed
  obtain rfl : u = Value.ref a := rx
  have ha := (IJ.pin (a, oe) (List.mem_append_left _ hm)).1
  obtain ⟨mA, hns, hr⟩ := (IJ.hok dd _ ea : ObjOk X.prog X.w J t.heap dd (.xd fs))
  obtain ⟨od, ho, hl⟩ := lookIn_ns hns
  obtain ⟨u, hu, ru⟩ := RelO.some_of (v := v) (o := mA n) (by rw [← l]; exact hr n)
  have IA : PySem.W.InstAt t.heap a oe C (some od) := ⟨ha, hz.1, by unfold PySem.W.notCls; rw [hd] <;> rfl, by rw [hz.2]; exact ho⟩
  exact HandSPX.exc_get IJ.kIn IA T.ga T.gg T.exC (PySem.W.findObj_own T.hdC no rfl (by rw [hl, hu])) (handed_of ru) ⟨v, J, IJ.tok _, ru, q⟩
/-- isinstance(it, c) -/
theorem call_isX (hh : HE X.A X.pn a (.ref C) d) (hC : L2.ExcC X.K C) : CallR X (.builtin "isinstance") (fun xs H Q => ∃ (c : V) (cv : Value) (b : Bool) (dd : Addr) (fs : List (Str × V)), xs = [.ref a, c] ∧ (∀ u, RelV c u → u = cv) ∧ PySem.W.kitOne X.K (.ref C) cv = some b ∧ d = some dd ∧ H dd = some (.xd fs) ∧ Q (.bl b) H) := by
  intro pins s σ H xs us Q I r ⟨c, cv, b, dd, fs, ex, hcv, k, ed, ea, q⟩
  subst ex ed
  obtain ⟨oe, hm, _, ⟨vs, hd, _⟩, hz⟩ := hh.ex
  cases r with
  | cons rx rr =>
    cases rr with
    | cons rt rr =>
      cases rr
      cases rx
      obtain rfl := hcv _ rt
      have ha := (I.pin (a, oe) (List.mem_append_left _ hm)).1
      obtain ⟨mA, hns, hr⟩ := (I.hok dd _ ea : ObjOk X.prog X.w H s.heap dd (.xd fs))
      obtain ⟨od, ho, hl⟩ := lookIn_ns hns
      have IA : PySem.W.InstAt s.heap a oe C (some od) := ⟨ha, hz.1, by unfold PySem.W.notCls; rw [hd] <;> rfl, by rw [hz.2]; exact ho⟩
      exact PySem.W.kia_one (kitD hC) I.kIn ⟨od, IA⟩ k (fun z => nomatch z) fun tk => ⟨.bl b, H, I.kept (t' := tk) fun _ _ z => z, rfl, q⟩
end
/-- what a def promises that is called there on the error -/
structure FnE (P : Program) (w : World) (K : PySem.W.Frag) (mg : Str → Option Value) (base : Heap) (k : Nat) (f : Addr) (fd : FuncData) (ps : List Str) (sp : Addr → Value → Option Addr → Sp) : Prop where
  len : ∀ a cls d vs H Q E, sp a cls d vs H Q E → vs.length = ps.length
  run : ∀ (A : Around) (outer : List Env) (s : Shared) (H : Hp) (args : Args) (us : List Value) (vs : List V) (Q : VK) (E : XK) (a : Addr) (oe : Obj) (cls : Value) (d : Option Addr), RoomH k A → A.guards = some [] → HE A [(a, oe)] a cls d → PinOk outer H s (a, oe) → Env0 P w K mg base A outer s H → BindsTo s fd args (ps.zip us) → Vals vs us → sp a cls d vs H Q E →
    codeAny (model P w) A (.call (.ref f) args) (CR (L2N.CX P w) outer P w H s Q E) s
theorem hot1_of {A : Around} {a : Addr} {oe : Obj} {cls : Value} {d : Option Addr} (h : HE A [(a, oe)] a cls d) : Hot1 A (a, oe) := by
  obtain ⟨o2, hm, h1, ⟨vs, h2, h3⟩, _⟩ := h.ex
  obtain rfl : o2 = oe := by simpa using hm
  exact ⟨h1, vs, h2, h3⟩
theorem fnE_of {P : Program} {w : World} {K : PySem.W.Frag} {mg : Str → Option Value} {base : Heap} {k : Nat} {x qual : Str} {st : Stmt} {f : Addr} {fd : FuncData} {N ps : List Str} {sp : Addr → Value → Option Addr → Sp} (F : C8.Fun K x qual st f fd) (S : FnScope N ps (C8.fnScope st)) (len : ∀ a cls d vs H Q E, sp a cls d vs H Q E → vs.length = ps.length)
    (hbody : ∀ (cdv : Value) (A : Around) (outer : List Env) (s : Shared) (H : Hp) (vs : List V) (Q : VK) (E : XK) (a : Addr) (oe : Obj) (cls : Value) (d : Option Addr), HE A [(a, oe)] a cls d → A.guards = some [] → RoomH k (A.deeper (envOfC qual (C8.fnScope st) s.heap.objs.size f cdv)) → sp a cls d vs H Q E →
      ∃ t, PSs (cxH (L2N.CX P w) P w K mg base N qual (C8.fnScope st) f cdv A outer s H E (a, oe)) (C8.fnBody st) t ∧ t { nx := fun _ H' => Q .non H', rt := Q } (L2.start N vs) H) : FnE P w K mg base (k + 1) f fd ps sp := by
  obtain ⟨oc, od, dV, kV, doc, pm, an, cdv, ct, osl, rfl, lk, hcd⟩ := F.ex
  refine ⟨len, fun A outer s H args us vs Q E a oe cls d hr hg hh hpin e0 hb r hsp => ?_⟩
  have KX : K.In s.heap := e0.mod.kin.keeps fun b o e => (e0.bs b o e).1
  refine codeAny_call_function hr.depth (KX _ _ lk) rfl S.co S.gen rfl (PySem.W.codeRec_of KX hcd) (hb _ _ _ _ (wpAny_newFunctionEnv_cells S.kind (fun ⟨y, v⟩ hy => ?_) fun env he s1 i => ?_))
  · exact (S.par y (List.of_mem_zip hy).1).imp id fun q => ⟨q, PySem.W.cellsFrom_some _ _ _ (.inl q)⟩
  subst he
  obtain ⟨t, ht, hq⟩ := hbody cdv A outer s H vs Q E a oe cls d hh hg (hr.deeper _) hsp
  have I : Inv (cxH (L2N.CX P w) P w K mg base N qual (C8.fnScope st) f cdv A outer s H E (a, oe)) [] (L2.start N vs) H s1 := inv_startH S hpin e0 (len _ _ _ _ _ _ _ hsp) r i
  refine ⟨(e0.mod.nolimit.keeps fun b o e => (e0.bs b o e).1).keeps i.toInCall.keep, codeAny_func (wpAny_mono (ht.run [] s1 (L2.start N vs) H _ I hq) (fun fl s2 z => ?_) fun e s2 z => z)⟩
  cases fl with
  | ret u =>
    obtain ⟨v, σ2, H2, J, rv, q⟩ := z
    exact ⟨v, H2, J.os, J.bare, J.base, J.hok, rv, q⟩
  | next =>
    obtain ⟨σ2, H2, J, q⟩ := z
    exact ⟨.non, H2, J.os, J.bare, J.base, J.hok, rfl, q⟩
  | brk | cont =>
    obtain ⟨_, _, _, q⟩ := z
    exact False.elim q
/-- a def that takes the error -/
structure CalE (P : Program) (w : World) (K : PySem.W.Frag) (mg : Str → Option Value) (base : Heap) (k : Nat) (x : Str) (sp : Addr → Value → Option Addr → Sp) : Prop where
  ex : ∃ (f : Addr) (fd : FuncData) (ps : List Str), FnE P w K mg base k f fd ps sp ∧ mg x = some (.ref f) ∧ PySem.W.keepIn K (.ref f) = true ∧ Binds K fd ps []
section
variable {X : Cx} {k j : Nat} {x : Str} {sp : Addr → Value → Option Addr → Sp} {W : WX} {p pos : Pos} {e : Expr} {es : List Expr} {t : TA} {a : Addr} {cls : Value} {d : Option Addr}
theorem pe_xE (c : CalE X.prog X.w X.K X.mg X.base k x sp) (hr : RoomH j X.A) (hk : k ≤ j) (hg : X.A.guards = some []) (hh : HE X.A X.pn a cls d) (tk : L2N.Takes X W) (gx : Gl X x) (ha : PA X (e :: es) t)
    (hdb : (x == ("__debug__" : Str)) = false := by decide) (he : starEach (e :: es) X.env = (false, eval e X.env) :: starEach es X.env := by rfl) (hpl : (backTo pos (starEach es X.env)).any (·.1) = false := by rfl) :
    PE X (.Call (.Name x p) (e :: es) [] pos) (tCallS (sp a cls d) (WE W) t) := by
  obtain ⟨f, fd, ps, F, hm, kp, b⟩ := c.ex
  obtain ⟨oe, hin, h1, h2, h3⟩ := hh.ex
  refine ⟨fun pins s σ H Q I h => wpAny_Call_Name_kw (ld_glob I gx hm ?_ hdb)⟩
  refine PySem.W.callWith_K (h₀ := X.base) I.ok.mod.kin kp (thn (ha.run pos pins s σ H _ I h) fun us s1 ⟨vs, H1, I1, r, q⟩ => ⟨I1.kIn, ?_⟩) he hpl
  have hl : us.length = ps.length := by rw [← r.length]; exact F.len _ _ _ _ _ _ _ q
  have bb := b s1 us I1.kIn (by rw [List.append_nil]; exact hl)
  rw [List.append_nil] at bb
  have P1 := I1.pin (a, oe) (List.mem_append_left _ hin)
  have hpin : PinOk X.stack H1 s1 (a, oe) := ⟨P1.1, P1.2.1, fun hm => (List.mem_cons.mp (I1.stkSub a hm)).elim P1.2.2.1 P1.2.2.2.1, P1.2.2.2.2⟩
  refine wpAny_call (codeAny_mono (F.run X.A X.stack s1 H1 ⟨us, []⟩ us vs Q (WE W σ) a oe cls d ⟨by have := hr.dp; omega, by have := hr.un; omega⟩ hg ⟨oe, List.mem_cons_self, h1, h2, h3⟩ hpin I1.env0 bb r q) fun r s2 hq => ?_)
  cases r with
  | error e => exact L2N.passAt tk σ pins H1 s1 e s2 I1 hq
  | ok fl =>
    cases fl with
    | ret u => exact I1.after hq
    | next | brk | cont => exact False.elim hq
end
end FP
set_option maxHeartbeats 1000000
namespace FP
open PySem PySem.Spec PyProof.Rows L2
local macro_rules | `(tactic| walk_at "rd") => `(tactic| dsimp only [tVar, tC, tCmp, tIsN, tNotN, tB, tAnd, tOr, tNot, tAndV, tOrV, tNotV, tIf, tNext, tSeq, tBreak, tCont, tDrop, tRet, tRetN, tIfS, tNever, tAsg, tPar, tAug, tOp, tUn, tTest, tChain, tFld, tNil, tCons, tTup, tLst, tCB, iList, iTup, iStr, tLc, tM0, tM1, tPart, tNoPart, tSl, tBM, tCallS, tCallSD, tMethW, tMake, sDPut, tDisp, tPairs, tXf, WE, tDGet, tDIn, gName, gTup, gCons, gNil, gSub, sFld, sFldAug, rI, rI0, rU, rEq, rNe, rAdd, rSub, t2I, tYes, cx_K, cx_w, cx_prog])
local macro_rules | `(tactic| walk_at "rs") => `(tactic| (try simp (maxSteps := 4000000) only [L2.start, List.map_cons, List.map_nil, List.length_cons, List.length_nil, List.cons_append, List.nil_append, Nat.reduceAdd, Nat.reduceSub, Nat.zero_add, List.replicate, List.getElem?_cons_zero, List.getElem?_cons_succ, Option.some.injEq, exists_eq_left', exists_eq_left, V.int.injEq, V.str.injEq, V.bl.injEq, V.ref.injEq, List.set_cons_zero, List.set_cons_succ, exists_and_left, List.cons.injEq, and_true, true_and, wipe, if_true, if_false, Bool.not_true, Bool.not_false, Bool.false_eq_true, decide_true, decide_false]))
local macro_rules | `(tactic| walk_at "r") => `(tactic| (walk_at "rd"; walk_at "rs"))
local macro_rules | `(tactic| walk_at "T") => `(tactic| (rw [if_pos (by first | assumption | rfl | decide | exact decide_eq_true (by assumption) | (simp [tyOf]; done) | (simp; omega) | omega)]; walk_at "rs"))
local macro_rules | `(tactic| walk_at "F") => `(tactic| (rw [if_neg (by first | assumption | decide | (simp [tyOf]; done) | (simp; omega) | (simp; assumption) | omega)]; walk_at "rs"))
theorem tkh {P : Program} {w : World} {K : PySem.W.Frag} {mg : Str → Option Value} {base : Heap} {N : List Str} {qual : Str} {sc : Scope} {f : Addr} {cd : Value} {A : Around} {outer : List Env} {s : Shared} {H : Hp} {E : XK} {p : Addr × Obj} : L2N.Takes (L2H.cxH (L2N.CX P w) P w K mg base N qual sc f cd A outer s H E p) (fun cls d _ H => E cls d H) := tk_of rfl rfl rfl rfl
/-! ### repr of data -/
/-- what repr may be asked of here: data without dicts, or an empty dict -/
def RD (K : PySem.W.Frag) (H : Hp) (v : V) (d : PyData) : Prop := (Dp K H v d ∧ d.hasDict = false ∧ d.showable = true ∧ d.depth ≤ 20 ∧ d.shown.length ≤ 10000) ∨ (∃ a, v = .ref a ∧ H a = some (.dK []) ∧ d = .dict [])
theorem call_reprD {X : Cx} (hg : X.A.guards = some []) (hu : X.A.units + 30 < cLine) : CallR X (.builtin "repr") (fun xs H Q => ∃ v d, xs = [v] ∧ RD X.K H v d ∧ Q (.str d.shown) H) := by
  intro pins s σ H xs us Q I r h
  obtain ⟨v, d, rfl, hd, q⟩ := h
  obtain ⟨u, rfl, rv⟩ := vals1 r
  rcases hd with ⟨hd, nd, sh, dp, hl⟩ | ⟨a, rfl, ha, rfl⟩
  · obtain ⟨as, rd⟩ := Dp.reads I d v u hd rv
    have go : ∀ {a : Addr}, u = .ref a → wpAny (model X.prog X.w) X.A (call (.builtin "repr") [u]) (EP X pins σ Q) X.xe s := by
      intro a e
      subst e
      exact repr_of_reads' rd sh (fun h => by rw [nd] at h; cases h) hg (by omega) (fun _ _ h => h) (fun h' t tk hk => ⟨.str d.shown, H, I.kept (t' := tk) hk, ⟨t, rfl⟩, q⟩) (sz (by omega))
    cases hd with
    | non => obtain rfl : u = Value.none := rv; exact PySem.P.repr_of_none ⟨.str _, H, I.tok _, ⟨_, rfl⟩, q⟩
    | bl b => obtain rfl : u = Value.bool b := rv; exact PySem.P.repr_of_bool ⟨.str _, H, I.tok _, ⟨_, rfl⟩, by cases b <;> exact q⟩
    | int i => obtain ⟨t, rfl⟩ := (show ∃ t, u = Value.int i t from rv); exact PySem.P.repr_of_int (of_decide_eq_true sh) ⟨.str _, H, I.tok _, ⟨_, rfl⟩, q⟩
    | str x => obtain ⟨t, rfl⟩ := (show ∃ t, u = Value.str x t from rv); exact PySem.P.repr_of_str ⟨.str _, H, I.tok _, ⟨_, rfl⟩, q⟩ (sz (by show (PyData.shown (.str x)).length ≤ _; omega))
    | lst _ _ => exact go (show u = Value.ref _ from rv)
    | tup _ _ => exact go (show u = Value.ref _ from rv)
  · obtain rfl : u = Value.ref a := rv
    obtain ⟨z, y, vs, kv, o, es, ep, g1, g2, g3, g4, g5, g6⟩ := dk_of I.hok ha
    cases kv
    have e0 : es.toList = [] := by
      cases hs : es.toList with
      | nil => rfl
      | cons x r => rw [hs] at g5; cases g5
    have rd : Reads s.heap (.ref a) (.dict []) ([a]) := Reads.dict (as := []) (bs := []) (kvs := []) g1 g2.1 g3 (by rw [e0]; exact .nil) (by rw [e0]; exact .nil)
    refine repr_of_reads' rd rfl (fun _ hm => ?_) hg (by show X.A.units + (1 + 1) < cLine; omega) (fun _ _ h => h) (fun h' t tk hk => ⟨.str _, H, I.kept (t' := tk) hk, ⟨t, rfl⟩, q⟩) (sz (by decide))
    rw [List.mem_singleton.mp hm, beq_self_eq_true] at y
    cases y

theorem RD.same {K : PySem.W.Frag} {H H' : Hp} {v : V} {d : PyData} (h : RD K H v d) (e : Same H H') : RD K H' v d := by
  rcases h with ⟨h1, h2⟩ | ⟨a, h1, h2, h3⟩
  · exact .inl ⟨Dp.same e h1, h2⟩
  · exact .inr ⟨a, h1, e _ _ h2, h3⟩
theorem u30 {k : Nat} {A : Around} (r : L2H.RoomH k A) : A.units + 30 < cLine := by have := r.un; omega
theorem isx_no {K : PySem.W.Frag} {C aX dd : Addr} {H : Hp} {fs : List (Str × V)} {T S : Prop} (k : PySem.W.kitOne K (.ref C) (.ref aX) = some false) (h : H dd = some (.xd fs)) (q : S) :
    ∃ x, (∀ u, L2.RelV (.ref aX) u → u = x) ∧ ∃ b, PySem.W.kitOne K (.ref C) x = some b ∧ ∃ fs, H dd = some (.xd fs) ∧ if b = true then T else S := ⟨_, fun _ h => h, _, k, _, h, q⟩
theorem isx_yes {K : PySem.W.Frag} {C aX dd : Addr} {H : Hp} {fs : List (Str × V)} {T S : Prop} (k : PySem.W.kitOne K (.ref C) (.ref aX) = some true) (h : H dd = some (.xd fs)) (q : T) :
    ∃ x, (∀ u, L2.RelV (.ref aX) u → u = x) ∧ ∃ b, PySem.W.kitOne K (.ref C) x = some b ∧ ∃ fs, H dd = some (.xd fs) ∧ if b = true then T else S := ⟨_, fun _ h => h, _, k, _, h, q⟩
section
variable {P : Program} {w : World} {K : PySem.W.Frag} {mg : Str → Option Value} {base : Heap} {f : Addr} {fd : FuncData} {C : Addr}
def sp_more : Addr → Value → Option Addr → Sp := fun a cls d vs H Q _ => vs = [.ref a] ∧ ∃ C dd fs, cls = .ref C ∧ d = some dd ∧ H dd = some (.xd fs) ∧ ∀ l H', Same H H' → H' l = some (.lst []) → H l = none → Q (.ref l) H'
theorem ok_more (Z : Zb mg) (D : C8.Def K mg "_law_more_kinds" s_law_more_kinds f fd) (b : Binds K fd ["e"] []) (hC : L2.ExcC K C) {a_NoName : Addr} (G_NoName : mg "NoName" = some (.ref a_NoName)) (k_NoName : PySem.W.kitOne K (.ref C) (.ref a_NoName) = some false) {a_TakenName : Addr} (G_TakenName : mg "TakenName" = some (.ref a_TakenName)) (k_TakenName : PySem.W.kitOne K (.ref C) (.ref a_TakenName) = some false) {a_Unlike : Addr} (G_Unlike : mg "Unlike" = some (.ref a_Unlike)) (k_Unlike : PySem.W.kitOne K (.ref C) (.ref a_Unlike) = some false) {a_NotThere : Addr} (G_NotThere : mg "NotThere" = some (.ref a_NotThere)) (k_NotThere : PySem.W.kitOne K (.ref C) (.ref a_NotThere) = some false) {a_TooMany : Addr} (G_TooMany : mg "TooMany" = some (.ref a_TooMany)) (k_TooMany : PySem.W.kitOne K (.ref C) (.ref a_TooMany) = some false) {a_NotKept : Addr} (G_NotKept : mg "NotKept" = some (.ref a_NotKept)) (k_NotKept : PySem.W.kitOne K (.ref C) (.ref a_NotKept) = some false) {a_NothingToUndo : Addr} (G_NothingToUndo : mg "NothingToUndo" = some (.ref a_NothingToUndo)) (k_NothingToUndo : PySem.W.kitOne K (.ref C) (.ref a_NothingToUndo) = some false) {a_NothingToRedo : Addr} (G_NothingToRedo : mg "NothingToRedo" = some (.ref a_NothingToRedo)) (k_NothingToRedo : PySem.W.kitOne K (.ref C) (.ref a_NothingToRedo) = some false) : CalE P w K mg base 1 "_law_more_kinds" (fun a cls d vs H Q E => cls = .ref C ∧ sp_more a cls d vs H Q E) := by
  have nd := sc_law_more_kinds.nd
  refine ⟨f, fd, ["e"], fnE_of D.fn sc_law_more_kinds (fun a cls d vs H Q E h => by rw [h.2.1]; rfl) fun cdv A outer s H vs Q E a oe cls d hh hg hr h => ?_, D.mgf, D.kp, b⟩
  obtain ⟨rfl, rfl, C', dd, fs, hc, rfl, hdd, q⟩ := h
  replace hh : HE (A.deeper (envOfC "_law_more_kinds" (C8.fnScope s_law_more_kinds) s.heap.objs.size f cdv)) [(a, oe)] a (.ref C) (some dd) := ⟨hh.ex⟩
  refine ⟨_, (pss_cons (ps_set (i := 1) nd rfl (Or.inl rfl) (pe_lst pa_nil))
    (pss_cons (ps_if (pt_val (pe_callB (call_isX hh hC) rfl Z.isinstance PyProof.Rows.boot_isinstance (pa_cons (pv 0) (pa_cons (pe_ref rfl G_NoName) pa_nil)))) pss_never pss_nil)
    (pss_cons (ps_if (pt_val (pe_callB (call_isX hh hC) rfl Z.isinstance PyProof.Rows.boot_isinstance (pa_cons (pv 0) (pa_cons (pe_ref rfl G_TakenName) pa_nil)))) pss_never pss_nil)
    (pss_cons (ps_if (pt_val (pe_callB (call_isX hh hC) rfl Z.isinstance PyProof.Rows.boot_isinstance (pa_cons (pv 0) (pa_cons (pe_ref rfl G_Unlike) pa_nil)))) pss_never pss_nil)
    (pss_cons (ps_if (pt_val (pe_callB (call_isX hh hC) rfl Z.isinstance PyProof.Rows.boot_isinstance (pa_cons (pv 0) (pa_cons (pe_ref rfl G_NotThere) pa_nil)))) pss_never pss_nil)
    (pss_cons (ps_if (pt_val (pe_callB (call_isX hh hC) rfl Z.isinstance PyProof.Rows.boot_isinstance (pa_cons (pv 0) (pa_cons (pe_ref rfl G_TooMany) pa_nil)))) pss_never pss_nil)
    (pss_cons (ps_if (pt_val (pe_callB (call_isX hh hC) rfl Z.isinstance PyProof.Rows.boot_isinstance (pa_cons (pv 0) (pa_cons (pe_ref rfl G_NotKept) pa_nil)))) pss_never pss_nil)
    (pss_cons (ps_if (pt_val (pe_callB (call_isX hh hC) rfl Z.isinstance PyProof.Rows.boot_isinstance (pa_cons (pv 0) (pa_cons (pe_ref rfl G_NothingToUndo) pa_nil)))) pss_never pss_nil)
    (pss_cons (ps_if (pt_val (pe_callB (call_isX hh hC) rfl Z.isinstance PyProof.Rows.boot_isinstance (pa_cons (pv 0) (pa_cons (pe_ref rfl G_NothingToRedo) pa_nil)))) pss_never pss_nil)
    (pss_one (ps_ret (pv 1)))))))))))), ?_⟩
  walk_at "r"
  refine ⟨sz (by decide), fun p np => ?_⟩
  have e1 := same_new np (.lst [])
  have hd2 := e1 _ _ hdd
  refine isx_no k_NoName hd2 ?_; refine isx_no k_TakenName hd2 ?_; refine isx_no k_Unlike hd2 ?_; refine isx_no k_NotThere hd2 ?_; refine isx_no k_TooMany hd2 ?_; refine isx_no k_NotKept hd2 ?_; refine isx_no k_NothingToUndo hd2 ?_; refine isx_no k_NothingToRedo hd2 ?_;
  exact q _ _ e1 upd_same np
def sp_kinds (K : PySem.W.Frag) (CT CR : Addr) : Addr → Value → Option Addr → Sp := fun a cls d vs H Q _ => vs = [.ref a] ∧
  ((∃ dd lv wv, cls = .ref CT ∧ d = some dd ∧ H dd = some (.xd [("word", .int wv), ("line", .int lv)]) ∧ ∀ l t H', Same H H' → H' l = some (.lst [.ref t]) → SqT K H' t [.str "text", .int lv, .int wv] → H l = none → Q (.ref l) H') ∨
   (∃ dd v dat, cls = .ref CR ∧ d = some dd ∧ H dd = some (.xd [("row", v), ("what", .str "value")]) ∧ RD K H v dat ∧ ∀ l t H', Same H H' → H' l = some (.lst [.ref t]) → SqT K H' t [.str "row", .str "value", .str dat.shown] → H l = none → Q (.ref l) H'))
theorem kindsT (Z : Zb mg) (hC : L2.ExcC K C) (XT : XfC K C) (N_line : PySem.W.findIn K (.ref C) "line" = some none) (N_word : PySem.W.findIn K (.ref C) "word" = some none) {a_BadNumber : Addr} (G_BadNumber : mg "BadNumber" = some (.ref a_BadNumber)) (k_BadNumber : PySem.W.kitOne K (.ref C) (.ref a_BadNumber) = some false) {a_BadRow : Addr} (G_BadRow : mg "BadRow" = some (.ref a_BadRow)) (k_BadRow : PySem.W.kitOne K (.ref C) (.ref a_BadRow) = some false) {a_BadTable : Addr} (G_BadTable : mg "BadTable" = some (.ref a_BadTable)) (k_BadTable : PySem.W.kitOne K (.ref C) (.ref a_BadTable) = some false) {a_BadPoly : Addr} (G_BadPoly : mg "BadPoly" = some (.ref a_BadPoly)) (k_BadPoly : PySem.W.kitOne K (.ref C) (.ref a_BadPoly) = some false) {a_BadPaper : Addr} (G_BadPaper : mg "BadPaper" = some (.ref a_BadPaper)) (k_BadPaper : PySem.W.kitOne K (.ref C) (.ref a_BadPaper) = some false) {a_BadName : Addr} (G_BadName : mg "BadName" = some (.ref a_BadName)) (k_BadName : PySem.W.kitOne K (.ref C) (.ref a_BadName) = some false) {a_BadText : Addr} (G_BadText : mg "BadText" = some (.ref a_BadText)) (k_BadText : PySem.W.kitOne K (.ref C) (.ref a_BadText) = some true) {a_NoPlace : Addr} (G_NoPlace : mg "NoPlace" = some (.ref a_NoPlace)) (k_NoPlace : PySem.W.kitOne K (.ref C) (.ref a_NoPlace) = some false) (c_law_more_kinds : CalE P w K mg base 1 "_law_more_kinds" (fun a cls d vs H Q E => cls = .ref C ∧ sp_more a cls d vs H Q E))
    {cdv : Value} {A : Around} {outer : List Env} {s : Shared} {H : Hp} {Q : VK} {E : XK} {a : Addr} {oe : Obj} {dd : Addr} {lv wv : Int} (hh : HE A [(a, oe)] a (.ref C) (some dd)) (hg : A.guards = some []) (hr : L2H.RoomH 1 (A.deeper (envOfC "_law_kinds" (C8.fnScope s_law_kinds) s.heap.objs.size f cdv)))
    (hdd : H dd = some (.xd [("word", .int wv), ("line", .int lv)])) (q : ∀ l t H', Same H H' → H' l = some (.lst [.ref t]) → SqT K H' t [.str "text", .int lv, .int wv] → H l = none → Q (.ref l) H') :
    ∃ t, PSs (L2H.cxH (L2N.CX P w) P w K mg base ["e", "found"] "_law_kinds" (C8.fnScope s_law_kinds) f cdv A outer s H E (a, oe)) (C8.fnBody s_law_kinds) t ∧ t { nx := fun _ H' => Q .non H', rt := Q } (L2.start ["e", "found"] [.ref a]) H := by
  have nd := sc_law_kinds.nd
  replace hh : HE (A.deeper (envOfC "_law_kinds" (C8.fnScope s_law_kinds) s.heap.objs.size f cdv)) [(a, oe)] a (.ref C) (some dd) := ⟨hh.ex⟩
  refine ⟨_, (pss_cons (ps_set (i := 1) nd rfl (Or.inl rfl) (pe_lst pa_nil))
    (pss_cons (ps_if (pt_val (pe_callB (call_isX hh hC) rfl Z.isinstance PyProof.Rows.boot_isinstance (pa_cons (pv 0) (pa_cons (pe_ref rfl G_BadNumber) pa_nil)))) pss_never pss_nil)
    (pss_cons (ps_if (pt_val (pe_callB (call_isX hh hC) rfl Z.isinstance PyProof.Rows.boot_isinstance (pa_cons (pv 0) (pa_cons (pe_ref rfl G_BadRow) pa_nil)))) pss_never pss_nil)
    (pss_cons (ps_if (pt_val (pe_callB (call_isX hh hC) rfl Z.isinstance PyProof.Rows.boot_isinstance (pa_cons (pv 0) (pa_cons (pe_ref rfl G_BadTable) pa_nil)))) pss_never pss_nil)
    (pss_cons (ps_if (pt_val (pe_callB (call_isX hh hC) rfl Z.isinstance PyProof.Rows.boot_isinstance (pa_cons (pv 0) (pa_cons (pe_ref rfl G_BadPoly) pa_nil)))) pss_never pss_nil)
    (pss_cons (ps_if (pt_val (pe_callB (call_isX hh hC) rfl Z.isinstance PyProof.Rows.boot_isinstance (pa_cons (pv 0) (pa_cons (pe_ref rfl G_BadPaper) pa_nil)))) pss_never pss_nil)
    (pss_cons (ps_if (pt_val (pe_callB (call_isX hh hC) rfl Z.isinstance PyProof.Rows.boot_isinstance (pa_cons (pv 0) (pa_cons (pe_ref rfl G_BadName) pa_nil)))) pss_never pss_nil)
    (pss_cons (ps_if (pt_val (pe_callB (call_isX hh hC) rfl Z.isinstance PyProof.Rows.boot_isinstance (pa_cons (pv 0) (pa_cons (pe_ref rfl G_BadText) pa_nil)))) (pss_one (ps_expr (pe_bm PySem.F.plainAttrs_list PySem.F.slot_list_append PySem.F.type_list_append mt_append (pv 1) (pa_cons (pe_tup (pa_cons pe_str (pa_cons (pe_xfE XT N_line hh (pv 0)) (pa_cons (pe_xfE XT N_word hh (pv 0)) pa_nil)))) pa_nil)))) pss_nil)
    (pss_cons (ps_if (pt_val (pe_callB (call_isX hh hC) rfl Z.isinstance PyProof.Rows.boot_isinstance (pa_cons (pv 0) (pa_cons (pe_ref rfl G_NoPlace) pa_nil)))) pss_never pss_nil)
    (pss_one (ps_ret (pe_op op_cat (pv 1) (pe_xE c_law_more_kinds hr (by(decide)) hg hh tkh rfl (pa_cons (pv 0) pa_nil)))))))))))))), ?_⟩
  walk_at "r"
  refine ⟨sz (by decide), fun p np => ?_⟩
  have e1 := same_new np (.lst [])
  have hd2 := e1 _ _ hdd
  refine isx_no k_BadNumber hd2 ?_; refine isx_no k_BadRow hd2 ?_; refine isx_no k_BadTable hd2 ?_; refine isx_no k_BadPoly hd2 ?_; refine isx_no k_BadPaper hd2 ?_; refine isx_no k_BadName hd2 ?_;
  refine isx_yes k_BadText hd2 ?_
  refine ⟨tyL upd_same, _, hd2, _, rfl, _, hd2, _, rfl, sz (by decide), fun p1 np1 => ?_⟩
  have e2 := e1.trans (same_new np1 (.tup [V.str (Str.ofString "text"), .int lv, .int wv]))
  have hp : (upd (upd H p (.lst [])) p1 (.tup [V.str (Str.ofString "text"), .int lv, .int wv])) p = some (.lst []) := (same_new np1 _) _ _ upd_same
  have nep : p ≠ p1 := fun z => by rw [← z, upd_same] at np1; cases np1
  refine ⟨p, _, _, rfl, rfl, hp, szL (by decide), ?_⟩
  have e3 := Same.upd (o := .lst ([] ++ [V.ref p1])) e2 np
  refine isx_no k_NoPlace (e3 _ _ hdd) ?_
  refine ⟨rfl, C, dd, _, rfl, rfl, e3 _ _ hdd, fun l H' e4 hl nl => ?_⟩
  refine ⟨p, l, _, _, rfl, rfl, e4 _ _ upd_same, hl, sz (show 1 ≤ 1000000 by decide), fun y ny => ?_⟩
  have e5 := same_new ny (.lst ([] ++ [V.ref p1] ++ []))
  refine q y p1 _ ((e3.trans e4).trans e5) upd_same (.inl (.inl (e5 _ _ (e4 _ _ (by rw [upd_ne (Ne.symm nep), upd_same]))))) (same_none (e3.trans e4) ny)
theorem kindsR (Z : Zb mg) (hC : L2.ExcC K C) (XT : XfC K C) (N_what : PySem.W.findIn K (.ref C) "what" = some none) (N_row : PySem.W.findIn K (.ref C) "row" = some none) {a_BadNumber : Addr} (G_BadNumber : mg "BadNumber" = some (.ref a_BadNumber)) (k_BadNumber : PySem.W.kitOne K (.ref C) (.ref a_BadNumber) = some false) {a_BadRow : Addr} (G_BadRow : mg "BadRow" = some (.ref a_BadRow)) (k_BadRow : PySem.W.kitOne K (.ref C) (.ref a_BadRow) = some true) {a_BadTable : Addr} (G_BadTable : mg "BadTable" = some (.ref a_BadTable)) (k_BadTable : PySem.W.kitOne K (.ref C) (.ref a_BadTable) = some false) {a_BadPoly : Addr} (G_BadPoly : mg "BadPoly" = some (.ref a_BadPoly)) (k_BadPoly : PySem.W.kitOne K (.ref C) (.ref a_BadPoly) = some false) {a_BadPaper : Addr} (G_BadPaper : mg "BadPaper" = some (.ref a_BadPaper)) (k_BadPaper : PySem.W.kitOne K (.ref C) (.ref a_BadPaper) = some false) {a_BadName : Addr} (G_BadName : mg "BadName" = some (.ref a_BadName)) (k_BadName : PySem.W.kitOne K (.ref C) (.ref a_BadName) = some false) {a_BadText : Addr} (G_BadText : mg "BadText" = some (.ref a_BadText)) (k_BadText : PySem.W.kitOne K (.ref C) (.ref a_BadText) = some false) {a_NoPlace : Addr} (G_NoPlace : mg "NoPlace" = some (.ref a_NoPlace)) (k_NoPlace : PySem.W.kitOne K (.ref C) (.ref a_NoPlace) = some false) (c_law_more_kinds : CalE P w K mg base 1 "_law_more_kinds" (fun a cls d vs H Q E => cls = .ref C ∧ sp_more a cls d vs H Q E))
    {cdv : Value} {A : Around} {outer : List Env} {s : Shared} {H : Hp} {Q : VK} {E : XK} {a : Addr} {oe : Obj} {dd : Addr} {v : V} {dat : PyData} (hh : HE A [(a, oe)] a (.ref C) (some dd)) (hg : A.guards = some []) (hr : L2H.RoomH 1 (A.deeper (envOfC "_law_kinds" (C8.fnScope s_law_kinds) s.heap.objs.size f cdv)))
    (hdd : H dd = some (.xd [("row", v), ("what", .str "value")])) (hrd : RD K H v dat) (q : ∀ l t H', Same H H' → H' l = some (.lst [.ref t]) → SqT K H' t [.str "row", .str "value", .str dat.shown] → H l = none → Q (.ref l) H') :
    ∃ t, PSs (L2H.cxH (L2N.CX P w) P w K mg base ["e", "found"] "_law_kinds" (C8.fnScope s_law_kinds) f cdv A outer s H E (a, oe)) (C8.fnBody s_law_kinds) t ∧ t { nx := fun _ H' => Q .non H', rt := Q } (L2.start ["e", "found"] [.ref a]) H := by
  have nd := sc_law_kinds.nd
  replace hh : HE (A.deeper (envOfC "_law_kinds" (C8.fnScope s_law_kinds) s.heap.objs.size f cdv)) [(a, oe)] a (.ref C) (some dd) := ⟨hh.ex⟩
  refine ⟨_, (pss_cons (ps_set (i := 1) nd rfl (Or.inl rfl) (pe_lst pa_nil))
    (pss_cons (ps_if (pt_val (pe_callB (call_isX hh hC) rfl Z.isinstance PyProof.Rows.boot_isinstance (pa_cons (pv 0) (pa_cons (pe_ref rfl G_BadNumber) pa_nil)))) pss_never pss_nil)
    (pss_cons (ps_if (pt_val (pe_callB (call_isX hh hC) rfl Z.isinstance PyProof.Rows.boot_isinstance (pa_cons (pv 0) (pa_cons (pe_ref rfl G_BadRow) pa_nil)))) (pss_one (ps_expr (pe_bm PySem.F.plainAttrs_list PySem.F.slot_list_append PySem.F.type_list_append mt_append (pv 1) (pa_cons (pe_tup (pa_cons pe_str (pa_cons (pe_xfE XT N_what hh (pv 0)) (pa_cons (pe_callB (call_reprD hg (u30 hr)) rfl Z.repr PyProof.Rows.boot_repr (pa_cons (pe_xfE XT N_row hh (pv 0)) pa_nil)) pa_nil)))) pa_nil)))) pss_nil)
    (pss_cons (ps_if (pt_val (pe_callB (call_isX hh hC) rfl Z.isinstance PyProof.Rows.boot_isinstance (pa_cons (pv 0) (pa_cons (pe_ref rfl G_BadTable) pa_nil)))) pss_never pss_nil)
    (pss_cons (ps_if (pt_val (pe_callB (call_isX hh hC) rfl Z.isinstance PyProof.Rows.boot_isinstance (pa_cons (pv 0) (pa_cons (pe_ref rfl G_BadPoly) pa_nil)))) pss_never pss_nil)
    (pss_cons (ps_if (pt_val (pe_callB (call_isX hh hC) rfl Z.isinstance PyProof.Rows.boot_isinstance (pa_cons (pv 0) (pa_cons (pe_ref rfl G_BadPaper) pa_nil)))) pss_never pss_nil)
    (pss_cons (ps_if (pt_val (pe_callB (call_isX hh hC) rfl Z.isinstance PyProof.Rows.boot_isinstance (pa_cons (pv 0) (pa_cons (pe_ref rfl G_BadName) pa_nil)))) pss_never pss_nil)
    (pss_cons (ps_if (pt_val (pe_callB (call_isX hh hC) rfl Z.isinstance PyProof.Rows.boot_isinstance (pa_cons (pv 0) (pa_cons (pe_ref rfl G_BadText) pa_nil)))) pss_never pss_nil)
    (pss_cons (ps_if (pt_val (pe_callB (call_isX hh hC) rfl Z.isinstance PyProof.Rows.boot_isinstance (pa_cons (pv 0) (pa_cons (pe_ref rfl G_NoPlace) pa_nil)))) pss_never pss_nil)
    (pss_one (ps_ret (pe_op op_cat (pv 1) (pe_xE c_law_more_kinds hr (by(decide)) hg hh tkh rfl (pa_cons (pv 0) pa_nil)))))))))))))), ?_⟩
  walk_at "r"
  refine ⟨sz (by decide), fun p np => ?_⟩
  have e1 := same_new np (.lst [])
  have hd2 := e1 _ _ hdd
  refine isx_no k_BadNumber hd2 ?_;
  refine isx_yes k_BadRow hd2 ?_
  refine ⟨tyL upd_same, _, hd2, _, rfl, _, hd2, _, rfl, dat, hrd.same e1, sz (by decide), fun p1 np1 => ?_⟩
  have e2 := e1.trans (same_new np1 (.tup [V.str (Str.ofString "row"), .str (Str.ofString "value"), .str dat.shown]))
  have hp : (upd (upd H p (.lst [])) p1 (.tup [V.str (Str.ofString "row"), .str (Str.ofString "value"), .str dat.shown])) p = some (.lst []) := (same_new np1 _) _ _ upd_same
  have nep : p ≠ p1 := fun z => by rw [← z, upd_same] at np1; cases np1
  refine ⟨p, _, _, rfl, rfl, hp, szL (by decide), ?_⟩
  have e3 := Same.upd (o := .lst ([] ++ [V.ref p1])) e2 np
  refine isx_no k_BadTable (e3 _ _ hdd) ?_; refine isx_no k_BadPoly (e3 _ _ hdd) ?_; refine isx_no k_BadPaper (e3 _ _ hdd) ?_; refine isx_no k_BadName (e3 _ _ hdd) ?_; refine isx_no k_BadText (e3 _ _ hdd) ?_; refine isx_no k_NoPlace (e3 _ _ hdd) ?_;
  refine ⟨rfl, C, dd, _, rfl, rfl, e3 _ _ hdd, fun l H' e4 hl nl => ?_⟩
  refine ⟨p, l, _, _, rfl, rfl, e4 _ _ upd_same, hl, sz (show 1 ≤ 1000000 by decide), fun y ny => ?_⟩
  have e5 := same_new ny (.lst ([] ++ [V.ref p1] ++ []))
  refine q y p1 _ ((e3.trans e4).trans e5) upd_same (.inl (.inl (e5 _ _ (e4 _ _ (by rw [upd_ne (Ne.symm nep), upd_same]))))) (same_none (e3.trans e4) ny)
end
end FP
set_option maxHeartbeats 1000000
namespace FP
open PySem PySem.Spec PyProof.Rows L2
local macro_rules | `(tactic| walk_at "rd") => `(tactic| dsimp only [tVar, tC, tCmp, tIsN, tNotN, tB, tAnd, tOr, tNot, tAndV, tOrV, tNotV, tIf, tNext, tSeq, tBreak, tCont, tDrop, tRet, tRetN, tIfS, tNever, tAsg, tPar, tAug, tOp, tUn, tTest, tChain, tFld, tNil, tCons, tTup, tLst, tCB, iList, iTup, iStr, tLc, tM0, tM1, tPart, tNoPart, tSl, tBM, tCallS, tCallSD, tMethW, tMake, sDPut, tDisp, tPairs, tXf, WE, tDGet, tDIn, gName, gTup, gCons, gNil, gSub, sFld, sFldAug, rI, rI0, rU, rEq, rNe, rAdd, rSub, t2I, tYes, cx_K, cx_w, cx_prog])
local macro_rules | `(tactic| walk_at "rs") => `(tactic| (try simp (maxSteps := 4000000) only [L2.start, List.map_cons, List.map_nil, List.length_cons, List.length_nil, List.cons_append, List.nil_append, Nat.reduceAdd, Nat.reduceSub, Nat.zero_add, List.replicate, List.getElem?_cons_zero, List.getElem?_cons_succ, Option.some.injEq, exists_eq_left', exists_eq_left, V.int.injEq, V.str.injEq, V.bl.injEq, V.ref.injEq, List.set_cons_zero, List.set_cons_succ, exists_and_left, List.cons.injEq, and_true, true_and, wipe, if_true, if_false, Bool.not_true, Bool.not_false, Bool.false_eq_true, decide_true, decide_false]))
local macro_rules | `(tactic| walk_at "r") => `(tactic| (walk_at "rd"; walk_at "rs"))
local macro_rules | `(tactic| walk_at "T") => `(tactic| (rw [if_pos (by first | assumption | rfl | decide | exact decide_eq_true (by assumption) | (simp [tyOf]; done) | (simp; omega) | omega)]; walk_at "rs"))
local macro_rules | `(tactic| walk_at "F") => `(tactic| (rw [if_neg (by first | assumption | decide | (simp [tyOf]; done) | (simp; omega) | (simp; assumption) | omega)]; walk_at "rs"))
section
variable {P : Program} {w : World} {K : PySem.W.Frag} {mg : Str → Option Value} {base : Heap} {f : Addr} {fd : FuncData}
theorem ok_kinds {CT CR : Addr} (D : C8.Def K mg "_law_kinds" s_law_kinds f fd) (b : Binds K fd ["e"] [])
    (hT : ∀ {cdv : Value} {A : Around} {outer : List Env} {s : Shared} {H : Hp} {Q : VK} {E : XK} {a : Addr} {oe : Obj} {dd : Addr} {lv wv : Int}, HE A [(a, oe)] a (.ref CT) (some dd) → A.guards = some [] → L2H.RoomH 1 (A.deeper (envOfC "_law_kinds" (C8.fnScope s_law_kinds) s.heap.objs.size f cdv)) →
      H dd = some (.xd [("word", .int wv), ("line", .int lv)]) → (∀ l t H', Same H H' → H' l = some (.lst [.ref t]) → SqT K H' t [.str "text", .int lv, .int wv] → H l = none → Q (.ref l) H') →
      ∃ t, PSs (L2H.cxH (L2N.CX P w) P w K mg base ["e", "found"] "_law_kinds" (C8.fnScope s_law_kinds) f cdv A outer s H E (a, oe)) (C8.fnBody s_law_kinds) t ∧ t { nx := fun _ H' => Q .non H', rt := Q } (L2.start ["e", "found"] [.ref a]) H)
    (hR : ∀ {cdv : Value} {A : Around} {outer : List Env} {s : Shared} {H : Hp} {Q : VK} {E : XK} {a : Addr} {oe : Obj} {dd : Addr} {v : V} {dat : PyData}, HE A [(a, oe)] a (.ref CR) (some dd) → A.guards = some [] → L2H.RoomH 1 (A.deeper (envOfC "_law_kinds" (C8.fnScope s_law_kinds) s.heap.objs.size f cdv)) →
      H dd = some (.xd [("row", v), ("what", .str "value")]) → RD K H v dat → (∀ l t H', Same H H' → H' l = some (.lst [.ref t]) → SqT K H' t [.str "row", .str "value", .str dat.shown] → H l = none → Q (.ref l) H') →
      ∃ t, PSs (L2H.cxH (L2N.CX P w) P w K mg base ["e", "found"] "_law_kinds" (C8.fnScope s_law_kinds) f cdv A outer s H E (a, oe)) (C8.fnBody s_law_kinds) t ∧ t { nx := fun _ H' => Q .non H', rt := Q } (L2.start ["e", "found"] [.ref a]) H) : CalE P w K mg base 2 "_law_kinds" (sp_kinds K CT CR) := by
  refine ⟨f, fd, ["e"], fnE_of D.fn sc_law_kinds (fun a cls d vs H Q E h => by rw [h.1]; rfl) fun cdv A outer s H vs Q E a oe cls d hh hg hr h => ?_, D.mgf, D.kp, b⟩
  obtain ⟨rfl, ⟨dd, lv, wv, rfl, rfl, hdd, q⟩ | ⟨dd, v, dat, rfl, rfl, hdd, rd, q⟩⟩ := h
  · exact hT hh hg hr hdd q
  · exact hR hh hg hr hdd rd q
end
/-- isinstance, the class told by the reading -/
theorem call_isG {X : Cx} {a : Addr} {cls : Value} {d : Option Addr} (hh : HE X.A X.pn a cls d) : CallR X (.builtin "isinstance") (fun xs H Q => ∃ (C : Addr) (c : V) (cv : Value) (b : Bool) (dd : Addr) (fs : List (Str × V)), cls = .ref C ∧ L2.ExcC X.K C ∧ xs = [.ref a, c] ∧ (∀ u, RelV c u → u = cv) ∧ PySem.W.kitOne X.K (.ref C) cv = some b ∧ d = some dd ∧ H dd = some (.xd fs) ∧ Q (.bl b) H) := by
  intro pins s σ H xs us Q I r ⟨C, c, cv, b, dd, fs, ec, hC, h⟩
  subst ec
  exact call_isX hh hC pins s σ H xs us Q I r ⟨c, cv, b, dd, fs, h⟩
/-- what the fault's def makes of an error -/
def FltE (K : PySem.W.Frag) (CT CR : Addr) (Q : VK) : XK := fun cls d H' =>
  (∃ dd lv wv, cls = .ref CT ∧ d = some dd ∧ H' dd = some (.xd [("word", .int wv), ("line", .int lv)]) ∧ ∀ t H2, Same H' H2 → SqT K H2 t [.str "text", .int lv, .int wv] → Q (.ref t) H2) ∨
  (∃ dd v dat, cls = .ref CR ∧ d = some dd ∧ H' dd = some (.xd [("row", v), ("what", .str "value")]) ∧ RD K H' v dat ∧ ∀ t H2, Same H' H2 → SqT K H2 t [.str "row", .str "value", .str dat.shown] → Q (.ref t) H2)
def rIsG (K : PySem.W.Frag) (a : Addr) (cls : Value) (d : Option Addr) : List V → Hp → VK → Prop := fun xs H Q => ∃ (C : Addr) (c : V) (cv : Value) (b : Bool) (dd : Addr) (fs : List (Str × V)), cls = .ref C ∧ L2.ExcC K C ∧ xs = [.ref a, c] ∧ (∀ u, L2.RelV c u → u = cv) ∧ PySem.W.kitOne K (.ref C) cv = some b ∧ d = some dd ∧ H dd = some (.xd fs) ∧ Q (.bl b) H
def rLn (K : PySem.W.Frag) : List V → Hp → VK → Prop := fun xs H Q => ∃ x n, xs = [x] ∧ LenV K x H n ∧ Q (.int (n : Nat)) H
def tSuite (K : PySem.W.Frag) (CT CR : Addr) (a : Addr) (cls : Value) (d : Option Addr) : TS :=
  tSeq (tAsg (tCallS (sp_kinds K CT CR a cls d) (WE fun _ _ _ _ => False) (tCons (tVar 2) tNil)) (gName 1))
    (tAsg (tIf (tAnd (tTest (tOp rEq (tCB (rLn K) (tCons (tVar 1) tNil)) (tC (.int 1)))) (tB (tCB (rIsG K a cls d) (tCons (tVar 2) (tCons (tC (.ty "ValueError")) tNil))))) (tOp (rIxL K) (tVar 1) (tC (.int 0))) (tTup (tCons (tC (.str "several")) (tCons (tCB (rLn K) (tCons (tVar 1) tNil)) tNil)))) (gName 1))
def TTflt (K : PySem.W.Frag) (CT CR : Addr) : (XK → Hp → VK → Prop) → Hp → VK → Prop := fun tl H Q => ∀ E : XK, (∀ cls d H', FltE K CT CR Q cls d H' → E cls d H') → tl E H (fun _ H' => Q .non H')
theorem flt_gives {X : Cx} {CT CR CF : Addr} {q : Str} {g : Addr} {cdg : Value} (Z : Zb X.mg) (hg : X.A.guards = some []) (G_FieldError : X.mg "FieldError" = some (.ref CF)) (xT : PySem.W.exmOne X.K (.ref CT) (.ref CF) = some true) (xR : PySem.W.exmOne X.K (.ref CR) (.ref CF) = some true)
    (hCT : L2.ExcC X.K CT) (hCR : L2.ExcC X.K CR) (vT : PySem.W.kitOne X.K (.ref CT) (.type "ValueError") = some true) (vR : PySem.W.kitOne X.K (.ref CR) (.type "ValueError") = some true) (nV : X.mg "ValueError" = none)
    (c_law_kinds : CalE X.prog X.w X.K X.mg X.base 2 "_law_kinds" (sp_kinds X.K CT CR)) :
    ∀ {k : Nat}, 2 ≤ k → GivesN X ["call", "found", "e"] "_law_fault" (C8.fnScope s_law_fault) g cdg (C8.fnBody s_law_fault) "call" q (TTflt X.K CT CR) k := by
  intro k hk f c s H Q tl hr act hc h
  have nd := sc_law_fault.nd
  refine ⟨_, pss_cons (ps_set (i := 1) nd rfl (Or.inl rfl) pe_non) (pss_cons (L2N.ps_try_as (X := (cxOf C8.CX0 X.prog X.w X.K X.mg X.base ["call", "found", "e"] "_law_fault" (C8.fnScope s_law_fault) g cdg X.A X.stack s H C8.E0).nox) (i := 2) (c := .ref CF) (ts := tSuite X.K CT CR) rfl rfl nd rfl rfl ⟨rfl, by decide, .inl G_FieldError⟩ tk0
      (fun W pn xe tk _ => pss_one (ps_expr (act W pn xe _ _ tk)))
      (fun a oe cls d pn hz hf => pss_cons (ps_set (i := 1) nd rfl (Or.inl rfl) (pe_xE c_law_kinds (L2H.RoomH.mk (k := k + 1) hr.dp hr.un) (by omega) hg (HE.suite hz hf) tk0 rfl (pa_cons (pv 2) pa_nil)))
        (pss_one (ps_set (i := 1) nd rfl (Or.inl rfl) (pe_ifExp (PW.pt (pw_and (pt_cmpR op_eq (pe_callB (r := rLn X.K) call_len rfl Z.len PySem.boot_len (pa_cons (pv 1) pa_nil)) pe_int (nomark _)) (pw_and1 (pt_val (pe_callB (r := rIsG X.K a cls d) (call_isG (HE.suite hz hf)) rfl Z.isinstance PyProof.Rows.boot_isinstance (pa_cons (pv 2) (pa_cons (pe_ty rfl nV (by decide +kernel)) pa_nil)))))))
          (pe_ix ix_list (pv 1) pe_int (fun _ _ => rfl)) (pe_tup (pa_cons pe_str (pa_cons (pe_callB (r := rLn X.K) call_len rfl Z.len PySem.boot_len (pa_cons (pv 1) pa_nil)) pa_nil)))))))) (pss_one (ps_ret (pv 1)))), ?_⟩
  walk_at "r"
  refine ⟨hc, h _ fun cls d H' hf => ?_⟩
  rcases hf with ⟨dd, lv, wv, rfl, rfl, hdd, k⟩ | ⟨dd, v, dat, rfl, rfl, hdd, rd, k⟩
  · refine ⟨true, xT, fun _ a na => ?_, fun z => nomatch z⟩
    unfold tSuite
    walk_at "r"
    refine ⟨rfl, .inl ⟨dd, lv, wv, rfl, rfl, hdd, fun l t H2 e2 hl ht nl => ?_⟩⟩
    refine ⟨_, 1, rfl, .inl ⟨_, .inl (.inl hl), rfl⟩, rfl, ?_⟩
    rw [if_pos (by decide)]
    refine ⟨CT, _, .type "ValueError", true, dd, _, rfl, hCT, rfl, fun _ z => z, vT, rfl, e2 _ _ hdd, true, rfl, ?_⟩
    rw [if_pos rfl]
    exact ixL (.inl (.inl hl)) (atI_nat (j := 0) rfl) (k t H2 e2 ht)
  · refine ⟨true, xR, fun _ a na => ?_, fun z => nomatch z⟩
    unfold tSuite
    walk_at "r"
    refine ⟨rfl, .inr ⟨dd, v, dat, rfl, rfl, hdd, rd, fun l t H2 e2 hl ht nl => ?_⟩⟩
    refine ⟨_, 1, rfl, .inl ⟨_, .inl (.inl hl), rfl⟩, rfl, ?_⟩
    rw [if_pos (by decide)]
    refine ⟨CR, _, .type "ValueError", true, dd, _, rfl, hCR, rfl, fun _ z => z, vR, rfl, e2 _ _ hdd, true, rfl, ?_⟩
    rw [if_pos rfl]
    exact ixL (.inl (.inl hl)) (atI_nat (j := 0) rfl) (k t H2 e2 ht)
end FP
set_option maxHeartbeats 1000000
namespace FP
open PySem PySem.Spec PyProof.Rows L2
local macro_rules | `(tactic| walk_at "rd") => `(tactic| dsimp only [tVar, tC, tCmp, tIsN, tNotN, tB, tAnd, tOr, tNot, tAndV, tOrV, tNotV, tIf, tNext, tSeq, tBreak, tCont, tDrop, tRet, tRetN, tIfS, tNever, tAsg, tPar, tAug, tOp, tUn, tTest, tChain, tFld, tNil, tCons, tTup, tLst, tCB, iList, iTup, iStr, tLc, tM0, tM1, tPart, tNoPart, tSl, tBM, tCallS, tCallSD, tMethW, tMake, sDPut, tDisp, tPairs, tXf, WE, tDGet, tDIn, gName, gTup, gCons, gNil, gSub, sFld, sFldAug, rI, rI0, rU, rEq, rNe, rAdd, rSub, t2I, tYes, cx_K, cx_w, cx_prog])
local macro_rules | `(tactic| walk_at "rs") => `(tactic| (try simp (maxSteps := 4000000) only [L2.start, List.map_cons, List.map_nil, List.length_cons, List.length_nil, List.cons_append, List.nil_append, Nat.reduceAdd, Nat.reduceSub, Nat.zero_add, List.replicate, List.getElem?_cons_zero, List.getElem?_cons_succ, Option.some.injEq, exists_eq_left', exists_eq_left, V.int.injEq, V.str.injEq, V.bl.injEq, V.ref.injEq, List.set_cons_zero, List.set_cons_succ, exists_and_left, List.cons.injEq, and_true, true_and, wipe, if_true, if_false, Bool.not_true, Bool.not_false, Bool.false_eq_true, decide_true, decide_false]))
local macro_rules | `(tactic| walk_at "r") => `(tactic| (walk_at "rd"; walk_at "rs"))
local macro_rules | `(tactic| walk_at "T") => `(tactic| (rw [if_pos (by first | assumption | rfl | decide | exact decide_eq_true (by assumption) | (simp [tyOf]; done) | (simp; omega) | omega)]; walk_at "rs"))
local macro_rules | `(tactic| walk_at "F") => `(tactic| (rw [if_neg (by first | assumption | decide | (simp [tyOf]; done) | (simp; omega) | (simp; assumption) | omega)]; walk_at "rs"))
/-! ### _law_is -/
/-- whole numbers, texts, tuples of such -/
inductive Fl : Nat → PyData → Prop
  | int {n : Nat} (i : Int) : Fl n (.int i)
  | str {n : Nat} (x : Str) : Fl n (.str x)
  | tup {n : Nat} {ds : List PyData} : (∀ d, d ∈ ds → Fl n d) → ds.length ≤ 1000 → Fl (n + 1) (.tuple ds)
theorem op_isC {X : Cx} : OpR X (compareOp .Is) (fun x y H Q => (∃ b, y = .bl b) ∧ ((∃ i, x = .int i) ∨ ∃ z, x = .str z) ∧ Q (.bl false) H) := by
  intro pins s σ H x y v u Q I rx ry ⟨⟨b, ey⟩, ex, q⟩
  subst ey
  cases (show u = Value.bool b from ry)
  rcases ex with ⟨i, rfl⟩ | ⟨z, rfl⟩
  · obtain ⟨t, rfl⟩ := (show ∃ t, v = Value.int i t from rx)
    exact wpAny_is_other rfl (fun z => nomatch z) ⟨.bl false, H, I, rfl, q⟩
  · obtain ⟨t, rfl⟩ := (show ∃ t, v = Value.str z t from rx)
    exact wpAny_is_other rfl (fun z => nomatch z) ⟨.bl false, H, I, rfl, q⟩
theorem walk_rngY {n : Nat} : Walk (Itr 0 n) ((List.range n).map fun i => V.int (i : Nat)).length (fun _ => True) (YAt ((List.range n).map fun i => V.int (i : Nat))) := by
  have w : Walk (Itr 0 n) n (fun _ => True) (YFn fun i => .int (0 + i)) := walk_range
  rw [List.length_map, List.length_range]
  refine w.mono (fun _ h => h) fun i H x H' hi _ y => ⟨y.1, ?_⟩
  rw [List.getElem?_map, List.getElem?_range hi, y.2]
  show some (V.int _) = some (V.int _)
  rw [Int.zero_add]
theorem fltL_none : ∀ (xs : List V) (bs : List Bool), (∀ b, b ∈ bs → b = false) → fltL xs bs = []
  | [], [], _ => rfl
  | [], _ :: _, _ => rfl
  | _ :: _, [], _ => rfl
  | x :: xs, b :: bs, h => by
    show (if b = true then x :: fltL xs bs else fltL xs bs) = []
    rw [h b List.mem_cons_self, if_neg Bool.false_ne_true]
    exact fltL_none xs bs fun c hc => h c (List.mem_cons_of_mem _ hc)
section
variable {P : Program} {w : World} {K : PySem.W.Frag} {mg : Str → Option Value} {base : Heap} {f : Addr} {fd : FuncData}
def sp_law_is (K : PySem.W.Frag) (n : Nat) : Sp := fun vs H Q _ => ∃ v u d, vs = [v, u] ∧ Dp K H v d ∧ Dp K H u d ∧ Fl n d ∧ ∀ H', Same H H' → Q (.bl true) H'
theorem fn_law_is (Z : Zb mg) (D : C8.Def K mg "_law_is" s_law_is f fd) (b : Binds K fd ["told", "due"] []) {n : Nat} (c_law_is : CalX P w K mg base n "_law_is" (fun vs H Q E => 0 < n ∧ sp_law_is K (n - 1) vs H Q E)) : CalX P w K mg base (n + 1) "_law_is" (sp_law_is K n) := by
  have nd := sc_law_is.nd
  refine calX D b sc_law_is (fun vs H Q E h => by obtain ⟨v, u, d, rfl, _⟩ := h; rfl) fun cdv A outer s H vs Q E hr h => ?_
  obtain ⟨v, u, d, rfl, hv, hu, fl, q⟩ := h
  refine ⟨_, (pss_cons (ps_if (pt_val (pe_callB call_isi rfl Z.isinstance PyProof.Rows.boot_isinstance (pa_cons (pv 1) (pa_cons (pe_ty rfl Z.tuple PyProof.Rows.boot_tuple) pa_nil)))) (pss_cons (ps_if (PW.pt (pw_or (pt_not (pt_val (pe_callB call_isi rfl Z.isinstance PyProof.Rows.boot_isinstance (pa_cons (pv 0) (pa_cons (pe_ty rfl Z.tuple PyProof.Rows.boot_tuple) pa_nil))))) (pw_or1 (pt_cmpR op_ne (pe_callB call_len rfl Z.len PySem.boot_len (pa_cons (pv 0) pa_nil)) (pe_callB call_len rfl Z.len PySem.boot_len (pa_cons (pv 1) pa_nil)) (nomark _))))) (pss_one (ps_ret pe_bl)) pss_nil)
    (pss_one (ps_ret (pe_cmpR (op_eqD (u64 hr)) (pe_lc (own := [("at", 2)]) rfl nd (pi_range1 rfl Z.range (pa_cons (pe_callB call_len rfl Z.len PySem.boot_len (pa_cons (pv 1) pa_nil)) pa_nil)) (blkOk_by (N := ["told", "due", "at"]) (sc := C8.fnScope s_law_is) (by decide +kernel)) (fun _ _ _ _ _ => (pg_name (i := 2) nd rfl (Or.inl rfl))) (fun _ _ _ _ _ => pts_one (pt_not (pt_val (pe_x c_law_is hr (by(omega)) tk0 rfl (pa_cons (pe_ix (r := rIxT K) ix_tup (pv 0) (pv 2) (fun _ _ => rfl)) (pa_cons (pe_ix (r := rIxT K) ix_tup (pv 1) (pv 2) (fun _ _ => rfl)) pa_nil)))))) (fun _ _ _ _ _ => (pv 2))) (pe_lst pa_nil) (nomark _))))) pss_nil)
    (pss_cons (ps_if (pt_cmp (pc_isN (pv 1))) (pss_one (ps_ret (pe_cmp (pc_isN (pv 0))))) pss_nil)
    (pss_cons (ps_if (pt_cmpR op_isC (pv 1) pe_bl (nomark _)) (pss_one (ps_ret (pe_cmpR op_isC (pv 0) pe_bl (nomark _)))) pss_nil)
    (pss_cons (ps_if (pt_cmpR op_isC (pv 1) pe_bl (nomark _)) (pss_one (ps_ret (pe_cmpR op_isC (pv 0) pe_bl (nomark _)))) pss_nil)
    (pss_cons (ps_if (pt_val (pe_callB call_isi rfl Z.isinstance PyProof.Rows.boot_isinstance (pa_cons (pv 1) (pa_cons (pe_ty rfl Z.str PyProof.Rows.boot_str) pa_nil)))) (pss_one (ps_ret (pe_and (pe_callB call_isi rfl Z.isinstance PyProof.Rows.boot_isinstance (pa_cons (pv 0) (pa_cons (pe_ty rfl Z.str PyProof.Rows.boot_str) pa_nil))) (pe_one (pe_cmpR op_eq (pv 0) (pv 1) (nomark _)))))) pss_nil)
    (pss_one (ps_ret (pe_and (pe_callB call_isi rfl Z.isinstance PyProof.Rows.boot_isinstance (pa_cons (pv 0) (pa_cons (pe_ty rfl Z.int PyProof.Rows.boot_int) pa_nil))) (pe_and (pe_not (pe_callB call_isi rfl Z.isinstance PyProof.Rows.boot_isinstance (pa_cons (pv 0) (pa_cons (pe_ty rfl Z.bool PyProof.Rows.boot_bool) pa_nil)))) (pe_one (pe_cmpR op_eq (pv 0) (pv 1) (nomark _)))))))))))), ?_⟩
  walk_at "r"
  cases fl with
  | int i =>
    have eu := Dp.intI hu
    have ev := Dp.intI hv
    subst eu ev
    refine isi_tuple (Dp.kd hu) ⟨false, rfl, ?_⟩
    rw [if_neg (by decide), if_neg (by intro z; exact nomatch of_decide_eq_true z)]
    refine ⟨⟨_, rfl⟩, .inl ⟨_, rfl⟩, ⟨_, rfl⟩, .inl ⟨_, rfl⟩, isi_str (Dp.kd hu) ⟨false, rfl, ?_⟩⟩
    rw [if_neg (by decide)]
    refine isi_int (Dp.kd hv) ⟨true, rfl, ?_⟩
    rw [if_pos rfl]
    refine isi_bool (Dp.kd hv) ⟨false, rfl, ?_⟩
    rw [if_pos (by decide)]
    refine ⟨rfl, ?_⟩
    rw [decide_eq_true rfl]
    exact q _ (Same.refl _)
  | str x =>
    have eu := Dp.strI hu
    have ev := Dp.strI hv
    subst eu ev
    refine isi_tuple (Dp.kd hu) ⟨false, rfl, ?_⟩
    rw [if_neg (by decide), if_neg (by intro z; exact nomatch of_decide_eq_true z)]
    refine ⟨⟨_, rfl⟩, .inr ⟨_, rfl⟩, ⟨_, rfl⟩, .inr ⟨_, rfl⟩, isi_str (Dp.kd hu) ⟨true, rfl, ?_⟩⟩
    rw [if_pos rfl]
    refine isi_str (Dp.kd hv) ⟨true, rfl, ?_⟩
    rw [if_pos rfl]
    refine ⟨rfl, ?_⟩
    rw [decide_eq_true rfl]
    exact q _ (Same.refl _)
  | @tup m ds hds hlen =>
    refine isi_tuple (Dp.kd hu) ⟨true, rfl, ?_⟩
    rw [if_pos rfl]
    refine isi_tuple (Dp.kd hv) ⟨true, rfl, ?_⟩
    rw [if_neg (by decide)]
    obtain ⟨a, xs, rfl, ha, al⟩ := Dp.tupI hv
    obtain ⟨c, ys, rfl, hc, bl⟩ := Dp.tupI hu
    have lx := DpAll.length al
    have ly := DpAll.length bl
    refine lenT ha (lenT hc ⟨rfl, ?_⟩)
    rw [if_neg (by rw [lx, ly, decide_eq_true rfl]; decide)]
    refine ⟨_, rfl, _, rfl, _, .inr ⟨ys, hc, rfl⟩, _, rfl, by omega, by omega, ?_⟩
    intro D nD
    refine comp_flt (walk_rngY (n := ys.length)) (by rw [List.length_map, List.length_range]; exact szL (by omega)) nD (fun x H' Kc => rIxT K (.ref a) x H' fun x1 H1 => rIxT K (.ref c) x H1 fun x2 H1 => 0 < m + 1 ∧ sp_law_is K (m + 1 - 1) [x1, x2] H1 (fun x3 H1 => ∃ c, x3 = V.bl c ∧ Kc (!c) H1) _) (List.replicate ys.length false) (by simp) (fun _ _ => trivial) ?_ ?_
    · intro i x bb H2 Kc hx hb e q2
      rw [List.getElem?_map] at hx
      cases hi : (List.range ys.length)[i]? with
      | none => rw [hi] at hx; cases hx
      | some k =>
        rw [hi] at hx
        cases hx
        obtain ⟨hlt, rfl⟩ := List.getElem?_eq_some_iff.mp hi
        rw [List.length_range] at hlt
        rw [List.getElem_range]
        have hbf : bb = false := List.eq_of_mem_replicate (List.mem_of_getElem? hb)
        subst hbf
        have hdi : ds[i]? = some (ds[i]'(by omega)) := List.getElem?_eq_getElem (by omega)
        obtain ⟨x1, h1, d1⟩ := DpAll.get al hdi
        obtain ⟨x2, h2, d2⟩ := DpAll.get bl hdi
        exact ixT (SqT.same e ha) (atI_nat h1) (ixT (SqT.same e hc) (atI_nat h2) ⟨Nat.succ_pos _, x1, x2, _, rfl, Dp.same e d1, Dp.same e d2, hds _ (List.getElem_mem _), fun H' e' => ⟨true, rfl, q2 _ e'⟩⟩)
    · intro H2 e hD
      rw [fltL_none _ _ (fun b hb => List.eq_of_mem_replicate hb)] at hD
      refine ⟨sz (by decide), fun p np => ?_⟩
      have e2 := same_new np (.lst [])
      refine ⟨.list [], .list [], dp_nil (e2 _ _ hD), dp_nil upd_same, shaped_nil, shaped_nil, ?_⟩
      exact q _ (e.trans e2)
end
section
variable {P : Program} {w : World} {K : PySem.W.Frag} {mg : Str → Option Value} {base : Heap} {f : Addr} {fd : FuncData}
theorem ok_law_is (Z : Zb mg) (D : C8.Def K mg "_law_is" s_law_is f fd) (b : Binds K fd ["told", "due"] []) : ∀ n : Nat, CalX P w K mg base (n + 1) "_law_is" (sp_law_is K n)
  | 0 => fn_law_is Z D b ((CalX.none D b _).imp fun _ _ _ _ h => absurd h.1 (Nat.lt_irrefl 0))
  | n + 1 => fn_law_is Z D b ((ok_law_is Z D b n).imp fun _ _ _ _ h => h.2)
end
end FP
set_option maxHeartbeats 4000000
/-! defs whose promise is asked only where the guards are none; the law's end with such a def -/
namespace FP
open PySem PySem.Spec PyProof.Rows L2 LamX
structure FnG (P : Program) (w : World) (K : PySem.W.Frag) (mg : Str → Option Value) (base : Heap) (k : Nat) (f : Addr) (fd : FuncData) (ps : List Str) (sp : Sp) : Prop where
  len : ∀ vs H Q E, sp vs H Q E → vs.length = ps.length
  run : ∀ (A : Around) (outer : List Env) (s : Shared) (H : Hp) (args : Args) (us : List Value) (vs : List V) (Q : VK) (E : XK), A.guards = some [] → Room k A → Env0 P w K mg base A outer s H → BindsTo s fd args (ps.zip us) → Vals vs us → sp vs H Q E →
    codeAny (model P w) A (.call (.ref f) args) (CR (L2N.CX P w) outer P w H s Q E) s
structure CalG (P : Program) (w : World) (K : PySem.W.Frag) (mg : Str → Option Value) (base : Heap) (k : Nat) (x : Str) (sp : Sp) : Prop where
  ex : ∃ (f : Addr) (fd : FuncData) (ps : List Str), FnG P w K mg base k f fd ps sp ∧ mg x = some (.ref f) ∧ PySem.W.keepIn K (.ref f) = true ∧ Binds K fd ps []
section
variable {P : Program} {w : World} {K : PySem.W.Frag} {mg : Str → Option Value} {base : Heap}
/-- a def by its body, its code object known -/
theorem fnG {x qual : Str} {st : Stmt} {f c : Addr} {fd : FuncData} {N ps : List Str} {k : Nat} {sp : Sp} (F : C8.Fun K x qual st f fd) (hc : fd.code = .ref c) (S : FnScope N ps (C8.fnScope st)) (len : ∀ vs H Q E, sp vs H Q E → vs.length = ps.length)
    (hbody : ∀ (A : Around) (outer : List Env) (s : Shared) (H : Hp) (vs : List V) (Q : VK) (E : XK), A.guards = some [] → Room k (A.deeper (envOfC qual (C8.fnScope st) s.heap.objs.size f (.ref c))) → sp vs H Q E →
      ∃ t, PSs (cxOf (L2N.CX P w) P w K mg base N qual (C8.fnScope st) f (.ref c) A outer s H E) (C8.fnBody st) t ∧ t { nx := fun _ H' => Q .non H', rt := Q } (start N vs) H) : FnG P w K mg base (k + 1) f fd ps sp := by
  obtain ⟨oc, od, dV, kV, doc, pm, an, cdv, ct, osl, rfl, lk, hcd⟩ := F.ex
  cases (show cdv = .ref c from hc)
  exact ⟨len, fun A outer s H args us vs Q E hg hr e0 hb r hsp => run_ofS lk hcd S hr e0 hb r (len _ _ _ _ hsp) fun hr1 => hbody A outer s H vs Q E hg hr1 hsp⟩
theorem CalG.imp {x : Str} {k : Nat} {sp sp' : Sp} (c : CalG P w K mg base k x sp) (h : ∀ vs H Q E, sp' vs H Q E → sp vs H Q E) : CalG P w K mg base k x sp' := by
  obtain ⟨f, fd, ps, F, m, kp, b⟩ := c.ex
  exact ⟨f, fd, ps, ⟨fun vs H Q E q => F.len vs H Q E (h _ _ _ _ q), fun A outer s H args us vs Q E hg hr e bb v q => F.run A outer s H args us vs Q E hg hr e bb v (h _ _ _ _ q)⟩, m, kp, b⟩
theorem calG {x : Str} {st : Stmt} {f c : Addr} {fd : FuncData} {N ps : List Str} {k : Nat} {sp : Sp} (D : C8.Def K mg x st f fd) (hc : fd.code = .ref c) (b : Binds K fd ps []) (S : FnScope N ps (C8.fnScope st)) (len : ∀ vs H Q E, sp vs H Q E → vs.length = ps.length)
    (hbody : ∀ (A : Around) (outer : List Env) (s : Shared) (H : Hp) (vs : List V) (Q : VK) (E : XK), A.guards = some [] → Room k (A.deeper (envOfC x (C8.fnScope st) s.heap.objs.size f (.ref c))) → sp vs H Q E →
      ∃ t, PSs (cxOf (L2N.CX P w) P w K mg base N x (C8.fnScope st) f (.ref c) A outer s H E) (C8.fnBody st) t ∧ t { nx := fun _ H' => Q .non H', rt := Q } (start N vs) H) : CalG P w K mg base (k + 1) x sp :=
  ⟨f, fd, ps, fnG D.fn hc S len hbody, D.mgf, D.kp, b⟩
end
section
variable {X : Cx} {k j : Nat} {x : Str} {sp : Sp} {W : WX} {p pos : Pos} {e : Expr} {es : List Expr} {t : TA}
theorem pe_xG (c : CalG X.prog X.w X.K X.mg X.base k x sp) (hr : Room j X.A) (hk : k ≤ j) (hg : X.A.guards = some []) (tk : L2N.Takes X W) (gx : Gl X x) (ha : PA X (e :: es) t)
    (hdb : (x == ("__debug__" : Str)) = false := by decide) (he : starEach (e :: es) X.env = (false, eval e X.env) :: starEach es X.env := by rfl) (hpl : (backTo pos (starEach es X.env)).any (·.1) = false := by rfl) :
    PE X (.Call (.Name x p) (e :: es) [] pos) (tCallS sp (WE W) t) := by
  obtain ⟨f, fd, ps, F, hm, kp, b⟩ := c.ex
  refine ⟨fun pins s σ H Q I h => wpAny_Call_Name_kw (ld_glob I gx hm ?_ hdb)⟩
  refine PySem.W.callWith_K (h₀ := X.base) I.ok.mod.kin kp (thn (ha.run pos pins s σ H _ I h) fun us s1 ⟨vs, H1, I1, r, q⟩ => ⟨I1.kIn, ?_⟩) he hpl
  have hl : us.length = ps.length := by rw [← r.length]; exact F.len _ _ _ _ q
  have bb := b s1 us I1.kIn (by rw [List.append_nil]; exact hl)
  rw [List.append_nil] at bb
  refine wpAny_call (codeAny_mono (F.run X.A X.stack s1 H1 ⟨us, []⟩ us vs Q (WE W σ) hg (hr.mono hk) I1.env0 bb r q) fun r s2 hq => ?_)
  cases r with
  | error e => exact L2N.passAt tk σ pins H1 s1 e s2 I1 hq
  | ok fl =>
    cases fl with
    | ret u => exact I1.after hq
    | next | brk | cont => exact False.elim hq
end
theorem law_callG {P : Program} {w : World} {K : PySem.W.Frag} {mg mb : Str → Option Value} {k : Nat} {fa la : Addr} {cs : List (Addr × Addr)} {fd : FuncData} {x : Str} {sp : Sp} {sA : Shared} {vls : List Value} {nums : List Int}
    (KX : K.In sA.heap) (hNs : sA.heap.Ns mainGlobals mg) (hbu : sA.heap.Ns builtinsNs mb) (hbb : ∀ x : Str, x ≠ "__name__" → mb x = bootBuiltins x) (hlim : sA.heap.NoLimit) (hg : sA.gens = #[])
    (hTb : ∀ pr ∈ cs, sA.heap.get? pr.2 = some { cls := .none, data := .fields #[] }) (nT : ∀ pr ∈ cs, K.lookup pr.2 = none) (C : ∀ pr ∈ cs, PySem.W.CodeHd sA.heap pr.1 pr.2)
    (hbm : ∃ (bmo : Addr) (obj : Obj), mg "__builtins__" = some (.ref bmo) ∧ bmo ≠ builtinsNs ∧ sA.heap.get? bmo = some obj ∧ obj.cls = .type "module" ∧ obj.dict = some builtinsNs ∧ obj.data = .plain)
    (ha : sA.heap.get? la = some { cls := .type "list", data := .seq vls.toArray }) (hi : IntsAre vls nums) (hl : nums.length ≤ sizeLine) (hr : Room k callerA)
    (F : ∀ base : Heap, K.In base → base.Ns mainGlobals mg → (∀ pr ∈ cs, TabB base mg pr.1 pr.2) → FnG P w K mg base k fa fd [x] sp) (hbind : ∀ (s : Shared) (uu : Value), BindsTo s fd ⟨[uu], []⟩ [(x, uu)])
    (hsp : ∀ HA : Hp, (∀ pr ∈ cs, HA pr.2 = some (.tbl #[])) → SqL K HA la (nums.map V.int) → sp [.ref la] HA (fun v _ => v = .bl true) fun _ _ _ => False)
    :
    codeAny (model P w) callerA (.call (.ref fa) ⟨[.ref la], []⟩) (fun r s' => r = .ok (.ret (.bool true)) ∧ OldK sA.heap s'.heap ∧ s'.os = sA.os ∧ AllBare s'.gens) sA := by
  have rv := vals_ints hi
  have lenV := hi.length
  have atT : ∀ ad : Addr, ad ∈ cs.map (·.2) → sA.heap.get? ad = some { cls := .none, data := .fields #[] } := fun ad hbu => by
    obtain ⟨pr, hpr, ee⟩ := List.mem_map.mp hbu
    rw [← ee]
    exact hTb pr hpr
  have aT : la ∉ cs.map (·.2) := fun zz => by
    have qq := atT la zz
    rw [ha] at qq
    have z' : Data.seq vls.toArray _ = Data.fields #[] := congrArg Obj.data (Option.some.inj qq)
    cases z'
  have memT : ∀ pr ∈ cs, pr.2 ∈ cs.map (·.2) := fun pr hpr => List.mem_map.mpr ⟨pr, hpr, rfl⟩
  -- over what may be tracked: the script and the tables
  have mid : ∀ HA : Hp, (∀ pr ∈ cs, HA pr.2 = some (.tbl #[])) → (∀ ad, HA ad = none ∨ ad ∈ cs.map (·.2) ∨ ∃ oj xs, HA ad = some (.frz oj (.lst xs))) → SqL K HA la (nums.map V.int) → HOk P w HA sA.heap → (∀ ad, HA ad ≠ none → ad = la ∨ ad ∈ cs.map (·.2)) → (HA la ≠ none → K.lookup la = none) →
      codeAny (model P w) callerA (.call (.ref fa) ⟨[.ref la], []⟩) (fun r s' => r = .ok (.ret (.bool true)) ∧ OldK sA.heap s'.heap ∧ s'.os = sA.os ∧ AllBare s'.gens) sA := by
    intro HA hH hO hS hokk hAa hK
    have basO : ∀ {ad : Addr} {oj : Obj}, sA.heap.get? ad = some oj → HA ad = none → (hidT sA.heap HA).get? ad = some oj := fun ee n => hidT_get ee n
    have nod : ∀ {ad : Addr} {oj : Obj}, sA.heap.get? ad = some oj → (∀ vls n, oj.data ≠ .seq vls n) → oj.data ≠ .fields #[] → HA ad = none := fun {ad oj} ee h1 h2 => by
      cases qq : HA ad with
      | none => rfl
      | some uu =>
        rcases hAa ad (by rw [qq]; simp) with e' | e'
        · rw [e', ha] at ee
          cases ee
          exact (h1 _ _ rfl).elim
        · rw [atT ad e'] at ee
          cases ee
          exact (h2 rfl).elim
    have noa : ∀ {ad : Addr} {oj : Obj} {ents : Array DictEntry} {ep : Nat}, sA.heap.get? ad = some oj → oj.data = .dict ents ep → HA ad = none := fun {ad oj ents ep} ee d => by
      refine nod ee (fun vls n zz => ?_) fun zz => ?_
      · rw [d] at zz
        cases zz
      · rw [d] at zz
        cases zz
    have nsk : ∀ {ad : Addr} {m : Str → Option Value}, sA.heap.Ns ad m → (hidT sA.heap HA).Ns ad m := fun {ad m} ⟨oj, ents, ep, ee, d, r⟩ => ⟨oj, ents, ep, basO ee (noa ee d), d, r⟩
    have hKb : K.In (hidT sA.heap HA) := fun ad oj ee => basO (KX ad oj ee) (by
      cases qq : HA ad with
      | none => rfl
      | some uu =>
        rcases hAa ad (by rw [qq]; simp) with e' | e'
        · rw [e'] at ee qq
          rw [hK (by rw [qq]; simp)] at ee
          cases ee
        · obtain ⟨pr, hpr, ep⟩ := List.mem_map.mp e'
          rw [← ep, nT pr hpr] at ee
          cases ee)
    have hM : L2.Mod K mg (hidT sA.heap HA) := ⟨hKb, nsk hNs, ⟨mb, nsk hbu, hbb⟩, let ⟨mc, h1, h2⟩ := hlim; ⟨mc, nsk h1, h2⟩⟩
    have TB : ∀ pr ∈ cs, TabB (hidT sA.heap HA) mg pr.1 pr.2 := fun pr hpr => by
      have hTp := hTb pr hpr
      refine ⟨?_, ?_, fun zz => ?_⟩
      · obtain ⟨oj, us, file, tf, flags, tg, inF, text, tt, e1, r1, r2, r3, r4, r5, r6, r7, r8, hne⟩ := C pr hpr
        refine ⟨oj, us, file, tf, flags, tg, inF, text, tt, basO e1 (nod e1 (fun vls n zz => ?_) fun zz => ?_), r1, r2, r3, r4, r5, r6, r7, r8, hne⟩
        · rw [r2] at zz
          cases zz
        · rw [r2] at zz
          cases zz
          simp at r3
      · obtain ⟨bmo, obj, b1, b2, b3, b4, b5, b6⟩ := hbm
        have nG : bmo ≠ mainGlobals := fun qq => by
          obtain ⟨oj, ents, ep, ee, hd, _⟩ := hNs
          rw [qq, ee] at b3
          cases b3
          rw [hd] at b6
          cases b6
        have nP : bmo ≠ pr.2 := fun qq => by
          rw [qq, hTp] at b3
          cases b3
          cases b6
        refine ⟨bmo, obj, b1, b2, nG, nP, basO b3 (nod b3 (fun vls n zz => ?_) fun zz => ?_), b4, b5, b6⟩
        · rw [b6] at zz
          cases zz
        · rw [b6] at zz
          cases zz
      · obtain ⟨oj, ents, ep, ee, hd, _⟩ := hNs
        rw [zz, hTp] at ee
        cases ee
        cases hd
    have en0 : Env0 P w K mg (hidT sA.heap HA) callerA [] sA HA := ⟨rfl, hM, fun ad oj ee => of_hidT ee, Nat.le_of_eq (hidT_size _ _), trivial, fun ad hbu => absurd (show ad ∈ ([] : List Addr) from hbu) (by simp), hokk, .of_eq hg⟩
    refine codeAny_mono ((F _ hKb (nsk hNs) TB).run callerA [] sA HA ⟨[.ref la], []⟩ [.ref la] [.ref la] _ _ rfl hr en0 (hbind sA (.ref la)) (.cons rfl .nil) (hsp HA hH hS)) fun r s' h => ?_
    cases r with
    | error ee => 
      obtain ⟨_, _, _, _, _, _, _, _, _, _, _, _, zE⟩ := h
      exact zE.elim
    | ok fl =>
      cases fl with
      | next => exact False.elim h
      | brk => exact False.elim h
      | cont => exact False.elim h
      | ret uu =>
        obtain ⟨v, H', os, bare, un, hok', r', qq⟩ := h
        have q' : v = .bl true := qq
        subst q'
        obtain rfl : uu = Value.bool true := r'
        have key : ∀ ad oj, ad ∉ cs.map (·.2) → sA.heap.get? ad = some oj → s'.heap.get? ad = some oj := fun ad oj nb ee => by
          cases qq : HA ad with
          | none => exact un.keep ad oj ee qq (by intro zz; exact absurd (show ad ∈ ([] : List Addr) from zz) (by simp)) (by simp)
          | some uu =>
            rcases hO ad with zz | zz | ⟨obj, xs, zz⟩
            · rw [qq] at zz; cases zz
            · exact absurd zz nb
            · have z2 := un.frzs ad obj _ zz
              obtain ⟨e1, _⟩ := hokk ad _ zz
              obtain ⟨e2, _⟩ := hok' ad _ z2
              rw [ee] at e1; cases e1
              exact e2
        have grown : ∀ pr ∈ cs, ∃ more : Array Value, s'.heap.get? pr.2 = some { cls := .none, data := .fields more } := fun pr hpr => by
          obtain ⟨more, zz⟩ := un.tbls pr.2 #[] (hH pr hpr)
          exact ⟨_, hok' pr.2 _ zz⟩
        refine ⟨rfl, ⟨fun ad oj ee => ?_, fun ad oj ee => ?_⟩, os, bare⟩
        · by_cases hbu : ad ∈ cs.map (·.2)
          · obtain ⟨pr, hpr, ep⟩ := List.mem_map.mp hbu
            obtain ⟨more, hm⟩ := grown pr hpr
            rw [← ep] at ee ⊢
            rw [hTb pr hpr] at ee
            cases ee
            exact .inr (.inl ⟨((C pr hpr).tab (hTb pr hpr)).isCodeTable, rfl, #[], more, rfl, by rw [Array.empty_append]; exact hm⟩)
          · exact .inl (key ad oj hbu ee)
        · by_cases hbu : ad ∈ cs.map (·.2)
          · obtain ⟨pr, hpr, ep⟩ := List.mem_map.mp hbu
            obtain ⟨more, hm⟩ := grown pr hpr
            rw [← ep]
            exact ⟨_, hm⟩
          · exact ⟨oj, key ad oj hbu ee⟩
  cases hk : K.lookup la with
  | some oj =>
    have ee := KX la oj hk
    rw [ha] at ee
    cases ee
    refine mid (fun ad => if ad ∈ cs.map (·.2) then some (.tbl #[]) else none) (fun pr hpr => if_pos (memT pr hpr)) (fun ad => ?_) (.inr ⟨_, vls.toArray, _, hk, rfl, rfl, rfl, by rw [List.size_toArray, lenV]; exact hl, by simpa using rv⟩) (fun ad uu zz => ?_) (fun ad zz => ?_) fun zz => absurd (show (if la ∈ cs.map (·.2) then some (HO.tbl #[]) else none) = none from if_neg aT) zz
    · by_cases hbu : ad ∈ cs.map (·.2)
      · exact .inr (.inl hbu)
      · exact .inl (if_neg hbu)
    · by_cases hbu : ad ∈ cs.map (·.2)
      · have z' := (if_pos hbu).symm.trans zz
        cases z'
        exact atT ad hbu
      · have z' := (if_neg hbu).symm.trans zz
        cases z'
    · by_cases hbu : ad ∈ cs.map (·.2)
      · exact .inr hbu
      · exact absurd (if_neg hbu) zz
  | none =>
    refine mid (fun ad => if ad = la then some (.frz { cls := .type "list", data := .seq vls.toArray } (.lst (nums.map V.int))) else if ad ∈ cs.map (·.2) then some (.tbl #[]) else none) (fun pr hpr => (if_neg (show ¬ pr.2 = la from fun zz => aT (by rw [← zz]; exact memT pr hpr))).trans (if_pos (memT pr hpr))) (fun ad => ?_)
      (.inl (.inr ⟨{ cls := .type "list", data := .seq vls.toArray }, if_pos rfl⟩)) (fun ad uu zz => ?_) (fun ad zz => ?_) fun _ => hk
    · by_cases hbu : ad = la
      · exact .inr (.inr ⟨_, _, if_pos hbu⟩)
      · by_cases hb2 : ad ∈ cs.map (·.2)
        · exact .inr (.inl hb2)
        · exact .inl ((if_neg hbu).trans (if_neg hb2))
    · by_cases hbu : ad = la
      · have z' := (if_pos hbu).symm.trans zz
        cases z'
        rw [hbu]
        exact ⟨ha, by rw [List.length_map]; exact hl, vls, _, rv, ha⟩
      · have z1 := (if_neg hbu).symm.trans zz
        by_cases hb2 : ad ∈ cs.map (·.2)
        · have z2 := (if_pos hb2).symm.trans z1
          cases z2
          exact atT ad hb2
        · have z2 := (if_neg hb2).symm.trans z1
          cases z2
    · by_cases hbu : ad = la
      · exact .inl hbu
      · by_cases hb2 : ad ∈ cs.map (·.2)
        · exact .inr hb2
        · exact absurd ((if_neg hbu).trans (if_neg hb2)) zz
/-- the law's promise at the heap h -/
def LawAtG (l : PySem.W.OpenLaw) (w : World) (K : PySem.W.Frag) (k n : Nat) (x : Str) (mg : Str → Option Value) (fa : Addr) (h : Heap) : Prop :=
  ∃ (fd : FuncData) (tabs : List (Addr × Addr)) (sp : Sp), (∀ pr ∈ tabs, h.get? pr.2 = some { cls := .none, data := .fields #[] }) ∧ (∀ pr ∈ tabs, K.lookup pr.2 = none) ∧ (∀ pr ∈ tabs, PySem.W.CodeHd h pr.1 pr.2) ∧ (∀ (s : Shared) (uu : Value), BindsTo s fd ⟨[uu], []⟩ [(x, uu)]) ∧
    (∀ (HA : Hp) (la : Addr) (nums : List Int), nums.length ≤ n → (∀ zz ∈ nums, Builtin.Int.intBits zz ≤ 1048576) → (∀ pr ∈ tabs, HA pr.2 = some (.tbl #[])) → SqL K HA la (nums.map V.int) → sp [.ref la] HA (fun v _ => v = .bl true) fun _ _ _ => False) ∧
    ∀ base : Heap, K.In base → base.Ns mainGlobals mg → (∀ pr ∈ tabs, TabB base mg pr.1 pr.2) → FnG l.prog w K mg base k fa fd [x] sp
theorem walk_ofOwnG {l : PySem.W.OpenLaw} {n k : Nat} {pq : Program} {loose : List Str} {XP : (Str → Option Value) → Heap → Prop} {YP : World → Heap → Prop} {d : DefRec} {K : Params → PySem.W.Frag} {x : Str}
    (hN : l.most = some n) (n2 : n ≤ sizeLine) (hDfl : d.params.defaults = []) (hRm : Room k callerA) (hRec : ((recsOf pq).any fun e => e.name == d.name) = true) (hYw : ∀ (w : World) (h : Heap), YP w h → (K w.params).In h)
    (Fw : ∀ (w : World) (mg : Str → Option Value) (fa : Addr) (h : Heap), YP w h → (K w.params).In h → h.Ns mainGlobals mg → mg d.name = some (.ref fa) → OwnTab (K w.params) fa h → LawAtG l w (K w.params) k n x mg fa h) :
    PySem.W.WalkO pq loose XP YP l.row.toRowW d [] (fun f vs => PySem.call f vs) := by
  refine Att.attach_callB hN hDfl fun w s₀ s₁ mg mb fa o pm cd doc la vs nums G Y ho hd hcd hmg hobj hints hlen hbits hg => ?_
  have KIn := hYw w _ Y
  have tabE : OwnTab (K w.params) fa s₁.heap := fun c P oz fz e dd vz sl l1 l2 l3 l4 l5 => by
    obtain ⟨dl, hM, n1⟩ := List.any_eq_true.mp hRec
    have n2 : dl.name = d.name := beq_iff_eq.mp n1
    obtain ⟨a', o', fd', c', P', r1, r2, r3, r4, r5, r6⟩ := G.T.tab dl hM
    rw [n2, hmg] at r1
    cases r1
    have f1 := KIn _ _ l1
    rw [f1] at r2
    cases r2
    rw [l2] at r3
    cases r3
    rw [l3] at r4
    cases r4
    obtain ⟨⟨oc, vc, i1, _, i3, i4⟩, hTab⟩ := r6
    have f2 := KIn _ _ l4
    rw [f2] at i1
    cases i1
    cases i3
    rw [l5] at i4
    cases i4
    exact hTab
  obtain ⟨fd, tabs, sp, hT, nT, C, hbd, hsp, hF⟩ := Fw w mg fa _ Y KIn G.T.g hmg tabE
  exact law_callG KIn G.T.g G.T.b G.T.builtins G.T.nolimit hg hT nT C G.T.bmain hobj hints (Nat.le_trans hlen n2) hRm hF hbd (fun HA hH hS => hsp HA la nums hlen hbits hH hS)
end FP
set_option maxHeartbeats 4000000
/-! the tables of code objects of the defs that hold a lambda -/
namespace FP
open PySem PySem.Spec PyProof.Rows L2 LamX
/-- the table of the def at f, as K tells it -/
def tabOf (K : PySem.W.Frag) (f : Addr) : Option Addr := match K.lookup f with
  | some ⟨_, _, .func fd, _⟩ => (match fd.code with
    | .ref c => (match K.lookup c with
      | some ⟨_, _, .fields vs, _⟩ => (match (vs[11]? : Option Value) with
        | some (Value.ref P) => some P
        | _ => none)
      | _ => none)
    | _ => none)
  | _ => none
def TabsAt (q : Program) (mg : Str → Option Value) (h : Heap) : Prop := ∀ d ∈ recsOf q, ∃ a o fd c P, mg d.name = some (.ref a) ∧ h.get? a = some o ∧ o.data = .func fd ∧ fd.code = .ref c ∧ h.IsCode c P #[] ∧ h.TableAt c P #[]
theorem def_tab {q : Program} {K : PySem.W.Frag} {mg : Str → Option Value} {h : Heap} {x : Str} {st : Stmt} {f : Addr} {fd : FuncData} (T : TabsAt q mg h) (KIn : K.In h) (D : C8.Def K mg x st f fd) (hx : ((recsOf q).any fun e => e.name == x) = true) :
    ∃ c P, fd.code = .ref c ∧ PySem.W.CodeHd h c P ∧ h.get? P = some { cls := .none, data := .fields #[] } ∧ tabOf K f = some P := by
  obtain ⟨dl, hm, n1⟩ := List.any_eq_true.mp hx
  have n2 : dl.name = x := beq_iff_eq.mp n1
  obtain ⟨a, o, fd', c, P, r1, r2, r3, r4, r5, r6⟩ := T dl hm
  rw [n2, D.mgf] at r1
  cases r1
  obtain ⟨oc, od, dV, kV, doc, pm, an, cdv, ct, osl, rfl, lk, hcd⟩ := D.fn.ex
  have f1 := KIn _ _ lk
  rw [f1] at r2
  cases r2
  cases r3
  cases (show cdv = .ref c from r4)
  refine ⟨c, P, rfl, PySem.W.CodeHd.of r5 r6, r6.2, ?_⟩
  obtain ⟨⟨oo, vs, i1, _, i3, i4⟩, _⟩ := r6
  unfold PySem.W.codeIn at hcd
  dsimp only at hcd
  cases hl : K.lookup c with
  | none => rw [hl] at hcd; cases hcd
  | some ob =>
    obtain ⟨b1, b2, b3, b4⟩ := ob
    have g := KIn _ _ hl
    rw [g] at i1
    cases i1
    cases (show b3 = .fields vs from i3)
    unfold tabOf
    rw [lk]
    simp only [PySem.W.fnOf]
    rw [hl]
    simp only
    rw [i4]
/-- the end, the tables of all defs told -/
theorem walk_tabsG {l : PySem.W.OpenLaw} {n k : Nat} {q : Program} {loose : List Str} {XP : (Str → Option Value) → Heap → Prop} {YP : World → Heap → Prop} {d : DefRec} {K : Params → PySem.W.Frag} {x : Str}
    (hn : l.most = some n) (hn2 : n ≤ sizeLine) (hdf : d.params.defaults = []) (hr : Room k callerA) (hY : ∀ (w : World) (h : Heap), YP w h → (K w.params).In h)
    (F : ∀ (w : World) (mg : Str → Option Value) (fa : Addr) (h : Heap), YP w h → (K w.params).In h → h.Ns mainGlobals mg → mg d.name = some (.ref fa) → TabsAt q mg h → LawAtG l w (K w.params) k n x mg fa h) :
    PySem.W.WalkO q loose XP YP l.row.toRowW d [] (fun f vs => PySem.call f vs) := by
  refine Att.attach_callB hn hdf fun w s0 s1 mg mb fa o pm cd doc la vs nums G Y ho hd hcd hmg hobj hints hlen hbits hg => ?_
  have KX := hY w _ Y
  obtain ⟨fd, tabs, sp, hT, nT, C, hb, hsp, hF⟩ := F w mg fa _ Y KX G.T.g hmg G.T.tab
  exact law_callG KX G.T.g G.T.b G.T.builtins G.T.nolimit hg hT nT C G.T.bmain hobj hints (Nat.le_trans hlen hn2) hr hF hb (fun HA hH hS => hsp HA la nums hlen hbits hH hS)
end FP
set_option maxHeartbeats 4000000
/-! the plain law: drawn values -/
namespace FP
open PySem PySem.Spec PyProof.Rows L2
inductive Dt : Nat → PyData → Prop
  | rat {n : Nat} {d : PyData} {t b : Int} : ratioOf d = some (t, b) → t.natAbs < 10 ^ 40 → b ≤ 10 ^ 40 → Dt n d
  | tup {n : Nat} {ds : List PyData} : ratioOf (.tuple ds) = none → ds.length ≤ 3 → (∀ e, e ∈ ds → Dt n e) → Dt (n + 1) (.tuple ds)
theorem Dt.up {n : Nat} {d : PyData} (h : Dt n d) : Dt (n + 1) d := by
  induction h with
  | rat h1 h2 h3 => exact .rat h1 h2 h3
  | tup h1 h2 h3 ih => exact .tup h1 h2 ih
theorem Dt.int {n : Nat} {i : Int} (h : Dt n (.int i)) : i.natAbs < 10 ^ 40 := by
  cases h with
  | rat h1 h2 h3 =>
    rcases ratio_some h1 with ⟨e, _⟩ | ⟨e, _⟩
    · cases e; exact h2
    · cases e
theorem Dv.dt : ∀ {n : Nat} {d : PyData}, Dv n d → Dt n d
  | 0, d, ⟨t, b, h1, h2, h3⟩ => .rat h1 h2 h3
  | n + 1, d, .inl ⟨t, b, h1, h2, h3⟩ => .rat h1 h2 h3
  | n + 1, d, .inr ⟨ds, e, hl, h⟩ => by
    have ih : ∀ x, x ∈ ds → Dt n x := fun x hx => Dv.dt (h x hx)
    subst e
    cases hr : ratioOf (.tuple ds) with
    | none => exact .tup hr hl ih
    | some p =>
      obtain ⟨t, b⟩ := p
      rcases ratio_some hr with ⟨e, _⟩ | ⟨e, b1, _⟩
      · cases e
      · cases e
        have h1 := (ih (.int t) List.mem_cons_self).int
        have h2 := (ih (.int b) (List.mem_cons_of_mem _ List.mem_cons_self)).int
        exact .rat hr h1 (by have : b.natAbs < 10 ^ 40 := h2; omega)
theorem Dt.small {t b : Int} (h1 : t.natAbs < 10 ^ 40) (h2 : b ≤ 10 ^ 40) : smallB t b = true := by
  have e : (10 : Int) ^ 40 < M400 := by decide +kernel
  unfold smallB
  rw [decide_eq_true (show (t.natAbs : Int) < M400 by omega), decide_eq_true (show b < M400 by omega)]
  rfl
theorem Dt.tw {n : Nat} {d : PyData} (h : Dt n d) : Tw n d := by
  induction h with
  | rat h1 h2 h3 => exact .rat h1 (Dt.small h2 h3)
  | tup h1 h2 h3 ih => exact .tup h1 ih (by omega)
theorem Dt.pl {n : Nat} {d : PyData} (h : Dt n d) : plB n d = true := by
  induction h with
  | rat h1 h2 h3 => rw [plB_ratio h1]; exact Dt.small h2 h3
  | @tup n ds h1 h2 h3 ih =>
    rw [plB.eq_def]
    show (match ratioOf (.tuple ds) with | some (t, b) => _ | none => _) = _
    rw [h1]
    exact List.all_eq_true.mpr ih
theorem leaf_int {i : Int} : leaf (.int i) := ⟨fun _ z => (nomatch z), fun _ z => (nomatch z)⟩
theorem Dt.fine {n : Nat} {d : PyData} (h : Dt n d) : fine (n + 1) d := by
  induction h with
  | @rat n d t b h1 h2 h3 =>
    rcases ratio_some h1 with ⟨rfl, _⟩ | ⟨rfl, _⟩
    · exact .inl leaf_int
    · refine .inr ⟨_, .inr rfl, by show 2 ≤ 100; decide, fun e he => ?_⟩
      have : ∃ i, e = .int i := by
        rcases List.mem_cons.mp he with h | he
        · exact ⟨_, h⟩
        · exact ⟨_, List.mem_singleton.mp he⟩
      obtain ⟨i, rfl⟩ := this
      cases n with
      | zero => exact leaf_int
      | succ m => exact .inl leaf_int
  | tup h1 h2 h3 ih => exact .inr ⟨_, .inr rfl, by omega, ih⟩
theorem Dt.fl {n : Nat} {d : PyData} (h : Dt n d) : Fl (n + 1) d := by
  induction h with
  | @rat n d t b h1 h2 h3 =>
    rcases ratio_some h1 with ⟨rfl, _⟩ | ⟨rfl, _⟩
    · exact .int _
    · refine .tup (fun e he => ?_) (by show 2 ≤ 1000; decide)
      rcases List.mem_cons.mp he with h | he
      · rw [h]; exact .int _
      · rw [List.mem_singleton.mp he]; exact .int _
  | tup h1 h2 h3 ih => exact .tup ih (by omega)
theorem asTup_of : ∀ {n : Nat} {d : PyData}, Nol d → asTup n d = d
  | 0, d, _ => by cases d <;> rfl
  | n + 1, .none, _ => rfl
  | n + 1, .bool _, _ => rfl
  | n + 1, .int _, _ => rfl
  | n + 1, .str _, _ => rfl
  | n + 1, .tuple ds, .tup h => by
    show PyData.tuple (ds.map (asTup n)) = .tuple ds
    congr 1
    conv => rhs; rw [← List.map_id ds]
    exact List.map_congr_left fun e he => asTup_of (h e he)
end FP
set_option maxHeartbeats 4000000
/-! the plain law: tokens and texts -/
namespace FP
open PySem PySem.Spec PyProof.Rows L2
def Symt (t : List Nat) : Prop := ∃ c, t = [c] ∧ c ≠ 32 ∧ c ∉ figL ∧ c ∉ letL
def Gtok (t : List Nat) : Prop := Symt t ∨ (t ≠ [] ∧ ∀ x, x ∈ t → x ∈ figL) ∨ (t ≠ [] ∧ ∀ x, x ∈ t → x ∈ letL)
theorem Toks.add {t r : List Nat} {ts : List (List Nat)} (g : Gtok t) (h : Toks r ts) (hh : Symt t ∨ ∀ x, r.head? = some x → x ∉ figL ∧ x ∉ letL) : Toks (t ++ r) (t :: ts) := by
  rcases g with ⟨c, rfl, h1, h2, h3⟩ | ⟨hn, hf⟩ | ⟨hn, hf⟩
  · exact .one h1 h2 h3 h
  · cases t with
    | nil => exact absurd rfl hn
    | cons c w =>
      rcases hh with ⟨c', e, _, h2, _⟩ | hh
      · cases e
        exact absurd (hf c List.mem_cons_self) h2
      · exact .fig hf (fun x hx => (hh x hx).1) h
  · cases t with
    | nil => exact absurd rfl hn
    | cons c w =>
      rcases hh with ⟨c', e, _, _, h3⟩ | hh
      · cases e
        exact absurd (hf c List.mem_cons_self) h3
      · exact .ltr hf (fun x hx => (hh x hx).2) h
theorem Toks.blanks {ts : List (List Nat)} : ∀ {S r : List Nat}, (∀ x, x ∈ S → x = 32) → Toks r ts → Toks (S ++ r) ts
  | [], _, _, h => h
  | x :: S, r, hS, h => by
    have e : x = 32 := hS x List.mem_cons_self
    subst e
    exact .sp (Toks.blanks (fun y hy => hS y (List.mem_cons_of_mem _ hy)) h)
theorem blank_hd {x : Nat} (h : x = 32) : x ∉ figL ∧ x ∉ letL := by subst h; decide
theorem blanks_hd {S r : List Nat} (hn : S ≠ []) (hS : ∀ x, x ∈ S → x = 32) : ∀ x, (S ++ r).head? = some x → x ∉ figL ∧ x ∉ letL := fun x hx => by
  cases S with
  | nil => exact absurd rfl hn
  | cons y S => rw [← (Option.some.inj hx : y = x)]; exact blank_hd (hS y List.mem_cons_self)
/-- tokens with blanks between -/
theorem toks_join {S suf : List Nat} (hn : S ≠ []) (hS : ∀ x, x ∈ S → x = 32) (hu : ∀ x, x ∈ suf → x = 32) : ∀ {ts : List (List Nat)}, (∀ t, t ∈ ts → Gtok t) → Toks (TL.joinL S ts ++ suf) ts
  | [], _ => by
    have := Toks.blanks (ts := []) (r := []) hu .nil
    rw [List.append_nil] at this
    exact this
  | [p], h => by
    show Toks (p ++ suf) [p]
    have b := Toks.blanks (ts := []) (r := []) hu .nil
    rw [List.append_nil] at b
    refine .add (h p List.mem_cons_self) b (.inr fun x hx => ?_)
    cases suf with
    | nil => cases hx
    | cons y s => rw [← (Option.some.inj hx : y = x)]; exact blank_hd (hu y List.mem_cons_self)
  | p :: q :: r, h => by
    show Toks ((p ++ (S ++ TL.joinL S (q :: r))) ++ suf) (p :: q :: r)
    rw [List.append_assoc, List.append_assoc]
    exact .add (h p List.mem_cons_self) (Toks.blanks hS (toks_join hn hS hu fun t ht => h t (List.mem_cons_of_mem _ ht))) (.inr (blanks_hd hn hS))
/-! ### the text without blanks -/
def Sep : List (List Nat) → Prop
  | t :: u :: r => (Symt t ∨ Symt u) ∧ Sep (u :: r)
  | _ => True
theorem Sep.cons {c : List Nat} (hc : Symt c) : ∀ {y : List (List Nat)}, Sep y → Sep (c :: y)
  | [], _ => trivial
  | _ :: _, h => ⟨.inl hc, h⟩
theorem Sep.app {c : List Nat} {y : List (List Nat)} (hc : Symt c) (hy : Sep (c :: y)) : ∀ {x : List (List Nat)}, Sep x → Sep (x ++ c :: y)
  | [], _ => hy
  | [t], _ => ⟨.inr hc, hy⟩
  | t :: u :: r, h => ⟨h.1, Sep.app hc hy (x := u :: r) h.2⟩
theorem toks_txt : ∀ {ts : List (List Nat)}, (∀ t, t ∈ ts → Gtok t) → Sep ts → Toks (txtT ts) ts
  | [], _, _ => .nil
  | [t], h, _ => by
    show Toks (t ++ ((if t = [44] ∧ ([] : List (List Nat)).head? ≠ some [41] then [32] else []) ++ [])) [t]
    refine .add (h t List.mem_cons_self) (.blanks (fun x hx => ?_) .nil) ?_
    · split at hx
      · exact List.mem_singleton.mp hx
      · cases hx
    · by_cases e : t = [44]
      · exact .inl ⟨44, e, by decide, by decide, by decide⟩
      · rw [if_neg (fun z => e z.1)]
        exact .inr fun x hx => nomatch hx
  | t :: u :: r, h, s => by
    show Toks (t ++ ((if t = [44] ∧ (u :: r).head? ≠ some [41] then [32] else []) ++ txtT (u :: r))) (t :: u :: r)
    have ih := toks_txt (ts := u :: r) (fun x hx => h x (List.mem_cons_of_mem _ hx)) s.2
    refine .add (h t List.mem_cons_self) (.blanks (fun x hx => ?_) ih) ?_
    · split at hx
      · exact List.mem_singleton.mp hx
      · cases hx
    · rcases s.1 with z | ⟨c, rfl, h1, h2, h3⟩
      · exact .inl z
      · by_cases e : t = [44]
        · exact .inl ⟨44, e, by decide, by decide, by decide⟩
        · rw [if_neg (fun z => e z.1)]
          refine .inr fun x hx => ?_
          cases hx
          exact ⟨h2, h3⟩
theorem txtT_app {y : List (List Nat)} : ∀ {x : List (List Nat)}, x.getLast? ≠ some [44] → txtT (x ++ y) = txtT x ++ txtT y
  | [], _ => rfl
  | [t], h => by
    have ht : ¬ t = [44] := fun e => h (by rw [e]; rfl)
    show t ++ ((if t = [44] ∧ y.head? ≠ some [41] then [32] else []) ++ txtT y) = (t ++ ((if t = [44] ∧ _ then [32] else []) ++ [])) ++ txtT y
    rw [if_neg (fun z => ht z.1), if_neg (fun z => ht z.1)]
    simp
  | t :: u :: r, h => by
    have ih := txtT_app (y := y) (x := u :: r) (by rw [List.getLast?_cons_cons] at h; exact h)
    show t ++ ((if t = [44] ∧ (u :: r).head? ≠ some [41] then [32] else []) ++ txtT ((u :: r) ++ y)) = (t ++ ((if t = [44] ∧ (u :: r).head? ≠ some [41] then [32] else []) ++ txtT (u :: r))) ++ txtT y
    rw [ih, List.append_assoc, List.append_assoc]
end FP
set_option maxHeartbeats 4000000
/-! the plain law: the tokens of a drawn value -/
namespace FP
open PySem PySem.Spec PyProof.Rows L2
theorem numL_fig {n x : Nat} (h : x ∈ TL.numL n) : x ∈ figL := by
  have h1 : ¬ (x < 48 ∨ 57 < x) := fun z => TL.numL_free z h
  have : x = 48 ∨ x = 49 ∨ x = 50 ∨ x = 51 ∨ x = 52 ∨ x = 53 ∨ x = 54 ∨ x = 55 ∨ x = 56 ∨ x = 57 := by omega
  rcases this with h | h | h | h | h | h | h | h | h | h <;> subst h <;> decide
theorem numL_g (n : Nat) : Gtok (TL.numL n) := .inr (.inl ⟨TL.numL_ne n, fun _ h => numL_fig h⟩)
theorem numL_hd : ∀ (k n : Nat), n ≤ k → 0 < n → (TL.numL n).head? ≠ some 48 := by
  intro k
  induction k with
  | zero => intro n h1 h2; omega
  | succ k ih =>
    intro n h1 h2
    by_cases h : n < 10
    · rw [TL.numL_lt h]
      intro z
      have : 48 + n = 48 := Option.some.inj z
      omega
    · rw [TL.numL_step (by omega)]
      have := ih (n / 10) (by omega) (by omega)
      cases e : TL.numL (n / 10) with
      | nil => exact absurd e (TL.numL_ne _)
      | cons c w => rw [e] at this; exact this
theorem numL_num {n : Nat} (h : (TL.numL n).length ≤ 400) : isNum (TL.numL n) = true := by
  unfold isNum
  rw [decide_eq_true (TL.numL_ne n), decide_eq_true h, (List.all_eq_true.mpr fun c hc => decide_eq_true (numL_fig hc) : (TL.numL n).all (fun c => decide (c ∈ figL)) = true)]
  by_cases h0 : n = 0
  · subst h0; rfl
  · rw [decide_eq_true (numL_hd n n (Nat.le_refl _) (by omega)), Bool.or_true]; rfl
theorem numL_not {n : Nat} {t : Nat} (h : t ∉ figL) : TL.numL n ≠ [t] := fun e => h (numL_fig (n := n) (by rw [e]; exact List.mem_cons_self))
theorem sy40 : Symt [40] := ⟨40, rfl, by decide, by decide, by decide⟩
theorem sy41 : Symt [41] := ⟨41, rfl, by decide, by decide, by decide⟩
theorem sy44 : Symt [44] := ⟨44, rfl, by decide, by decide, by decide⟩
theorem sy45 : Symt [45] := ⟨45, rfl, by decide, by decide, by decide⟩
theorem sy47 : Symt [47] := ⟨47, rfl, by decide, by decide, by decide⟩
/-- what the tokens of a value are like -/
structure TkO (N : Nat) (ts : List (List Nat)) : Prop where
  good : ∀ t, t ∈ ts → Gtok t ∧ t.length ≤ 41
  sep : Sep ts
  ne : ts ≠ []
  hd : ts.head? ≠ some [41]
  lst : ts.getLast? ≠ some [44]
  few : ts.length ≤ 6 * 4 ^ N
  deep : 2 * ts.count [40] + 1 ≤ 3 ^ N
theorem tkO_rat {N : Nat} {t b : Int} (h1 : t.natAbs < 10 ^ 40) (h2 : b ≤ 10 ^ 40) (h3 : 0 < b) : TkO N (ratT t b) := by
  have l1 : (TL.numL t.natAbs).length ≤ 41 := TL.numL_len (by decide) (by omega)
  have l2 : (TL.numL b.natAbs).length ≤ 41 := TL.numL_len (by decide) (by omega)
  have g45 : Gtok [45] ∧ [45].length ≤ 41 := ⟨.inl sy45, by decide⟩
  have g47 : Gtok [47] ∧ [47].length ≤ 41 := ⟨.inl sy47, by decide⟩
  have gt : Gtok (TL.numL t.natAbs) ∧ (TL.numL t.natAbs).length ≤ 41 := ⟨numL_g _, l1⟩
  have gb : Gtok (TL.numL b.natAbs) ∧ (TL.numL b.natAbs).length ≤ 41 := ⟨numL_g _, l2⟩
  have p4 : 0 < 4 ^ N := Nat.pow_pos (by decide)
  have p3 : 0 < 3 ^ N := Nat.pow_pos (by decide)
  have n41 : TL.numL t.natAbs ≠ [41] := numL_not (by decide)
  have n44 : TL.numL t.natAbs ≠ [44] := numL_not (by decide)
  have m44 : TL.numL b.natAbs ≠ [44] := numL_not (by decide)
  have n40 : TL.numL t.natAbs ≠ [40] := numL_not (by decide)
  have m40 : TL.numL b.natAbs ≠ [40] := numL_not (by decide)
  unfold ratT
  by_cases c1 : t < 0 <;> by_cases c2 : b = 1
  all_goals first | rw [if_pos c1] | rw [if_neg c1]
  all_goals first | rw [if_pos c2] | rw [if_neg c2]
  · refine ⟨?_, ?_, by simp, by simp, by simpa using n44, by simp; omega, by simp [List.count_cons, n40]; omega⟩
    · intro x hx
      simp at hx
      rcases hx with rfl | rfl
      · exact g45
      · exact gt
    · exact Sep.cons sy45 trivial
  · refine ⟨?_, ?_, by simp, by simp, by simpa using m44, by simp; omega, by simp [List.count_cons, n40, m40]; omega⟩
    · intro x hx
      simp at hx
      rcases hx with rfl | rfl | rfl | rfl
      · exact g45
      · exact gt
      · exact g47
      · exact gb
    · exact Sep.cons sy45 ⟨.inr sy47, Sep.cons sy47 trivial⟩
  · refine ⟨?_, ?_, by simp, by simpa using n41, by simpa using n44, by simp; omega, by simp [List.count_cons, n40]; omega⟩
    · intro x hx
      simp at hx
      subst hx
      exact gt
    · exact trivial
  · refine ⟨?_, ?_, by simp, by simpa using n41, by simpa using m44, by simp; omega, by simp [List.count_cons, n40, m40]; omega⟩
    · intro x hx
      simp at hx
      rcases hx with rfl | rfl | rfl
      · exact gt
      · exact g47
      · exact gb
    · exact ⟨.inr sy47, Sep.cons sy47 trivial⟩
theorem sepT_all {t : List Nat} : ∀ {L : List (List (List Nat))} {b : Bool}, t ∈ sepT b L → t = [44] ∨ ∃ x, x ∈ L ∧ t ∈ x
  | [], _, h => nomatch h
  | x :: r, b, h => by
    have h : t ∈ (if b then [] else [[44]]) ++ x ++ sepT false r := h
    rcases List.mem_append.mp h with h | h
    · rcases List.mem_append.mp h with h | h
      · cases b with
        | true => exact nomatch h
        | false => exact .inl (List.mem_singleton.mp h)
      · exact .inr ⟨x, List.mem_cons_self, h⟩
    · rcases sepT_all h with h | ⟨y, hy, h⟩
      · exact .inl h
      · exact .inr ⟨y, List.mem_cons_of_mem _ hy, h⟩
theorem sepT_sep {c : List Nat} {y : List (List Nat)} (hc : Symt c) (hy : Sep (c :: y)) : ∀ {L : List (List (List Nat))}, (∀ x, x ∈ L → Sep x) → Sep (sepT false L ++ c :: y)
  | [], _ => hy
  | x :: r, h => by
    show Sep ([44] :: x ++ sepT false r ++ c :: y)
    have ih := sepT_sep hc hy (L := r) fun z hz => h z (List.mem_cons_of_mem _ hz)
    have hx := h x List.mem_cons_self
    rw [List.append_assoc]
    refine Sep.cons sy44 ?_
    cases r with
    | nil => exact Sep.app hc hy hx
    | cons z r => exact Sep.app (c := [44]) (y := z ++ sepT false r ++ c :: y) sy44 ih hx
theorem sepT_sep1 {c : List Nat} {y : List (List Nat)} (hc : Symt c) (hy : Sep (c :: y)) : ∀ {L : List (List (List Nat))}, (∀ x, x ∈ L → Sep x) → Sep (sepT true L ++ c :: y)
  | [], _ => hy
  | x :: r, h => by
    show Sep (x ++ sepT false r ++ c :: y)
    have ih := sepT_sep hc hy (L := r) fun z hz => h z (List.mem_cons_of_mem _ hz)
    have hx := h x List.mem_cons_self
    rw [List.append_assoc]
    cases r with
    | nil => exact Sep.app hc hy hx
    | cons z r => exact Sep.app (c := [44]) (y := z ++ sepT false r ++ c :: y) sy44 ih hx
theorem sepT_few {M : Nat} : ∀ {L : List (List (List Nat))} {b : Bool}, (∀ x, x ∈ L → x.length ≤ M) → (sepT b L).length ≤ L.length * (M + 1)
  | [], _, _ => Nat.zero_le _
  | x :: r, b, h => by
    have ih := sepT_few (b := false) (L := r) fun z hz => h z (List.mem_cons_of_mem _ hz)
    have hx := h x List.mem_cons_self
    show ((if b then [] else [[44]]) ++ x ++ sepT false r).length ≤ (r.length + 1) * (M + 1)
    rw [List.length_append, List.length_append, Nat.succ_mul]
    have : (if b then [] else [[44]] : List (List Nat)).length ≤ 1 := by cases b <;> decide
    omega
theorem sepT_count {M : Nat} : ∀ {L : List (List (List Nat))} {b : Bool}, (∀ x, x ∈ L → x.count [40] ≤ M) → (sepT b L).count [40] ≤ L.length * M
  | [], _, _ => Nat.zero_le _
  | x :: r, b, h => by
    have ih := sepT_count (b := false) (L := r) fun z hz => h z (List.mem_cons_of_mem _ hz)
    have hx := h x List.mem_cons_self
    show ((if b then [] else [[44]]) ++ x ++ sepT false r).count [40] ≤ (r.length + 1) * M
    rw [List.count_append, List.count_append, Nat.succ_mul]
    have : (if b then [] else [[44]] : List (List Nat)).count [40] = 0 := by cases b <;> decide
    omega
theorem Dt.tks {n : Nat} {d : PyData} (h : Dt n d) : TkO n (tokV n d) := by
  induction h with
  | @rat n d t b h1 h2 h3 =>
    rw [tokV_rat h1]
    exact tkO_rat h2 h3 (by rcases ratio_some h1 with ⟨_, e⟩ | ⟨_, e, _⟩ <;> omega)
  | @tup n ds h1 h2 h3 ih =>
    rw [tokV_tup h1]
    have hL : ∀ x, x ∈ ds.map (tokV n) → TkO n x := fun x hx => by
      obtain ⟨e, he, rfl⟩ := List.mem_map.mp hx
      exact ih e he
    have f1 := sepT_few (b := true) (L := ds.map (tokV n)) fun x hx => (hL x hx).few
    have f2 := sepT_count (M := (3 ^ n - 1) / 2) (b := true) (L := ds.map (tokV n)) fun x hx => by have := (hL x hx).deep; omega
    rw [List.length_map] at f1 f2
    have p4 : 0 < 4 ^ n := Nat.pow_pos (by decide)
    have p3 : 0 < 3 ^ n := Nat.pow_pos (by decide)
    refine ⟨?_, ?_, by simp, by simp, ?_, ?_, ?_⟩
    · intro t ht
      rcases List.mem_cons.mp ht with rfl | ht
      · exact ⟨.inl sy40, by decide⟩
      · rcases List.mem_append.mp ht with ht | ht
        · rcases sepT_all ht with rfl | ⟨x, hx, ht⟩
          · exact ⟨.inl sy44, by decide⟩
          · exact (hL x hx).good t ht
        · rcases List.mem_append.mp ht with ht | ht
          · split at ht
            · rw [List.mem_singleton.mp ht]; exact ⟨.inl sy44, by decide⟩
            · cases ht
          · rw [List.mem_singleton.mp ht]; exact ⟨.inl sy41, by decide⟩
    · refine Sep.cons sy40 ?_
      by_cases c : ds.length = 1
      · rw [if_pos c]
        exact sepT_sep1 (y := [[41]]) sy44 ⟨.inl sy44, trivial⟩ fun x hx => (hL x hx).sep
      · rw [if_neg c]
        exact sepT_sep1 (y := []) sy41 trivial fun x hx => (hL x hx).sep
    · rw [← List.append_assoc, ← List.cons_append, List.getLast?_concat]
      simp
    · have c1 : (if ds.length = 1 then [[44]] else [] : List (List Nat)).length ≤ 1 := by split <;> decide
      have c2 : ds.length * (6 * 4 ^ n + 1) ≤ 3 * (6 * 4 ^ n + 1) := Nat.mul_le_mul_right _ h2
      simp only [List.length_cons, List.length_append, List.length_nil]
      rw [Nat.pow_succ]
      omega
    · have c1 : (if ds.length = 1 then [[44]] else [] : List (List Nat)).count [40] = 0 := by split <;> decide
      have c2 : ds.length * ((3 ^ n - 1) / 2) ≤ 3 * ((3 ^ n - 1) / 2) := Nat.mul_le_mul_right _ h2
      have c3 : ([[41]] : List (List Nat)).count [40] = 0 := by decide
      rw [List.count_cons, List.count_append, List.count_append, c1, c3, if_pos (by decide), Nat.pow_succ]
      omega
end FP
set_option maxHeartbeats 4000000
/-! the plain law: the text of a drawn value -/
namespace FP
open PySem PySem.Spec PyProof.Rows L2
theorem txtT_1 {t : List Nat} {r : List (List Nat)} (h : t ≠ [44]) : txtT (t :: r) = t ++ txtT r := by
  show t ++ ((if t = [44] ∧ r.head? ≠ some [41] then [32] else []) ++ txtT r) = _
  rw [if_neg (fun z => h z.1)]; rfl
theorem txtT_c {r : List (List Nat)} (h : r.head? ≠ some [41]) : txtT ([44] :: r) = 44 :: 32 :: txtT r := by
  show [44] ++ ((if [44] = [44] ∧ r.head? ≠ some [41] then [32] else []) ++ txtT r) = _
  rw [if_pos ⟨rfl, h⟩]; rfl
theorem txtT_ce {r : List (List Nat)} : txtT ([44] :: [41] :: r) = 44 :: 41 :: txtT r := by
  show [44] ++ ((if [44] = [44] ∧ ([41] :: r).head? ≠ some [41] then [32] else []) ++ txtT ([41] :: r)) = _
  rw [if_neg (fun z => z.2 rfl), txtT_1 (by decide)]; rfl
theorem hd_app {x y : List (List Nat)} (h1 : x ≠ []) (h2 : x.head? ≠ some [41]) : (x ++ y).head? ≠ some [41] := by
  cases x with
  | nil => exact absurd rfl h1
  | cons a r => exact h2
def cm (x : List Nat) : List Nat := 44 :: 32 :: x
theorem txt_sep {N : Nat} : ∀ {L : List (List (List Nat))}, (∀ x, x ∈ L → TkO N x) → txtT (sepT false L ++ [[41]]) = (L.map fun x => cm (txtT x)).flatten ++ [41]
  | [], _ => by rw [show sepT false [] ++ [[41]] = [[41]] from rfl, txtT_1 (by decide)]; rfl
  | x :: r, h => by
    have hx := h x List.mem_cons_self
    have ih := txt_sep (L := r) fun z hz => h z (List.mem_cons_of_mem _ hz)
    have e : sepT false (x :: r) ++ [[41]] = [44] :: (x ++ (sepT false r ++ [[41]])) := by
      show ([[44]] ++ x ++ sepT false r) ++ [[41]] = _
      simp
    rw [e, txtT_c (hd_app hx.ne hx.hd), txtT_app hx.lst, ih]
    show _ = (cm (txtT x) ++ (r.map fun x => cm (txtT x)).flatten) ++ [41]
    unfold cm
    simp
theorem join_cm : ∀ {p : List Nat} {r : List (List Nat)}, TL.joinL [44, 32] (p :: r) = p ++ (r.map cm).flatten
  | p, [] => by show p = p ++ []; rw [List.append_nil]
  | p, q :: r => by
    show p ++ ([44, 32] ++ TL.joinL [44, 32] (q :: r)) = _
    rw [join_cm]
    show _ = p ++ (cm q ++ (r.map cm).flatten)
    unfold cm
    simp
theorem Dt.txt {n : Nat} {d : PyData} (h : Dt n d) : textV n d = txtT (tokV n d) := by
  induction h with
  | @rat n d t b h1 h2 h3 =>
    rw [tokV_rat h1, textV_rat h1]
    have n1 : TL.numL t.natAbs ≠ [44] := numL_not (by decide)
    have n2 : TL.numL b.natAbs ≠ [44] := numL_not (by decide)
    unfold ratT sizeL
    by_cases c1 : t < 0 <;> by_cases c2 : b = 1
    all_goals first | rw [if_pos c1, if_pos c1] | rw [if_neg c1, if_neg c1]
    all_goals first | rw [if_pos c2, if_pos c2] | rw [if_neg c2, if_neg c2]
    all_goals simp only [List.cons_append, List.nil_append, List.append_nil]
    · rw [txtT_1 (by decide), txtT_1 n1]; simp [txtT]
    · rw [txtT_1 (by decide), txtT_1 n1, txtT_1 (by decide), txtT_1 n2]; simp [txtT]
    · rw [txtT_1 n1]; simp [txtT]
    · rw [txtT_1 n1, txtT_1 (by decide), txtT_1 n2]; simp [txtT]
  | @tup n ds h1 h2 h3 ih =>
    rw [tokV_tup h1, txtT_1 (by decide)]
    have hT : ∀ x, x ∈ ds.map (tokV n) → TkO n x := fun x hx => by
      obtain ⟨e, he, rfl⟩ := List.mem_map.mp hx
      exact (h3 e he).tks
    match ds, h1, h2, h3, ih, hT with
    | [], h1, _, _, _, _ => 
      rw [textV_tup h1 (by decide)]
      rfl
    | [e], h1, _, h3, ih, _ =>
      rw [textV_one, ih e List.mem_cons_self, if_pos (show [e].length = 1 from rfl)]
      have t := (h3 e List.mem_cons_self).tks
      have ee : sepT true ([e].map (tokV n)) ++ ([[44]] ++ [[41]]) = tokV n e ++ [[44], [41]] := by simp [sepT]
      rw [ee, txtT_app t.lst, txtT_ce]
      rfl
    | e :: e2 :: r, h1, _, h3, ih, hT =>
      rw [textV_tup h1 (by simp), if_neg (by simp)]
      have t := (h3 e List.mem_cons_self).tks
      have ee : sepT true ((e :: e2 :: r).map (tokV n)) ++ ([] ++ [[41]]) = tokV n e ++ (sepT false ((e2 :: r).map (tokV n)) ++ [[41]]) := by
        show ([] ++ tokV n e ++ sepT false ((e2 :: r).map (tokV n))) ++ ([] ++ [[41]]) = _
        simp
      rw [ee, txtT_app t.lst, txt_sep (N := n) fun x hx => hT x (List.mem_cons_of_mem _ hx)]
      rw [show (e :: e2 :: r).map (textV n) = textV n e :: (e2 :: r).map (textV n) from rfl, join_cm, ih e List.mem_cons_self]
      have em : ((e2 :: r).map (textV n)).map cm = ((e2 :: r).map (tokV n)).map fun x => cm (txtT x) := by
        rw [List.map_map, List.map_map]
        refine List.map_congr_left fun x hx => ?_
        show cm (textV n x) = cm (txtT (tokV n x))
        rw [ih x (List.mem_cons_of_mem _ hx)]
      rw [em]
      simp
theorem txtT_len {M : Nat} : ∀ {ts : List (List Nat)}, (∀ t, t ∈ ts → t.length ≤ M) → (txtT ts).length ≤ ts.length * (M + 1)
  | [], _ => Nat.zero_le _
  | t :: r, h => by
    have ih := txtT_len (ts := r) fun z hz => h z (List.mem_cons_of_mem _ hz)
    have ht := h t List.mem_cons_self
    show (t ++ ((if t = [44] ∧ r.head? ≠ some [41] then [32] else []) ++ txtT r)).length ≤ (r.length + 1) * (M + 1)
    have : (if t = [44] ∧ r.head? ≠ some [41] then [32] else [] : List Nat).length ≤ 1 := by split <;> decide
    rw [List.length_append, List.length_append, Nat.succ_mul]
    omega
theorem TkO.comma {N : Nat} {ts : List (List Nat)} (h : TkO N ts) (i : Nat) (e : ts[i]? = some [44]) : i + 1 < ts.length := by
  have hi : i < ts.length := (List.getElem?_eq_some_iff.mp e).1
  by_cases z : i + 1 < ts.length
  · exact z
  · have : i = ts.length - 1 := by omega
    subst this
    exact absurd (by rw [List.getLast?_eq_getElem?]; exact e) h.lst
end FP
set_option maxHeartbeats 4000000
/-! the plain law: a drawn value's tokens are read back -/
namespace FP
open PySem PySem.Spec PyProof.Rows L2
theorem drop_1 {ts : List (List Nat)} {i : Nat} {a : List Nat} {r : List (List Nat)} (h : ts.drop i = a :: r) : tok ts i = a ∧ ts.drop (i + 1) = r := by
  have hi : i < ts.length := by
    by_cases z : i < ts.length
    · exact z
    · rw [List.drop_eq_nil_of_le (by omega)] at h; cases h
  have e := List.drop_eq_getElem_cons hi
  rw [h] at e
  injection e with e1 e2
  refine ⟨?_, e2.symm⟩
  unfold tok
  rw [List.getD_eq_getElem?_getD, List.getElem?_eq_getElem hi, ← e1]; rfl
theorem drop_n {ts : List (List Nat)} {i : Nat} {x r : List (List Nat)} (h : ts.drop i = x ++ r) : ts.drop (i + x.length) = r := by
  rw [← List.drop_drop, h, List.drop_left]
theorem tok_nh {ts : List (List Nat)} {i c : Nat} {r : List (List Nat)} (h : ts.drop i = r) (n : r.head? ≠ some [c]) : tok ts i ≠ [c] := by
  cases r with
  | nil =>
    have : ts.length ≤ i := List.drop_eq_nil_iff.mp h
    unfold tok
    rw [List.getD_eq_getElem?_getD, List.getElem?_eq_none this]
    intro z; cases z
  | cons a r =>
    rw [(drop_1 h).1]
    intro z
    exact n (by rw [z]; rfl)
theorem pvS_int {ts : List (List Nat)} {i n : Nat} {bl : Bool} {post : List (List Nat)} (h : ts.drop i = TL.numL n :: post) (hp : post.head? ≠ some [47]) (hl : (TL.numL n).length ≤ 400) (hz : bl = true → n ≠ 0) : pvS ts bl i = .ok (i + 1) (if bl = true then oppD (.int (n : Nat)) else .int (n : Nat)) := by
  obtain ⟨e1, e2⟩ := drop_1 h
  have e3 := tok_nh e2 hp
  have ev : numV (TL.numL n) = n := TL.numL_val n
  unfold pvS
  rw [e1, numL_num hl, ev, if_neg (by decide), if_neg (fun z => hz z.1 z.2), if_neg (fun z => e3 z.2)]
theorem pvS_rat {ts : List (List Nat)} {i n b : Nat} {bl : Bool} {post : List (List Nat)} (h : ts.drop i = TL.numL n :: [47] :: TL.numL b :: post) (hl : (TL.numL n).length ≤ 400) (hl2 : (TL.numL b).length ≤ 400) (hz : n ≠ 0) (hb : 1 < b) (g : Nat.gcd n b = 1) : pvS ts bl i = .ok (i + 3) (if bl = true then oppD (.tuple [.int (n : Nat), .int (b : Nat)]) else .tuple [.int (n : Nat), .int (b : Nat)]) := by
  obtain ⟨e1, h2⟩ := drop_1 h
  obtain ⟨e2, h3⟩ := drop_1 h2
  obtain ⟨e3, _⟩ := drop_1 h3
  have ev : numV (TL.numL n) = n := TL.numL_val n
  have ew : numV (TL.numL b) = b := TL.numL_val b
  have er : (ratioOf (.tuple [.int (n : Nat), .int (b : Nat)])).isSome = true := by
    rw [ratio_pair, if_pos ⟨by omega, by rw [Int.natAbs_natCast, Int.natAbs_natCast]; exact g⟩]; rfl
  unfold pvS
  rw [e1, e2, e3, numL_num hl, numL_num hl2, ev, ew, er, if_neg (by decide), if_neg (fun z => hz z.2), if_pos ⟨hz, rfl⟩, if_neg (by decide), if_neg (by decide)]
theorem pv_rat {ts : List (List Nat)} {i m : Nat} {d : PyData} {t b : Int} {post : List (List Nat)} (hr : ratioOf d = some (t, b)) (h1 : t.natAbs < 10 ^ 40) (h2 : b ≤ 10 ^ 40) (h : ts.drop i = ratT t b ++ post) (hp : post.head? ≠ some [47]) : PV ts m i (.ok (i + (ratT t b).length) d) := by
  have l1 : (TL.numL t.natAbs).length ≤ 400 := Nat.le_trans (TL.numL_len (k := 41) (by decide) (by omega)) (by decide)
  have b0 : 0 < b := by rcases ratio_some hr with ⟨_, e⟩ | ⟨_, e, _⟩ <;> omega
  have l2 : (TL.numL b.natAbs).length ≤ 400 := Nat.le_trans (TL.numL_len (k := 41) (by decide) (by omega)) (by decide)
  have key : tok ts i ≠ [40] ∧ (.ok (i + (ratT t b).length) d : Res) = pvR ts i := by
    rcases ratio_some hr with ⟨rfl, rfl⟩ | ⟨rfl, hb, g⟩
    · unfold ratT at h ⊢
      rw [if_pos rfl] at h ⊢
      by_cases c : t < 0
      · rw [if_pos c] at h ⊢
        obtain ⟨e1, h2⟩ := drop_1 (a := [45]) (r := TL.numL t.natAbs :: post) h
        refine ⟨by rw [e1]; decide, ?_⟩
        unfold pvR
        rw [if_pos e1, pvS_int h2 hp l1 (fun _ => by omega), if_pos rfl]
        show Res.ok (i + 2) _ = .ok (i + 1 + 1) (.int (-(t.natAbs : Nat)))
        congr 2
        omega
      · rw [if_neg c] at h ⊢
        obtain ⟨e1, _⟩ := drop_1 (a := TL.numL t.natAbs) (r := post) h
        refine ⟨by rw [e1]; exact numL_not (by decide), ?_⟩
        unfold pvR
        rw [if_neg (by rw [e1]; exact numL_not (by decide)), pvS_int (n := t.natAbs) (bl := false) h hp l1 (fun z => Bool.noConfusion z), if_neg (by decide)]
        show Res.ok (i + 1) _ = .ok (i + 1) (.int ((t.natAbs : Nat) : Int))
        congr 2
        omega
    · have hb2 : 1 < b.natAbs := by omega
      have t0 : t.natAbs ≠ 0 := fun z => by rw [z, Nat.gcd_zero_left] at g; omega
      have n1 : ¬ b = 1 := by omega
      unfold ratT at h ⊢
      rw [if_neg n1] at h ⊢
      by_cases c : t < 0
      · rw [if_pos c] at h ⊢
        obtain ⟨e1, h2⟩ := drop_1 (a := [45]) (r := TL.numL t.natAbs :: [47] :: TL.numL b.natAbs :: post) h
        refine ⟨by rw [e1]; decide, ?_⟩
        unfold pvR
        rw [if_pos e1, pvS_rat h2 l1 l2 t0 hb2 g, if_pos rfl]
        show Res.ok (i + 4) _ = .ok (i + 1 + 3) (.tuple [.int (-(t.natAbs : Nat)), .int (b.natAbs : Nat)])
        have q1 : t = -(t.natAbs : Int) := by omega
        have q2 : b = (b.natAbs : Int) := by omega
        rw [← q1, ← q2]
      · rw [if_neg c] at h ⊢
        obtain ⟨e1, _⟩ := drop_1 (a := TL.numL t.natAbs) (r := [47] :: TL.numL b.natAbs :: post) h
        refine ⟨by rw [e1]; exact numL_not (by decide), ?_⟩
        unfold pvR
        rw [if_neg (by rw [e1]; exact numL_not (by decide)), pvS_rat (n := t.natAbs) (b := b.natAbs) (post := post) h l1 l2 t0 hb2 g, if_neg (by decide)]
        show Res.ok (i + 3) _ = .ok (i + 3) (.tuple [.int (t.natAbs : Nat), .int (b.natAbs : Nat)])
        have q1 : t = (t.natAbs : Int) := by omega
        have q2 : b = (b.natAbs : Int) := by omega
        rw [← q1, ← q2]
  cases m with
  | zero => exact key
  | succ m => exact .inl key
end FP
set_option maxHeartbeats 4000000
/-! the plain law: a drawn value's tokens are read back: tuples -/
namespace FP
open PySem PySem.Spec PyProof.Rows L2
/-- reading at a place where the tokens x stand -/
def Rd (F : Nat → Res → Prop) (ts : List (List Nat)) (x : List (List Nat)) (d : PyData) : Prop := ∀ i post, ts.drop i = x ++ post → post.head? ≠ some [47] → F i (.ok (i + x.length) d)
theorem pn_rest {F : Nat → Res → Prop} {ts post : List (List Nat)} {g : PyData → List (List Nat)} : ∀ {L : List PyData} {b : Nat} {acc : List PyData}, (∀ d, d ∈ L → Rd F ts (g d) d) → ts.drop b = sepT false (L.map g) ++ [41] :: post → PN F ts L.length b acc (.ok (b + (sepT false (L.map g)).length + 1) (.tuple (acc ++ L)))
  | [], b, acc, _, h => by
    refine .inl ⟨(drop_1 h).1, ?_⟩
    show Res.ok (b + 0 + 1) (.tuple (acc ++ [])) = _
    rw [List.append_nil]
  | d :: L, b, acc, hF, h => by
    have e : sepT false ((d :: L).map g) = [44] :: (g d ++ sepT false (L.map g)) := by
      show [[44]] ++ g d ++ sepT false (L.map g) = _
      simp
    rw [e] at h ⊢
    obtain ⟨e1, h2⟩ := drop_1 (a := [44]) (r := (g d ++ sepT false (L.map g)) ++ [41] :: post) h
    rw [List.append_assoc] at h2
    have hd : (sepT false (L.map g) ++ [41] :: post).head? ≠ some [47] := by
      cases L with
      | nil => show some [41] ≠ _; intro z; cases z
      | cons x L => show some [44] ≠ _; intro z; cases z
    have f := hF d List.mem_cons_self (b + 1) _ h2 hd
    have ih := pn_rest (L := L) (acc := acc ++ [d]) (fun z hz => hF z (List.mem_cons_of_mem _ hz)) (drop_n h2)
    refine .inl ⟨e1, .inr ⟨_, d, f, ?_⟩⟩
    rw [List.append_assoc] at ih
    rw [show b + ([44] :: (g d ++ sepT false (L.map g))).length + 1 = b + 1 + (g d).length + (sepT false (L.map g)).length + 1 by simp only [List.length_cons, List.length_append]; omega]
    exact ih
theorem Dt.pv {n : Nat} {d : PyData} (h : Dt n d) : ∀ {m : Nat} {ts : List (List Nat)}, n ≤ m → Rd (PV ts m) ts (tokV n d) d := by
  induction h with
  | @rat n d t b h1 h2 h3 =>
    intro m ts _ i post h hp
    rw [tokV_rat h1] at h ⊢
    exact pv_rat h1 h2 h3 h hp
  | @tup n ds h1 h2 h3 ih =>
    intro m ts hm i post h hp
    cases m with
    | zero => omega
    | succ m =>
      have ih2 : ∀ d, d ∈ ds → Rd (PV ts m) ts (tokV n d) d := fun d hd => ih d hd (by omega)
      rw [tokV_tup h1] at h ⊢
      obtain ⟨e1, q1⟩ := drop_1 (a := [40]) (r := (sepT true (ds.map (tokV n)) ++ ((if ds.length = 1 then [[44]] else []) ++ [[41]])) ++ post) h
      refine .inr ⟨e1, ?_⟩
      match ds, h3, ih2, q1 with
      | [], _, _, q1 =>
        refine .inl ⟨(drop_1 (a := [41]) (r := post) q1).1, rfl⟩
      | [e], h3, ih2, q1 =>
        rw [if_pos (show [e].length = 1 from rfl)] at q1 ⊢
        have t := (h3 e List.mem_cons_self).tks
        have ee : (sepT true ([e].map (tokV n)) ++ ([[44]] ++ [[41]])) ++ post = tokV n e ++ [44] :: [41] :: post := by simp [sepT]
        have el : (sepT true ([e].map (tokV n)) ++ ([[44]] ++ [[41]])).length = (tokV n e).length + 2 := by simp [sepT]
        rw [ee] at q1
        have hne : tok ts (i + 1) ≠ [41] := by
          refine tok_nh q1 ?_
          exact hd_app t.ne t.hd
        have f := ih2 e List.mem_cons_self (i + 1) _ q1 (by intro z; cases z)
        obtain ⟨a1, q2⟩ := drop_1 (drop_n q1)
        obtain ⟨a2, _⟩ := drop_1 q2
        refine .inr ⟨hne, .inr ⟨_, e, f, .inr (.inl ⟨a1, a2, ?_⟩)⟩⟩
        rw [List.length_cons, el]
        congr 1
        omega
      | e :: e2 :: r, h3, ih2, q1 =>
        rw [if_neg (show ¬ (e :: e2 :: r).length = 1 by simp)] at q1 ⊢
        have t := (h3 e List.mem_cons_self).tks
        have t2 := (h3 e2 (List.mem_cons_of_mem _ List.mem_cons_self)).tks
        have eb : sepT true ((e :: e2 :: r).map (tokV n)) = tokV n e ++ ([44] :: (tokV n e2 ++ sepT false (r.map (tokV n)))) := by
          show [] ++ tokV n e ++ ([[44]] ++ tokV n e2 ++ sepT false (r.map (tokV n))) = _
          simp
        have ee : (sepT true ((e :: e2 :: r).map (tokV n)) ++ ([] ++ [[41]])) ++ post = tokV n e ++ ([44] :: (tokV n e2 ++ (sepT false (r.map (tokV n)) ++ [41] :: post))) := by rw [eb]; simp
        rw [ee] at q1
        have hne : tok ts (i + 1) ≠ [41] := by
          refine tok_nh q1 ?_
          exact hd_app t.ne t.hd
        have f := ih2 e List.mem_cons_self (i + 1) _ q1 (by intro z; cases z)
        obtain ⟨a1, q2⟩ := drop_1 (drop_n q1)
        have hne2 : tok ts (i + 1 + (tokV n e).length + 1) ≠ [41] := by
          refine tok_nh q2 ?_
          exact hd_app t2.ne t2.hd
        have hd3 : (sepT false (r.map (tokV n)) ++ [41] :: post).head? ≠ some [47] := by
          cases r with
          | nil => show some [41] ≠ _; intro z; cases z
          | cons x L => show some [44] ≠ _; intro z; cases z
        have f2 := ih2 e2 (List.mem_cons_of_mem _ List.mem_cons_self) _ _ q2 hd3
        have p := pn_rest (F := PV ts m) (g := tokV n) (L := r) (acc := [e, e2]) (fun z hz => ih2 z (List.mem_cons_of_mem _ (List.mem_cons_of_mem _ hz))) (drop_n q2)
        refine .inr ⟨hne, .inr ⟨_, e, f, .inr (.inr ⟨a1, hne2, .inr ⟨_, e2, f2, r.length, ?_, ?_⟩⟩)⟩⟩
        · have : (e :: e2 :: r).length ≤ 3 := h2
          simp only [List.length_cons] at this
          omega
        · rw [show i + ([40] :: (sepT true ((e :: e2 :: r).map (tokV n)) ++ ([] ++ [[41]]))).length = i + 1 + (tokV n e).length + 1 + (tokV n e2).length + (sepT false (r.map (tokV n))).length + 1 by rw [eb]; simp only [List.length_cons, List.length_append, List.length_nil]; omega]
          exact p
end FP
set_option maxHeartbeats 4000000
/-! the plain law: every list of tokens has an end -/
namespace FP
open PySem PySem.Spec PyProof.Rows L2
def Far (i : Nat) (r : Res) : Prop := ∀ a d, r = .ok a d → i ≤ a
theorem Far.err {i e : Nat} : Far i (.err e) := fun _ _ z => nomatch z
theorem Far.ok {i a : Nat} {d : PyData} (h : i ≤ a) : Far i (.ok a d) := fun _ _ z => by cases z; exact h
theorem Far.mono {i j : Nat} {r : Res} (h : Far i r) (e : j ≤ i) : Far j r := fun a d z => Nat.le_trans e (h a d z)
theorem pvS_far {ts : List (List Nat)} {bl : Bool} {i : Nat} : Far i (pvS ts bl i) := by
  unfold pvS
  split
  · exact .err
  · split
    · exact .err
    · split
      · split
        · exact .err
        · split
          · exact .err
          · exact .ok (by omega)
      · exact .ok (by omega)
theorem pvR_far {ts : List (List Nat)} {i : Nat} : Far i (pvR ts i) := by
  unfold pvR
  split
  · exact pvS_far.mono (by omega)
  · exact pvS_far
theorem drop_tok {ts : List (List Nat)} {i : Nat} {c : List Nat} (h : tok ts i = c) (n : c ≠ []) : i < ts.length ∧ ts.drop i = c :: ts.drop (i + 1) := by
  have hi : i < ts.length := by
    by_cases z : i < ts.length
    · exact z
    · unfold tok at h
      rw [List.getD_eq_getElem?_getD, List.getElem?_eq_none (by omega)] at h
      exact absurd h.symm n
  refine ⟨hi, ?_⟩
  rw [List.drop_eq_getElem_cons hi]
  unfold tok at h
  rw [List.getD_eq_getElem?_getD, List.getElem?_eq_getElem hi] at h
  rw [← h]; rfl
theorem drop_cnt {ts : List (List Nat)} {i j : Nat} (h : i ≤ j) : (ts.drop j).count [40] ≤ (ts.drop i).count [40] := by
  rw [show j = i + (j - i) by omega, ← List.drop_drop]
  exact (List.drop_sublist _ _).count_le _
theorem pn_tot {F : Nat → Res → Prop} {ts : List (List Nat)} {i0 : Nat} (hF : ∀ i, i0 ≤ i → ∃ r, F i r ∧ Far i r) : ∀ (m b : Nat) (acc : List PyData), i0 ≤ b → ts.length ≤ m + b → ∃ r, PN F ts m b acc r ∧ Far b r
  | 0, b, acc, _, h => by
    have e : tok ts b = [] := by
      unfold tok
      rw [List.getD_eq_getElem?_getD, List.getElem?_eq_none (by omega)]; rfl
    exact ⟨.err b, .inr ⟨by rw [e]; decide, by rw [e]; decide, rfl⟩, .err⟩
  | m + 1, b, acc, hb, h => by
    by_cases c : tok ts b = [44]
    · obtain ⟨r, hr, fr⟩ := hF (b + 1) (by omega)
      cases r with
      | err e => exact ⟨.err e, .inl ⟨c, .inl ⟨e, hr, rfl⟩⟩, .err⟩
      | ok a d =>
        have ha := fr a d rfl
        obtain ⟨r2, h2, f2⟩ := pn_tot (ts := ts) hF m a (acc ++ [d]) (by omega) (by omega)
        exact ⟨r2, .inl ⟨c, .inr ⟨a, d, hr, h2⟩⟩, f2.mono (by omega)⟩
    · by_cases c2 : tok ts b = [41]
      · exact ⟨_, .inr (.inl ⟨c2, rfl⟩), .ok (by omega)⟩
      · exact ⟨_, .inr (.inr ⟨c, c2, rfl⟩), .err⟩
theorem pv_tot {ts : List (List Nat)} (hl : ts.length ≤ 1000) : ∀ (n i : Nat), (ts.drop i).count [40] ≤ n → ∃ r, PV ts n i r ∧ Far i r
  | 0, i, h => by
    refine ⟨pvR ts i, ⟨fun z => ?_, rfl⟩, pvR_far⟩
    rw [(drop_tok z (by decide)).2, List.count_cons, if_pos (by decide)] at h
    omega
  | n + 1, i, h => by
    by_cases c : tok ts i = [40]
    · rw [(drop_tok c (by decide)).2, List.count_cons, if_pos (by decide)] at h
      have hF : ∀ j, i + 1 ≤ j → ∃ r, PV ts n j r ∧ Far j r := fun j hj => pv_tot hl n j (Nat.le_trans (drop_cnt hj) (by omega))
      by_cases c1 : tok ts (i + 1) = [41]
      · exact ⟨_, .inr ⟨c, .inl ⟨c1, rfl⟩⟩, .ok (by omega)⟩
      · obtain ⟨r, hr, fr⟩ := hF (i + 1) (Nat.le_refl _)
        cases r with
        | err e => exact ⟨.err e, .inr ⟨c, .inr ⟨c1, .inl ⟨e, hr, rfl⟩⟩⟩, .err⟩
        | ok a d =>
          have ha := fr a d rfl
          by_cases c2 : tok ts a = [44]
          · by_cases c3 : tok ts (a + 1) = [41]
            · exact ⟨_, .inr ⟨c, .inr ⟨c1, .inr ⟨a, d, hr, .inr (.inl ⟨c2, c3, rfl⟩)⟩⟩⟩, .ok (by omega)⟩
            · obtain ⟨r2, h2, f2⟩ := hF (a + 1) (by omega)
              cases r2 with
              | err e => exact ⟨.err e, .inr ⟨c, .inr ⟨c1, .inr ⟨a, d, hr, .inr (.inr ⟨c2, c3, .inl ⟨e, h2, rfl⟩⟩)⟩⟩⟩, .err⟩
              | ok b d2 =>
                have hb := f2 b d2 rfl
                obtain ⟨r3, h3, f3⟩ := pn_tot (ts := ts) hF (ts.length - b) b [d, d2] (by omega) (by omega)
                exact ⟨r3, .inr ⟨c, .inr ⟨c1, .inr ⟨a, d, hr, .inr (.inr ⟨c2, c3, .inr ⟨b, d2, h2, _, by omega, h3⟩⟩)⟩⟩⟩, f3.mono (by omega)⟩
          · exact ⟨.err a, .inr ⟨c, .inr ⟨c1, .inr ⟨a, d, hr, .inl ⟨c2, rfl⟩⟩⟩⟩, .err⟩
    · exact ⟨pvR ts i, .inl ⟨c, rfl⟩, pvR_far⟩
theorem tokV_up {n : Nat} {d : PyData} (h : Dt n d) : tokV (n + 1) d = tokV n d := by
  induction h with
  | rat h1 h2 h3 => rw [tokV_rat h1, tokV_rat h1]
  | @tup n ds h1 h2 h3 ih =>
    rw [tokV_tup h1, tokV_tup h1, List.map_congr_left ih]
end FP
set_option maxHeartbeats 1000000
namespace FP
open PySem PySem.Spec PyProof.Rows L2
local macro_rules | `(tactic| walk_at "rd") => `(tactic| dsimp only [tVar, tC, tCmp, tIsN, tNotN, tB, tAnd, tOr, tNot, tAndV, tOrV, tNotV, tIf, tNext, tSeq, tBreak, tCont, tDrop, tRet, tRetN, tIfS, tNever, tAsg, tPar, tAug, tOp, tUn, tTest, tChain, tFld, tNil, tCons, tTup, tLst, tCB, iList, iTup, iStr, tLc, tM0, tM1, tPart, tNoPart, tSl, tBM, tCallS, tCallSD, tMethW, tMake, sDPut, tDisp, tPairs, tXf, WE, tDGet, tDIn, gName, gTup, gCons, gNil, gSub, sFld, sFldAug, rI, rI0, rU, rEq, rNe, rAdd, rSub, t2I, tYes, cx_K, cx_w, cx_prog])
local macro_rules | `(tactic| walk_at "rs") => `(tactic| (try simp (maxSteps := 4000000) only [L2.start, List.map_cons, List.map_nil, List.length_cons, List.length_nil, List.cons_append, List.nil_append, Nat.reduceAdd, Nat.reduceSub, Nat.zero_add, List.replicate, List.getElem?_cons_zero, List.getElem?_cons_succ, Option.some.injEq, exists_eq_left', exists_eq_left, V.int.injEq, V.str.injEq, V.bl.injEq, V.ref.injEq, List.set_cons_zero, List.set_cons_succ, exists_and_left, List.cons.injEq, and_true, true_and, wipe, if_true, if_false, Bool.not_true, Bool.not_false, Bool.false_eq_true, decide_true, decide_false]))
local macro_rules | `(tactic| walk_at "r") => `(tactic| (walk_at "rd"; walk_at "rs"))
local macro_rules | `(tactic| walk_at "T") => `(tactic| (rw [if_pos (by first | assumption | rfl | decide | exact decide_eq_true (by assumption) | (simp [tyOf]; done) | (simp; omega) | omega)]; walk_at "rs"))
local macro_rules | `(tactic| walk_at "F") => `(tactic| (rw [if_neg (by first | assumption | decide | (simp [tyOf]; done) | (simp; omega) | (simp; assumption) | omega)]; walk_at "rs"))
open LamX
/-! ### _law_fault with a lambda -/
structure FltC (P : Program) (w : World) (K : PySem.W.Frag) (mg : Str → Option Value) (base : Heap) (CT CR : Addr) : Prop where
  ex : ∃ (g : Addr) (fdg : FuncData) (CF : Addr), C8.Def K mg "_law_fault" s_law_fault g fdg ∧ Binds K fdg ["call"] [] ∧ mg "FieldError" = some (.ref CF) ∧ PySem.W.exmOne K (.ref CT) (.ref CF) = some true ∧ PySem.W.exmOne K (.ref CR) (.ref CF) = some true
  Z : Zb mg
  cT : L2.ExcC K CT
  cR : L2.ExcC K CR
  vT : PySem.W.kitOne K (.ref CT) (.type "ValueError") = some true
  vR : PySem.W.kitOne K (.ref CR) (.type "ValueError") = some true
  nV : mg "ValueError" = none
  kinds : CalE P w K mg base 2 "_law_kinds" (sp_kinds K CT CR)
theorem cx_ql {CX : CXT} {P : Program} {w : World} {K : PySem.W.Frag} {mg : Str → Option Value} {base : Heap} {N : List Str} {q : Str} {sc : Scope} {f : Addr} {cdv : Value} {A : Around} {outer : List Env} {s : Shared} {H : Hp} {E : XK} : (cxOf CX P w K mg base N q sc f cdv A outer s H E).env.qual ++ "<lambda>" = (q ++ ".<locals>.") ++ "<lambda>" := rfl
theorem room_L {k : Nat} {A : Around} {e1 e2 : Env} (h : Room k (A.deeper e1)) : Room k (A.deeper e2) := by cases h; constructor <;> assumption
section
variable {X : Cx}
theorem pe_flt {CT CR : Addr} {T : List (Addr × Str)} {c P : Addr} {k : Nat} {params : Arguments} {body : Expr} {sc : Scope} {t : XK → TE} {p lpos pos : Pos} (F : FltC X.prog X.w X.K X.mg X.base CT CR) (gx : Gl X "_law_fault") (hg : X.A.guards = some [])
    (TB : TabB X.base X.mg c P) (hcode : X.env.code = .ref c) {ql : Str} (hq : X.env.qual ++ "<lambda>" = ql) (hmT : (P, ql) ∈ T) (hu : ∀ p ∈ T, p.1 = P → p.2 = ql) (hr : Room (k + 2) X.A) (hk : 2 ≤ k) (L : LamS X.env.scope sc) (hdef : defaultsOf params X.env = ([], []))
    (hbind : ∀ (q : Str) (cl : List (Str × Addr)) (pm cv ctv : Value), bindArgs (PySem.W.kla_fn "<lambda>" q params body sc cl pm cv ctv) ⟨[], []⟩ = pure [])
    (hbody : ∀ (A : Around) (outer : List Env) (s : Shared) (H : Hp) (E : XK) (f c : Addr), Room k (lamN X A outer s H E sc f c).A → PE (lamN X A outer s H E sc f c) body (t E)) :
    PE X (.Call (.Name "_law_fault" p) [.Lambda params body sc lpos] [] pos) (tLam T (TTflt X.K CT CR) t) := by
  subst hq
  obtain ⟨g, fdg, CF, D, b, gF, xT, xR⟩ := F.ex
  obtain ⟨oc, od, dV, kV, doc, pm, an, cdv, ct, osl, rfl, lk, hcd⟩ := D.fn.ex
  exact pe_lamN (k := k) (Ng := ["call", "found", "e"]) gx D.mgf D.kp lk hcd b sc_law_fault rfl (Or.inl rfl) (flt_gives F.Z hg gF xT xR F.cT F.cR F.vT F.vR F.nV F.kinds hk) TB hcode hmT hu hr L hdef hbind fun A outer s H E f c _ hr2 => hbody A outer s H E f c (room_L hr2)
end
section
variable {P : Program} {w : World} {K : PySem.W.Frag} {mg : Str → Option Value} {base : Heap} {f c Pt : Addr} {fd : FuncData} {CT CR : Addr} {T : List (Addr × Str)}
def sp_law_read_fault (K : PySem.W.Frag) (T : List (Addr × Str)) : Sp := fun vs H Q _ => ∃ v k, vs = [v] ∧ Kd K H v k ∧ (k == "str") = false ∧ (∀ H', ExtN H H' → Kd K H' v k) ∧ Tabs T H ∧ ∀ l H', ExtN H H' → Tabs T H' → SqT K H' l [.str "text", .int 0, .int 0] → Q (.ref l) H'
theorem ok_law_read_fault (D : C8.Def K mg "_law_read_fault" s_law_read_fault f fd) (hc : fd.code = .ref c) (b : Binds K fd ["text"] []) (F : FltC P w K mg base CT CR) {n : Nat} (c_value_of_text : CalX P w K mg base (n + 8) "value_of_text" (sp_value_of_text K CT n)) (TB : TabB base mg c Pt) {ql : Str} (hq : (("_law_read_fault" : Str) ++ ".<locals>.") ++ "<lambda>" = ql) (hmT : (Pt, ql) ∈ T) (hu : ∀ p ∈ T, p.1 = Pt → p.2 = ql) : CalG P w K mg base (n + 11) "_law_read_fault" (sp_law_read_fault K T) := by
  refine calG D hc b sc_law_read_fault (fun vs H Q E h => by obtain ⟨v, k, rfl, _⟩ := h; rfl) fun A outer s H vs Q E hg hr h => ?_
  obtain ⟨v, k, rfl, kd, ks, kup, hT, q⟩ := h
  have nd := sc_law_read_fault.nd
  refine ⟨_, pss_one (ps_ret (pe_flt (T := T) (P := Pt) (k := n + 8) F rfl hg TB rfl (cx_ql.trans hq) hmT hu hr (by omega) (lamS_by (sc := C8.fnScope s_law_read_fault) (by decide +kernel)) rfl (fun _ _ _ _ _ => rfl) (fun A outer s H E f c hr2 => pe_x c_value_of_text hr2 (Nat.le_refl _) tkN rfl (pa_cons (pv 0) pa_nil)))), ?_⟩
  walk_at "r"
  dsimp only [tLam, TTflt]
  refine ⟨hT, fun H1 eN T1 E hE => ⟨v, rfl, .inr ⟨v, k, rfl, kup H1 eN, ks, fun H' dd e hdd => hE _ _ _ (.inl ⟨dd, 0, 0, rfl, rfl, hdd, fun t H2 e2 st => ?_⟩)⟩⟩⟩
  exact q t H2 ((eN.trans (ExtN.of e)).trans (ExtN.of e2)) ((T1.ext e).ext e2) st
end
end FP
set_option maxHeartbeats 4000000
/-! texts times whole numbers -/
namespace FP
open PySem PySem.Spec PyProof.Rows L2
theorem op_mulS {X : Cx} : OpR X (binaryOp .Mult) (fun x y H Q => ∃ i n, x = .str i ∧ y = .int n ∧ MulOk i n ∧ Q (.str (Txt.mul i n)) H) := by
  intro pins s σ H x y v u Q I rx ry h
  obtain ⟨i, n, rfl, rfl, hok, q⟩ := h
  obtain ⟨t, rfl⟩ := rx
  obtain ⟨t', rfl⟩ := ry
  exact SB.mul hok fun t' tk => ⟨.str (Txt.mul i n), H, I.tok _, ⟨_, rfl⟩, q⟩
theorem mul7 : Txt.mul (Str.ofString "7") 401 = SX.S (List.replicate 401 55) := by decide +kernel
theorem mul7k : MulOk (Str.ofString "7") 401 := ⟨by decide +kernel, fun _ _ => by decide +kernel, fun _ _ => by decide +kernel⟩
theorem mul0 : Txt.mul (Str.ofString "0") 400 = SX.S (List.replicate 400 48) := by decide +kernel
theorem mul0k : MulOk (Str.ofString "0") 400 := ⟨by decide +kernel, fun _ _ => by decide +kernel, fun _ _ => by decide +kernel⟩
end FP
set_option maxHeartbeats 4000000
/-! the plain law: what is read lies within the tokens; tokens with one thing changed -/
namespace FP
open PySem PySem.Spec PyProof.Rows L2
def Inn (L : Nat) (r : Res) : Prop := ∀ a d, r = .ok a d → a ≤ L
theorem Inn.err {L e : Nat} : Inn L (.err e) := fun _ _ z => nomatch z
theorem Inn.ok {L a : Nat} {d : PyData} (h : a ≤ L) : Inn L (.ok a d) := fun _ _ z => by cases z; exact h
theorem num_in {ts : List (List Nat)} {i : Nat} (h : isNum (tok ts i) = true) : i < ts.length := by
  by_cases z : i < ts.length
  · exact z
  · have e : tok ts i = [] := by
      unfold tok
      rw [List.getD_eq_getElem?_getD, List.getElem?_eq_none (by omega)]; rfl
    rw [e] at h
    exact absurd h (by decide)
theorem pvS_in {ts : List (List Nat)} {bl : Bool} {i : Nat} : Inn ts.length (pvS ts bl i) := by
  unfold pvS
  split
  · exact .err
  · rename_i h1
    have h1 : isNum (tok ts i) = true := by cases h : isNum (tok ts i) with | true => rfl | false => exact absurd h h1
    have := num_in h1
    split
    · exact .err
    · split
      · split
        · exact .err
        · rename_i h2
          have h2 : isNum (tok ts (i + 2)) = true := by cases h : isNum (tok ts (i + 2)) with | true => rfl | false => exact absurd h h2
          have := num_in h2
          split
          · exact .err
          · exact .ok (by omega)
      · exact .ok (by omega)
theorem pvR_in {ts : List (List Nat)} {i : Nat} : Inn ts.length (pvR ts i) := by
  unfold pvR
  split <;> exact pvS_in
theorem tok_in {ts : List (List Nat)} {i : Nat} {c : List Nat} (h : tok ts i = c) (n : c ≠ []) : i + 1 ≤ ts.length := (drop_tok h n).1
theorem pn_in {F : Nat → Res → Prop} {ts : List (List Nat)} (hF : ∀ i r, F i r → Inn ts.length r) : ∀ (m b : Nat) (acc : List PyData) (r : Res), PN F ts m b acc r → Inn ts.length r
  | 0, b, acc, r, h => by
    rcases h with ⟨h, rfl⟩ | ⟨_, _, rfl⟩
    · exact .ok (tok_in h (by decide))
    · exact .err
  | m + 1, b, acc, r, h => by
    rcases h with ⟨_, ⟨e, _, rfl⟩ | ⟨a, d, _, h⟩⟩ | ⟨h, rfl⟩ | ⟨_, _, rfl⟩
    · exact .err
    · exact pn_in hF m a _ r h
    · exact .ok (tok_in h (by decide))
    · exact .err
theorem pv_in {ts : List (List Nat)} : ∀ (n i : Nat) (r : Res), PV ts n i r → Inn ts.length r
  | 0, i, r, h => by rw [h.2]; exact pvR_in
  | n + 1, i, r, h => by
    rcases h with ⟨_, rfl⟩ | ⟨_, ⟨h, rfl⟩ | ⟨_, h⟩⟩
    · exact pvR_in
    · exact .ok (tok_in h (by decide))
    · rcases h with ⟨e, _, rfl⟩ | ⟨a, d, _, h⟩
      · exact .err
      · rcases h with ⟨_, rfl⟩ | ⟨_, h, rfl⟩ | ⟨_, _, h⟩
        · exact .err
        · exact .ok (tok_in h (by decide))
        · rcases h with ⟨e, _, rfl⟩ | ⟨b, d', _, m, _, h⟩
          · exact .err
          · exact pn_in (fun i r => pv_in n i r) m b _ r h
/-! ### one thing changed -/
def oddL : List (List Nat) := [[40], [41], [44], [45], [47], [48], [49], [50], [48, 54], [120], [43], List.replicate 401 55]
theorem odd_good : ∀ t, t ∈ oddL → Gtok t ∧ t.length ≤ 401 := by
  intro t ht
  simp only [oddL, List.mem_cons, List.not_mem_nil, or_false] at ht
  have f : ∀ (l : List Nat), l ≠ [] → (l.all fun x => decide (x ∈ figL)) = true → Gtok l := fun l h1 h2 => .inr (.inl ⟨h1, fun x hx => of_decide_eq_true (List.all_eq_true.mp h2 x hx)⟩)
  have s43 : Symt [43] := ⟨43, rfl, by decide, by decide, by decide⟩
  rcases ht with rfl | rfl | rfl | rfl | rfl | rfl | rfl | rfl | rfl | rfl | rfl | rfl
  · exact ⟨.inl sy40, by decide⟩
  · exact ⟨.inl sy41, by decide⟩
  · exact ⟨.inl sy44, by decide⟩
  · exact ⟨.inl sy45, by decide⟩
  · exact ⟨.inl sy47, by decide⟩
  · exact ⟨f _ (by decide) (by decide), by decide⟩
  · exact ⟨f _ (by decide) (by decide), by decide⟩
  · exact ⟨f _ (by decide) (by decide), by decide⟩
  · exact ⟨f _ (by decide) (by decide), by decide⟩
  · exact ⟨.inr (.inr ⟨by decide, fun x hx => by rw [List.mem_singleton.mp hx]; decide⟩), by decide⟩
  · exact ⟨.inl s43, by decide⟩
  · refine ⟨.inr (.inl ⟨by simp, fun x hx => ?_⟩), by simp⟩
    rw [(List.mem_replicate.mp hx).2]; decide
theorem sum_le {M : Nat} : ∀ {ps : List (List Nat)}, (∀ t, t ∈ ps → t.length ≤ M) → (ps.map (·.length)).sum ≤ ps.length * M
  | [], _ => Nat.zero_le _
  | p :: r, h => by
    have ih := sum_le (ps := r) fun t ht => h t (List.mem_cons_of_mem _ ht)
    have hp := h p List.mem_cons_self
    show p.length + (r.map (·.length)).sum ≤ (r.length + 1) * M
    rw [Nat.succ_mul]
    omega
/-- the four ways to change tokens -/
def chg (ts : List (List Nat)) (a : Nat) (o : List Nat) : List (List (List Nat)) := [ts.take a ++ [o] ++ ts.drop (a + 1), ts.take a ++ [o] ++ ts.drop a, ts.take a ++ ts.drop (a + 1), ts.take a]
structure Chg (us : List (List Nat)) : Prop where
  good : ∀ t, t ∈ us → Gtok t ∧ t.length ≤ 401
  few : us.length ≤ 400
  deep : us.count [40] ≤ 20
  sum : (us.map (·.length)).sum ≤ 20000
theorem chg_ok {ts : List (List Nat)} {a : Nat} {o : List Nat} (h : TkO 3 ts) (ha : a < ts.length) (ho : o ∈ oddL) {us : List (List Nat)} (hu : us ∈ chg ts a o) : Chg us := by
  have few : ts.length ≤ 384 := h.few
  have deep : 2 * ts.count [40] + 1 ≤ 27 := h.deep
  have g1 : ∀ k t, t ∈ ts.take k → Gtok t ∧ t.length ≤ 401 := fun k t ht => ⟨(h.good t (List.mem_of_mem_take ht)).1, Nat.le_trans (h.good t (List.mem_of_mem_take ht)).2 (by decide)⟩
  have g2 : ∀ k t, t ∈ ts.drop k → Gtok t ∧ t.length ≤ 401 := fun k t ht => ⟨(h.good t (List.mem_of_mem_drop ht)).1, Nat.le_trans (h.good t (List.mem_of_mem_drop ht)).2 (by decide)⟩
  have g3 : ∀ t, t ∈ [o] → Gtok t ∧ t.length ≤ 401 := fun t ht => by rw [List.mem_singleton.mp ht]; exact odd_good o ho
  have c0 : ts.count [40] = (ts.take a).count [40] + (ts.drop a).count [40] := by rw [← List.count_append, List.take_append_drop]
  have c1 : (ts.drop (a + 1)).count [40] ≤ (ts.drop a).count [40] := drop_cnt (Nat.le_succ a)
  have c2 : ([o] : List (List Nat)).count [40] ≤ 1 := Nat.le_trans List.count_le_length (by simp)
  have lt : (ts.take a).length ≤ a := by rw [List.length_take]; omega
  have u1 := sum_le (M := 41) (ps := ts.take a) fun t ht => (h.good t (List.mem_of_mem_take ht)).2
  have u2 : ∀ k, ((ts.drop k).map (·.length)).sum ≤ (ts.length - k) * 41 := fun k => by
    have := sum_le (M := 41) (ps := ts.drop k) fun t ht => (h.good t (List.mem_of_mem_drop ht)).2
    rw [List.length_drop] at this
    exact this
  have u3 := (odd_good o ho).2
  have u4 := u2 a
  have u5 := u2 (a + 1)
  simp only [chg, List.mem_cons, List.not_mem_nil, or_false] at hu
  rcases hu with rfl | rfl | rfl | rfl
  · refine ⟨fun t ht => ?_, by simp only [List.length_append, List.length_cons, List.length_nil, List.length_drop]; omega, by simp only [List.count_append]; omega, by simp only [List.map_append, List.sum_append, List.map_cons, List.map_nil, List.sum_cons, List.sum_nil]; omega⟩
    rcases List.mem_append.mp ht with ht | ht
    · rcases List.mem_append.mp ht with ht | ht
      · exact g1 _ t ht
      · exact g3 t ht
    · exact g2 _ t ht
  · refine ⟨fun t ht => ?_, by simp only [List.length_append, List.length_cons, List.length_nil, List.length_drop]; omega, by simp only [List.count_append]; omega, by simp only [List.map_append, List.sum_append, List.map_cons, List.map_nil, List.sum_cons, List.sum_nil]; omega⟩
    rcases List.mem_append.mp ht with ht | ht
    · rcases List.mem_append.mp ht with ht | ht
      · exact g1 _ t ht
      · exact g3 t ht
    · exact g2 _ t ht
  · refine ⟨fun t ht => ?_, by simp only [List.length_append, List.length_drop]; omega, by simp only [List.count_append]; omega, by simp only [List.map_append, List.sum_append, List.map_cons, List.map_nil, List.sum_cons, List.sum_nil]; omega⟩
    rcases List.mem_append.mp ht with ht | ht
    · exact g1 _ t ht
    · exact g2 _ t ht
  · exact ⟨g1 _, by omega, by omega, by omega⟩
theorem fig_cps : ∀ c, c ∈ figL → c < 1114112 := by decide
theorem one_cps {c : Nat} (h : c < 1114112) : Cps [c] := fun x hx => by rw [List.mem_singleton.mp hx]; exact h
theorem numL_cps (n : Nat) : Cps (TL.numL n) := fun c hc => fig_cps c (numL_fig hc)
theorem Dt.cps {n : Nat} {d : PyData} (h : Dt n d) : ∀ t, t ∈ tokV n d → Cps t := by
  induction h with
  | @rat n d t b h1 h2 h3 =>
    rw [tokV_rat h1]
    intro x hx
    unfold ratT at hx
    rcases List.mem_append.mp hx with hx | hx
    · split at hx
      · rw [List.mem_singleton.mp hx]; exact one_cps (by decide)
      · cases hx
    · split at hx
      · rw [List.mem_singleton.mp hx]; exact numL_cps _
      · simp only [List.mem_cons, List.not_mem_nil, or_false] at hx
        rcases hx with rfl | rfl | rfl
        · exact numL_cps _
        · exact one_cps (by decide)
        · exact numL_cps _
  | @tup n ds h1 h2 h3 ih =>
    rw [tokV_tup h1]
    intro t ht
    rcases List.mem_cons.mp ht with rfl | ht
    · exact one_cps (by decide)
    · rcases List.mem_append.mp ht with ht | ht
      · rcases sepT_all ht with rfl | ⟨x, hx, ht⟩
        · exact one_cps (by decide)
        · obtain ⟨e, he, rfl⟩ := List.mem_map.mp hx
          exact ih e he t ht
      · rcases List.mem_append.mp ht with ht | ht
        · split at ht
          · rw [List.mem_singleton.mp ht]; exact one_cps (by decide)
          · cases ht
        · rw [List.mem_singleton.mp ht]; exact one_cps (by decide)
theorem odd_cps : ∀ t, t ∈ oddL → Cps t := by
  intro t ht
  simp only [oddL, List.mem_cons, List.not_mem_nil, or_false] at ht
  rcases ht with rfl | rfl | rfl | rfl | rfl | rfl | rfl | rfl | rfl | rfl | rfl | rfl
  all_goals first
    | exact one_cps (by decide)
    | (intro c hc; have h : c ∈ figL := by { simp at hc; rcases hc with rfl | rfl <;> decide }; exact fig_cps c h)
    | (intro c hc; rw [(List.mem_replicate.mp hc).2]; decide)
theorem chg_cps {ts : List (List Nat)} {a : Nat} {o : List Nat} (h : ∀ t, t ∈ ts → Cps t) (ho : o ∈ oddL) {us : List (List Nat)} (hu : us ∈ chg ts a o) : ∀ t, t ∈ us → Cps t := by
  have g1 : ∀ k t, t ∈ ts.take k → Cps t := fun k t ht => h t (List.mem_of_mem_take ht)
  have g2 : ∀ k t, t ∈ ts.drop k → Cps t := fun k t ht => h t (List.mem_of_mem_drop ht)
  have g3 : ∀ t, t ∈ [o] → Cps t := fun t ht => by rw [List.mem_singleton.mp ht]; exact odd_cps o ho
  simp only [chg, List.mem_cons, List.not_mem_nil, or_false] at hu
  rcases hu with rfl | rfl | rfl | rfl
  · intro t ht
    rcases List.mem_append.mp ht with ht | ht
    · rcases List.mem_append.mp ht with ht | ht
      · exact g1 _ t ht
      · exact g3 t ht
    · exact g2 _ t ht
  · intro t ht
    rcases List.mem_append.mp ht with ht | ht
    · rcases List.mem_append.mp ht with ht | ht
      · exact g1 _ t ht
      · exact g3 t ht
    · exact g2 _ t ht
  · intro t ht
    rcases List.mem_append.mp ht with ht | ht
    · exact g1 _ t ht
    · exact g2 _ t ht
  · exact g1 _
end FP
set_option maxHeartbeats 4000000
/-! what stays: all but the pen and the tables -/
namespace FP
open PySem PySem.Spec PyProof.Rows L2 LamX
def rJoin (K : PySem.W.Frag) : V → List V → Hp → VK → Prop := fun x xs H Q => ∃ a p, ∃ ys : List Str, x = .str a ∧ xs = [.ref p] ∧ (SqL K H p (ys.map V.str) ∨ SqT K H p (ys.map V.str)) ∧ (ys.map (·.length)).sum + ys.length * a.length ≤ 16777216 ∧ Q (.str (Txt.join a ys)) H
/-- all but the pen and the tables stay -/
def ButN (p : Addr) (H H' : Hp) : Prop := ∀ b o, ¬ b = p → H b = some o → (∀ ps, o ≠ .tbl ps) → H' b = some o
theorem ButN.refl (p : Addr) (H : Hp) : ButN p H H := fun _ _ _ h _ => h
theorem ButN.trans {p : Addr} {H H1 H2 : Hp} (a : ButN p H H1) (b : ButN p H1 H2) : ButN p H H2 := fun c o n h t => b c o n (a c o n h t) t
theorem ButN.but {p : Addr} {H H1 : Hp} (e : But (· = p) H H1) : ButN p H H1 := fun c o n h _ => e c o n h
theorem ButN.same {p : Addr} {H H1 : Hp} (e : Same H H1) : ButN p H H1 := fun c o _ h _ => e c o h
theorem ButN.ext {p : Addr} {H H1 : Hp} (e : ExtN H H1) : ButN p H H1 := fun c o _ h t => e c o h t
theorem ButN.lst {p l : Addr} {H H1 : Hp} {xs : List V} (e : ButN p H H1) (n : ¬ l = p) (h : H l = some (.lst xs)) : H1 l = some (.lst xs) := e l _ n h fun _ z => nomatch z
theorem ButN.seqL {K : PySem.W.Frag} {p l : Addr} {H H1 : Hp} {xs : List V} (e : ButN p H H1) (n : ¬ l = p) (h : SqL K H l xs) : SqL K H1 l xs := by
  rcases h with (h | ⟨o, h⟩) | h
  · exact .inl (.inl (e _ _ n h fun _ z => nomatch z))
  · exact .inl (.inr ⟨o, e _ _ n h fun _ z => nomatch z⟩)
  · exact .inr h
theorem SqL.extN {K : PySem.W.Frag} {l : Addr} {H H1 : Hp} {xs : List V} (e : ExtN H H1) (h : SqL K H l xs) : SqL K H1 l xs := by
  rcases h with (h | ⟨o, h⟩) | h
  · exact .inl (.inl (e _ _ h fun _ z => nomatch z))
  · exact .inl (.inr ⟨o, e _ _ h fun _ z => nomatch z⟩)
  · exact .inr h
theorem SqT.extN {K : PySem.W.Frag} {l : Addr} {H H1 : Hp} {xs : List V} (e : ExtN H H1) (h : SqT K H l xs) : SqT K H1 l xs := by
  rcases h with (h | ⟨o, h⟩) | h
  · exact .inl (.inl (e _ _ h fun _ z => nomatch z))
  · exact .inl (.inr ⟨o, e _ _ h fun _ z => nomatch z⟩)
  · exact .inr h
theorem Dp.extN {K : PySem.W.Frag} {H H' : Hp} {v : V} {d : PyData} (e : ExtN H H') (h : Dp K H v d) : Dp K H' v d := Dp.imp (fun _ _ => SqL.extN e) (fun _ _ => SqT.extN e) h
theorem Pen.extN {K : PySem.W.Frag} {H H1 : Hp} {p : Addr} {tc : Addr × List Int} (h : Pen K H p tc) (e : ExtN H H1) : Pen K H1 p tc := by
  obtain ⟨a, dg, ct, fo, S⟩ := h
  exact ⟨a, dg, ct, fo, e _ _ S.d (fun _ z => nomatch z), SqL.extN e S.l, S.ne, S.n0, S.f0, S.f1⟩
theorem Tabs.but {K : PySem.W.Frag} {T : List (Addr × Str)} {H H' : Hp} {p : Addr} {tc : Addr × List Int} (pn : Pen K H p tc) (k : But (· = p) H H') (t : Tabs T H) : Tabs T H' := fun q hq => by
  obtain ⟨ps, h1, h2, h3⟩ := t q hq
  obtain ⟨_, _, _, _, S⟩ := pn
  refine ⟨ps, k _ _ (fun z => by rw [z, S.d] at h1; cases h1) h1, h2, fun pos cv hc => ?_⟩
  obtain ⟨c, e1, e2⟩ := h3 pos cv hc
  exact ⟨c, e1, k _ _ (fun z => by rw [z, S.d] at e2; cases e2) e2⟩
theorem Pen.ne {K : PySem.W.Frag} {H : Hp} {p l : Addr} {tc : Addr × List Int} {xs : List V} (pn : Pen K H p tc) (h : H l = some (.lst xs)) : ¬ l = p := fun z => by
  obtain ⟨_, _, _, _, S⟩ := pn
  rw [z, S.d] at h; cases h
end FP
set_option maxHeartbeats 4000000
/-! tokens with one thing changed, over the heap -/
namespace FP
open PySem PySem.Spec PyProof.Rows L2 LamX
theorem sIx_in {n i : Nat} (b : Nat) (h : i ≤ n) : HT.sIx n b (some ((i : Nat) : Int)) = i := by
  simp only [HT.sIx]
  rw [if_neg (by omega)]
  omega
theorem cut_take {ts : List (List Nat)} {i : Nat} (h : i ≤ ts.length) : cutV (ts.map strV) none (some ((i : Nat) : Int)) = (ts.take i).map strV := by
  unfold cutV
  rw [List.length_map, sIx_in _ h]
  show ((ts.map strV).drop 0).take (i - 0) = _
  rw [List.drop_zero, Nat.sub_zero, List.map_take]
theorem cut_drop {ts : List (List Nat)} {i : Nat} {z : Int} (e : z = ((i : Nat) : Int)) (h : i ≤ ts.length) : cutV (ts.map strV) (some z) none = (ts.drop i).map strV := by
  subst e
  unfold cutV
  rw [List.length_map, sIx_in _ h]
  show ((ts.map strV).drop i).take (ts.length - i) = _
  rw [← List.map_drop, List.take_of_length_le (by rw [List.length_map, List.length_drop]; omega)]
theorem sqS {K : PySem.W.Frag} {H : Hp} {l : Addr} {ts : List (List Nat)} (h : SqL K H l (ts.map strV)) : SqL K H l ((ts.map SX.S).map V.str) := by
  rw [List.map_map]; exact h
theorem joinL_le (S : List Nat) : ∀ (ps : List (List Nat)), (TL.joinL S ps).length ≤ (ps.map (·.length)).sum + ps.length * S.length
  | [] => Nat.zero_le _
  | [p] => by show p.length ≤ (p.length + 0) + 1 * S.length; omega
  | p :: q :: r => by
    have ih := joinL_le S (q :: r)
    have e : (TL.joinL S (p :: q :: r)).length = p.length + (S.length + (TL.joinL S (q :: r)).length) := by
      show (p ++ (S ++ TL.joinL S (q :: r))).length = _
      rw [List.length_append, List.length_append]
    rw [e]
    show _ ≤ (p.length + ((q :: r).map (·.length)).sum) + ((q :: r).length + 1) * S.length
    rw [Nat.succ_mul]
    omega
/-- what the reader's faults tell -/
theorem fault_due {ts : List (List Nat)} {n : Nat} {res : Res} (h : PV ts n 0 res) : (∃ d, res = .ok ts.length d ∧ fin1 ts res = .ok ts.length d) ∨ (∃ a, fin1 ts res = .err a ∧ (rdOf res).1 = a ∧ ¬ ((rdOf res).2 = true ∧ a = ts.length)) := by
  cases res with
  | err e => exact .inr ⟨e, rfl, rfl, fun z => Bool.noConfusion z.1⟩
  | ok a d =>
    have ha := pv_in n 0 _ h a d rfl
    by_cases hl : ts.length ≤ a
    · have e : a = ts.length := by omega
      subst e
      exact .inl ⟨d, rfl, if_pos (Nat.le_refl _)⟩
    · refine .inr ⟨a, if_neg hl, rfl, fun z => ?_⟩
      omega
section
variable {K : PySem.W.Frag} {ts : List (List Nat)} {H : Hp} {l2 : Addr} {a : Nat} {o : List Nat} {Q : VK}
theorem sl_take (h : SqL K H l2 (ts.map strV)) (ha : a ≤ ts.length) (q : ∀ p, H p = none → Q (.ref p) (upd H p (.lst ((ts.take a).map strV)))) : rSlL K (.ref l2) none (some ((a : Nat) : Int)) H Q := by
  refine ⟨l2, _, rfl, h, fun p np => ?_⟩
  rw [cut_take ha]
  exact q p np
theorem sl_drop {z : Int} (e : z = ((a : Nat) : Int)) (h : SqL K H l2 (ts.map strV)) (ha : a ≤ ts.length) (q : ∀ p, H p = none → Q (.ref p) (upd H p (.lst ((ts.drop a).map strV)))) : rSlL K (.ref l2) (some z) none H Q := by
  refine ⟨l2, _, rfl, h, fun p np => ?_⟩
  rw [cut_drop e ha]
  exact q p np
theorem cat_st {x y : Addr} {A B : List (List Nat)} (hx : H x = some (.lst (A.map strV))) (hy : H y = some (.lst (B.map strV))) (hl : A.length + B.length ≤ 10000) (q : ∀ p, H p = none → Q (.ref p) (upd H p (.lst ((A ++ B).map strV)))) : rCat (.ref x) (.ref y) H Q := by
  refine ⟨x, y, _, _, rfl, rfl, hx, hy, sz (by rw [List.length_map, List.length_map]; omega), fun p np => ?_⟩
  rw [← List.map_append]
  exact q p np
/-- some[:at] + [odd] + some[at + 1:] -/
theorem chg_put (g : Int → Int) {b : Nat} (e : g (a : Nat) = ((b : Nat) : Int)) (hl : H l2 = some (.lst (ts.map strV))) (ha : a ≤ ts.length) (hb : b ≤ ts.length) (few : ts.length ≤ 1000) (q : ∀ p H', Same H H' → H' p = some (.lst ((ts.take a ++ [o] ++ ts.drop b).map strV)) → Q (.ref p) H') :
    rSlL K (.ref l2) none (some ((a : Nat) : Int)) H fun x3 H1 => 1 ≤ sizeLine ∧ ∀ p3, H1 p3 = none → rCat x3 (.ref p3) (upd H1 p3 (.lst [strV o])) fun x4 H1 => ∃ i1, V.int ((a : Nat) : Int) = V.int i1 ∧ rSlL K (.ref l2) (some (g i1)) none H1 fun y H2 => rCat x4 y H2 Q := by
  refine sl_take (.inl (.inl hl)) ha fun p1 n1 => ⟨sz (by decide), fun p2 n2 => ?_⟩
  have s1 := same_new n1 (.lst ((ts.take a).map strV))
  have s2 := same_new n2 (.lst [strV o])
  refine cat_st (A := ts.take a) (B := [o]) (s2 _ _ upd_same) upd_same (by rw [List.length_take]; show _ + 1 ≤ _; omega) fun p3 n3 => ?_
  have s3 := same_new n3 (.lst ((ts.take a ++ [o]).map strV))
  have s13 := (s1.trans s2).trans s3
  refine ⟨_, rfl, sl_drop e (.inl (.inl (s13 _ _ hl))) hb fun p4 n4 => ?_⟩
  have s4 := same_new n4 (.lst ((ts.drop b).map strV))
  refine cat_st (A := ts.take a ++ [o]) (B := ts.drop b) (s4 _ _ upd_same) upd_same (by rw [List.length_append, List.length_take, List.length_drop]; show _ + 1 + _ ≤ _; omega) fun p5 n5 => ?_
  exact q _ _ ((s13.trans s4).trans (same_new n5 _)) upd_same
/-- some[:at] + some[at + 1:] -/
theorem chg_cut (g : Int → Int) {b : Nat} (e : g (a : Nat) = ((b : Nat) : Int)) (hl : H l2 = some (.lst (ts.map strV))) (ha : a ≤ ts.length) (hb : b ≤ ts.length) (few : ts.length ≤ 1000) (q : ∀ p H', Same H H' → H' p = some (.lst ((ts.take a ++ ts.drop b).map strV)) → Q (.ref p) H') :
    rSlL K (.ref l2) none (some ((a : Nat) : Int)) H fun x4 H1 => ∃ i1, V.int ((a : Nat) : Int) = V.int i1 ∧ rSlL K (.ref l2) (some (g i1)) none H1 fun y H2 => rCat x4 y H2 Q := by
  refine sl_take (.inl (.inl hl)) ha fun p1 n1 => ?_
  have s1 := same_new n1 (.lst ((ts.take a).map strV))
  refine ⟨_, rfl, sl_drop e (.inl (.inl (s1 _ _ hl))) hb fun p4 n4 => ?_⟩
  have s4 := same_new n4 (.lst ((ts.drop b).map strV))
  refine cat_st (A := ts.take a) (B := ts.drop b) (s4 _ _ upd_same) upd_same (by rw [List.length_take, List.length_drop]; omega) fun p5 n5 => ?_
  exact q _ _ ((s1.trans s4).trans (same_new n5 _)) upd_same
end
section
variable {K : PySem.W.Frag} {CT CR : Addr} {T : List (Addr × Str)}
theorem flt_text {σ : L2.St} {H : Hp} {Q : VK} {r : Addr} {us : List (List Nat)} {res : Res} (hT : Tabs T H) (hσ : σ[6]? = some (some (.ref r))) (hr : H r = some (.lst (us.map strV))) (cg : Chg us) (hpv : PV us 20 0 res)
    (qok : ∀ a d, fin1 us res = .ok a d → ∀ H', ExtN H H' → Tabs T H' → Q .non H') (qerr : ∀ e, fin1 us res = .err e → ∀ t H', ExtN H H' → Tabs T H' → SqT K H' t [.str "text", .int 1, .int ((e + 1 : Nat) : Int)] → Q (.ref t) H') :
    tLam T (TTflt K CT CR) (fun E => tCallS (sp_value_of_text K CT 20) (WE fun cls d _ H => E cls d H) (tCons (tM1 (rJoin K) (tC (.str (SX.S [32]))) (tVar 6)) tNil)) σ H Q := by
  refine ⟨hT, fun H1 eN T1 E hE => ?_⟩
  have sm := cg.sum
  have jl := joinL_le [32] us
  have few := cg.few
  have l1 : ([32] : List Nat).length = 1 := rfl
  rw [l1] at jl
  refine ⟨⟨_, rfl⟩, .ref r, hσ, SX.S [32], r, us.map SX.S, rfl, rfl, .inl (sqS (.inl (.inl (eN _ _ hr fun _ z => nomatch z)))), ?_, ?_⟩
  · rw [SX.lens, List.length_map, S_len]
    show _ + _ * 1 ≤ _
    omega
  show sp_value_of_text K CT 20 [V.str (Txt.join (SX.S [32]) (us.map SX.S))] H1 _ _
  rw [SX.join_S]
  have tks : Toks (TL.joinL [32] us) us := by
    have := toks_join (S := [32]) (suf := []) (by decide) (fun x hx => List.mem_singleton.mp hx) (fun x hx => nomatch hx) fun t ht => (cg.good t ht).1
    rw [List.append_nil] at this
    exact this
  refine .inl ⟨_, us, res, rfl, by omega, tks, hpv, ?_⟩
  cases hf : fin1 us res with
  | ok a d => exact fun v H' e' _ _ => qok a d hf H' (eN.trans (ExtN.of e')) (T1.ext e')
  | err e => exact fun H' dd e' hdd => hE _ _ _ (.inl ⟨dd, 1, _, rfl, rfl, hdd, fun t H2 e2 st => qerr e hf t H2 ((eN.trans (ExtN.of e')).trans (ExtN.of e2)) ((T1.ext e').ext e2) st⟩)
theorem eqv_3 (x : Str) (i j : Int) : PyData.eqv (.tuple [.str x, .int i, .int j]) (.tuple [.str x, .int i, .int j]) = true := by
  simp [PyData.eqv, PyData.eqvAll]
theorem shaped_3 {x : Str} (h : (PyData.str x).canLay0 = true) (i j : Int) : SeqAt.shaped (.tuple [.str x, .int i, .int j]) = true := shapedT (k := 0) (fun d hd => by
  simp only [List.mem_cons, List.not_mem_nil, or_false] at hd
  rcases hd with rfl | rfl | rfl
  · exact ⟨h, Nat.le_refl 0⟩
  · exact ⟨rfl, Nat.le_refl 0⟩
  · exact ⟨rfl, Nat.le_refl 0⟩) (by decide)
theorem due_dp {H : Hp} {t : Addr} {x : Str} {i j : Int} (h : SqT K H t [.str x, .int i, .int j]) : Dp K H (.ref t) (.tuple [.str x, .int i, .int j]) := .tup h (.cons (.str x) (.cons (.int i) (.cons (.int j) .nil)))
end
end FP
set_option maxHeartbeats 1000000
namespace FP
open PySem PySem.Spec PyProof.Rows L2
local macro_rules | `(tactic| walk_at "rd") => `(tactic| dsimp only [tVar, tC, tCmp, tIsN, tNotN, tB, tAnd, tOr, tNot, tAndV, tOrV, tNotV, tIf, tNext, tSeq, tBreak, tCont, tDrop, tRet, tRetN, tIfS, tNever, tAsg, tPar, tAug, tOp, tUn, tTest, tChain, tFld, tNil, tCons, tTup, tLst, tCB, iList, iTup, iStr, tLc, tM0, tM1, tPart, tNoPart, tSl, tBM, tCallS, tCallSD, tMethW, tMake, sDPut, tDisp, tPairs, tXf, WE, tDGet, tDIn, gName, gTup, gCons, gNil, gSub, sFld, sFldAug, rI, rI0, rU, rEq, rNe, rAdd, rSub, t2I, tYes, cx_K, cx_w, cx_prog])
local macro_rules | `(tactic| walk_at "rs") => `(tactic| (try simp (maxSteps := 4000000) only [L2.start, List.map_cons, List.map_nil, List.length_cons, List.length_nil, List.cons_append, List.nil_append, Nat.reduceAdd, Nat.reduceSub, Nat.zero_add, List.replicate, List.getElem?_cons_zero, List.getElem?_cons_succ, Option.some.injEq, exists_eq_left', exists_eq_left, V.int.injEq, V.str.injEq, V.bl.injEq, V.ref.injEq, List.set_cons_zero, List.set_cons_succ, exists_and_left, List.cons.injEq, and_true, true_and, wipe, if_true, if_false, Bool.not_true, Bool.not_false, Bool.false_eq_true, decide_true, decide_false]))
local macro_rules | `(tactic| walk_at "r") => `(tactic| (walk_at "rd"; walk_at "rs"))
local macro_rules | `(tactic| walk_at "T") => `(tactic| (rw [if_pos (by first | assumption | rfl | decide | exact decide_eq_true (by assumption) | (simp [tyOf]; done) | (simp; omega) | omega)]; walk_at "rs"))
local macro_rules | `(tactic| walk_at "F") => `(tactic| (rw [if_neg (by first | assumption | decide | (simp [tyOf]; done) | (simp; omega) | (simp; assumption) | omega)]; walk_at "rs"))
open LamX
/-! ### _law_right -/
section
variable {P : Program} {w : World} {K : PySem.W.Frag} {mg : Str → Option Value} {base : Heap} {f c Pt : Addr} {fd : FuncData} {C CT CR : Addr} {T : List (Addr × Str)}
def sp_law_right (K : PySem.W.Frag) (T : List (Addr × Str)) : Sp := fun vs H Q _ => ∃ p tc, vs = [.ref p] ∧ Pen K H p tc ∧ Tabs T H ∧ ∀ H', ButN p H H' → Pen K H' p tc → Tabs T H' → Q (.bl true) H'
def lrI (K : PySem.W.Frag) (p : Addr) (tc : Addr × List Int) (T : List (Addr × Str)) (H0 : Hp) (v tx : V) (l : Addr) (ts : List (List Nat)) (_i : Nat) (σ : L2.St) (H' : Hp) : Prop :=
  ButN p H0 H' ∧ Pen K H' p tc ∧ Tabs T H' ∧ H' l = some (.lst (ts.map strV)) ∧ ∃ a b c d e f g : Option V, σ = [some (.ref p), some v, some tx, some (.ref l), a, b, c, d, e, f, g]
theorem ok_law_right (Z : Zb mg) (D : C8.Def K mg "_law_right" s_law_right f fd) (hc : fd.code = .ref c) (b : Binds K fd ["pen"] []) (F : FltC P w K mg base CT CR)
    (c_law_drawn_value : CalX P w K mg base 7 "_law_drawn_value" (sp_law_drawn K 3)) (c_law_text_of : CalX P w K mg base 8 "_law_text_of" (sp_law_text_of K 3)) (c_law_is : CalX P w K mg base 5 "_law_is" (sp_law_is K 4)) (c_value_text : CalX P w K mg base 8 "value_text" (sp_value_text K C 4))
    (c_value_of_text : CalX P w K mg base 28 "value_of_text" (sp_value_of_text K CT 20)) (c_law_tokens_of : CalX P w K mg base 7 "_law_tokens_of" (sp_law_tokens_of K 3)) (c_law_draw : CalX P w K mg base 1 "_law_draw" (sp_law_draw K)) (c_law_pick : CalX P w K mg base 2 "_law_pick" (sp_law_pick K)) (c_law_read : CalX P w K mg base 22 "_law_read" (sp_law_read K 20))
    (TB : TabB base mg c Pt) {ql : Str} (hq : (("_law_right" : Str) ++ ".<locals>.") ++ "<lambda>" = ql) (hmT : (Pt, ql) ∈ T) (hu : ∀ p ∈ T, p.1 = Pt → p.2 = ql) : CalG P w K mg base 31 "_law_right" (sp_law_right K T) := by
  refine calG D hc b sc_law_right (fun vs H Q E h => by obtain ⟨p, tc, rfl, _⟩ := h; rfl) fun A outer s H vs Q E hg hr h => ?_
  obtain ⟨p, tc, rfl, pn, hT, q⟩ := h
  have nd := sc_law_right.nd
  refine ⟨_, (pss_cons (ps_set (i := 1) nd rfl (Or.inl rfl) (pe_x c_law_drawn_value hr (by(omega)) tk0 rfl (pa_cons (pv 0) (pa_cons pe_int pa_nil))))
    (pss_cons (ps_set (i := 2) nd rfl (Or.inl rfl) (pe_x c_law_text_of hr (by(omega)) tk0 rfl (pa_cons (pv 1) pa_nil)))
    (pss_cons (ps_if (PW.pt (pw_or (pt_not (pt_val (pe_x c_law_is hr (by(omega)) tk0 rfl (pa_cons (pe_x c_value_text hr (by(omega)) tk0 rfl (pa_cons (pv 1) pa_nil)) (pa_cons (pv 2) pa_nil))))) (pw_or1 (pt_not (pt_val (pe_x c_law_is hr (by(omega)) tk0 rfl (pa_cons (pe_x c_value_of_text hr (by(omega)) tk0 rfl (pa_cons (pv 2) pa_nil)) (pa_cons (pv 1) pa_nil)))))))) (pss_one (ps_ret pe_bl)) pss_nil)
    (pss_cons (ps_set (i := 3) nd rfl (Or.inl rfl) (pe_x c_law_tokens_of hr (by(omega)) tk0 rfl (pa_cons (pv 1) pa_nil)))
    (pss_cons (ps_if (pt_not (pt_val (pe_x c_law_is hr (by(omega)) tk0 rfl (pa_cons (pe_x c_value_of_text hr (by(omega)) tk0 rfl (pa_cons (pe_op op_add_str (pe_op op_add_str pe_str (pe_join pe_str (pv 3))) pe_str) pa_nil)) (pa_cons (pv 1) pa_nil))))) (pss_one (ps_ret pe_bl)) pss_nil)
    (pss_cons (ps_for (L2.passes_of rfl) rfl (pi_range1 rfl Z.range (pa_cons pe_int pa_nil)) (pg_name (i := 4) nd rfl (Or.inl rfl)) (pss_cons (ps_asg (pe_tup (pa_cons (pe_x c_law_draw hr (by(omega)) tk0 rfl (pa_cons (pv 0) (pa_cons (pe_callB call_len rfl Z.len PySem.boot_len (pa_cons (pv 3) pa_nil)) pa_nil))) (pa_cons (pe_callTy call_list_of rfl Z.list PyProof.Rows.boot_list (pa_cons (pv 3) pa_nil)) pa_nil))) (pg_tup rfl (pgs_cons (pg_name (i := 5) nd rfl (Or.inl rfl)) (pgs_cons (pg_name (i := 6) nd rfl (Or.inr rfl)) pgs_nil))))
    (pss_cons (ps_set (i := 7) nd rfl (Or.inl rfl) (pe_x c_law_pick hr (by(omega)) tk0 rfl (pa_cons (pv 0) (pa_cons (pe_lst (pa_cons pe_str (pa_cons pe_str (pa_cons pe_str (pa_cons pe_str (pa_cons pe_str (pa_cons pe_str (pa_cons pe_str (pa_cons pe_str (pa_cons pe_str (pa_cons pe_str (pa_cons pe_str (pa_cons (pe_op op_mulS pe_str pe_int) pa_nil))))))))))))) pa_nil))))
    (pss_cons (ps_set (i := 6) nd rfl (Or.inr rfl) (pe_x c_law_pick hr (by(omega)) tk0 rfl (pa_cons (pv 0) (pa_cons (pe_lst (pa_cons (pe_op op_cat (pe_op op_cat (pe_slice sl_list (pv 6) po_none (po_some (pv 5))) (pe_lst (pa_cons (pv 7) pa_nil))) (pe_slice sl_list (pv 6) (po_some (pe_op op_add (pv 5) pe_int)) po_none)) (pa_cons (pe_op op_cat (pe_op op_cat (pe_slice sl_list (pv 6) po_none (po_some (pv 5))) (pe_lst (pa_cons (pv 7) pa_nil))) (pe_slice sl_list (pv 6) (po_some (pv 5)) po_none)) (pa_cons (pe_op op_cat (pe_slice sl_list (pv 6) po_none (po_some (pv 5))) (pe_slice sl_list (pv 6) (po_some (pe_op op_add (pv 5) pe_int)) po_none)) (pa_cons (pe_slice sl_list (pv 6) po_none (po_some (pv 5))) pa_nil))))) pa_nil))))
    (pss_cons (ps_asg (pe_x c_law_read hr (by(omega)) tk0 rfl (pa_cons (pv 6) (pa_cons pe_int pa_nil))) (pg_tup rfl (pgs_cons (pg_name (i := 8) nd rfl (Or.inl rfl)) (pgs_cons (pg_name (i := 9) nd rfl (Or.inl rfl)) pgs_nil))))
    (pss_cons (ps_set (i := 10) nd rfl (Or.inl rfl) (pe_ifExp (PW.pt (pw_and (pt_val (pv 9)) (pw_and1 (pt_cmpR op_eq (pv 8) (pe_callB call_len rfl Z.len PySem.boot_len (pa_cons (pv 6) pa_nil)) (nomark _))))) pe_non (pe_tup (pa_cons pe_str (pa_cons pe_int (pa_cons (pe_op op_add (pv 8) pe_int) pa_nil))))))
    (pss_one (ps_if (pt_cmpR (op_neD (u64 hr)) (pe_flt (T := T) (P := Pt) (t := fun E => tCallS (sp_value_of_text K CT 20) (WE fun cls d _ H => E cls d H) (tCons (tM1 (rJoin K) (tC (.str " ")) (tVar 6)) tNil)) (k := 28) F rfl hg TB rfl (cx_ql.trans hq) hmT hu hr (by omega) (lamS_by (sc := C8.fnScope s_law_right) (by decide +kernel)) rfl (fun _ _ _ _ _ => rfl) ?hb) (pv 10) (nomark _)) (pss_one (ps_ret pe_bl)) pss_nil))))))))
    (pss_one (ps_ret pe_bl)))))))), ?_⟩
  case hb =>
    intro A outer s H E f c hr2
    exact pe_x c_value_of_text hr2 (by omega) tkN rfl (pa_cons (pe_join pe_str (pv 6)) pa_nil)
  walk_at "r"
  refine ⟨p, tc, rfl, pn, fun v d H1 k1 pn1 hd nl dv => ?_⟩
  have dt : Dt 3 d := Dv.dt dv
  have tk := dt.tks
  have few : (tokV 3 d).length ≤ 384 := tk.few
  have tl : (txtT (tokV 3 d)).length ≤ 100000 := by
    have := txtT_len (M := 41) (ts := tokV 3 d) fun t ht => (tk.good t ht).2
    omega
  have etx : textV 4 (asTup 4 d) = txtT (tokV 3 d) := by rw [asTup_of nl, dt.up.txt, tokV_up dt]
  have hT1 := Tabs.but pn k1 hT
  have fin : fin1 (tokV 3 d) (.ok (0 + (tokV 3 d).length) d) = .ok (0 + (tokV 3 d).length) d := by
    show (if (tokV 3 d).length ≤ 0 + (tokV 3 d).length then _ else _) = _
    rw [if_pos (by omega)]
  have hpv : PV (tokV 3 d) 20 0 (.ok (0 + (tokV 3 d).length) d) := dt.pv (by decide) 0 [] (by rw [List.drop_zero, List.append_nil]) (by intro z; cases z)
  refine ⟨v, d, rfl, hd, nl, dt.tw, by omega, tl, tk.comma, fun H2 e2 => ?_⟩
  refine ⟨v, rfl, .inl ⟨d, Dp.same e2 hd, dt.fine, dt.up.pl, by rw [asTup_of nl]; exact dt.up.tw, by rw [etx]; exact tl, fun H3 e3 => ?_⟩⟩
  rw [etx]
  refine ⟨_, _, .str (SX.S (txtT (tokV 3 d))), rfl, .str _, .str _, .str _, fun H4 e4 => ⟨true, rfl, ?_⟩⟩
  rw [if_neg (by decide)]
  refine .inl ⟨_, tokV 3 d, _, rfl, tl, toks_txt (fun t ht => (tk.good t ht).1) tk.sep, hpv, ?_⟩
  rw [fin]
  intro v5 H5 e5 hd5 nl5
  have e25 := ((e2.trans e3).trans e4).trans e5
  refine ⟨v5, v, d, rfl, hd5, Dp.same e25 hd, dt.fl, fun H6 e6 => ⟨true, rfl, ?_⟩⟩
  rw [if_neg (by decide)]
  have e26 := e25.trans e6
  refine ⟨v, d, rfl, Dp.same e26 hd, nl, dt.tw, by omega, fun l H7 e7 hl nl7 => ?_⟩
  have seven : ∀ t, t ∈ tokV 3 d → t.length ≤ 41 := fun t ht => (tk.good t ht).2
  have sm := sum_le seven
  have jl := joinL_le [32, 32] (tokV 3 d)
  have lj : Str.ofString "  " = SX.S [32, 32] := rfl
  have l2 : ([32, 32] : List Nat).length = 2 := rfl
  rw [l2] at jl
  refine ⟨⟨_, rfl⟩, l, rfl, (tokV 3 d).map SX.S, .inl (sqS (.inl (.inl hl))), ?_, ?_⟩
  · rw [SX.lens, List.length_map, lj, S_len]
    show _ + _ * 2 ≤ _
    omega
  rw [lj, SX.join_S, l_blank, S_cat, S_cat]
  refine ⟨sz (by rw [S_len, S_len]; show 1 + _ ≤ _; omega), sz (by rw [S_len, S_len, List.length_append]; show 1 + _ + 1 ≤ _; omega), ?_⟩
  have tk32 : Toks ([32] ++ TL.joinL [32, 32] (tokV 3 d) ++ [32]) (tokV 3 d) := by
    rw [List.append_assoc]
    refine Toks.blanks (S := [32]) (fun x hx => List.mem_singleton.mp hx) (toks_join (by decide) (fun x hx => ?_) (fun x hx => List.mem_singleton.mp hx) fun t ht => (tk.good t ht).1)
    rcases List.mem_cons.mp hx with h | hx
    · exact h
    · exact List.mem_singleton.mp hx
  refine .inl ⟨_, tokV 3 d, _, rfl, (by simp only [List.length_append, List.length_cons, List.length_nil]; omega), tk32, hpv, ?_⟩
  rw [fin]
  intro v8 H8 e8 hd8 nl8
  refine ⟨v8, v, d, rfl, hd8, Dp.same ((e26.trans e7).trans e8) hd, dt.fl, fun H9 e9 => ⟨true, rfl, ?_⟩⟩
  rw [if_neg (by decide)]
  have e69 := (e7.trans e8).trans e9
  have hl9 := e9 _ _ (e8 _ _ hl)
  have pn9 : Pen K H9 p tc := pn1.same (e26.trans e69)
  have hT9 : Tabs T H9 := hT1.ext (e26.trans e69)
  have kN : ButN p H H9 := (ButN.but k1).trans (.same (e26.trans e69))
  have npl : ¬ l = p := pn9.ne hl9
  clear hpv fin tk32 e69 hl hd8 nl8 e8 e9 nl7 e7 e6 e5 e4 e3 e2 e25 hd5 nl5 etx tl hT1 k1
  refine ⟨_, rfl, by decide, by decide, ?_⟩
  refine for_it walk_range (lrI K p tc T H9 v (.str (SX.S (txtT (tokV 3 d)))) l (tokV 3 d)) ⟨.refl p H9, pn9, hT9, hl9, _, _, _, _, _, _, _, rfl⟩ (fun _ _ _ _ _ => trivial) ?_ ?_
  case refine_2 =>
    rintro σ H10 ⟨k10, pn10, hT10, _, _⟩
    exact q _ (kN.trans k10) pn10 hT10
  rintro i x σ Hb H10 hi ⟨k10, pn10, hT10, hl10, a4, a5, a6, a7, a8, a9, a10, rfl⟩ ⟨rfl, rfl⟩
  walk_at "r"
  have hs10 : SqL K H10 l ((tokV 3 d).map strV) := .inl (.inl hl10)
  have hlen : ((tokV 3 d).map strV).length = (tokV 3 d).length := List.length_map _
  have hpos := List.length_pos_iff.mpr tk.ne
  refine lenL hs10 ⟨p, tc, _, rfl, by rw [hlen]; omega, by rw [hlen]; omega, pn10, fun z H11 z0 z1 k11 pn11 => ?_⟩
  rw [hlen] at z1
  obtain ⟨a, rfl⟩ : ∃ a : Nat, z = (a : Nat) := ⟨z.toNat, by omega⟩
  have ha : a < (tokV 3 d).length := by omega
  have hl11 := k11 _ _ npl hl10
  have hT11 := Tabs.but pn10 k11 hT10
  refine ⟨_, .inl (.inl (.inl hl11)), fun l2 nl2 => ⟨sz (by decide), fun p1 np1 => ⟨_, .inl (.inl upd_same), rfl, _, _, rfl, _, _, rfl, rfl, mul7k, sz (by decide), fun p2 np2 => ?_⟩⟩⟩
  have s1 := same_new nl2 (.lst ((tokV 3 d).map strV))
  have s2 := same_new np1 (.tup [.int ((a : Nat) : Int), .ref l2])
  have s3 := same_new np2 (.lst (oddL.map strV))
  have s13 := (s1.trans s2).trans s3
  have eo : (HO.lst [V.str (Str.ofString "("), V.str (Str.ofString ")"), V.str (Str.ofString ","), V.str (Str.ofString "-"), V.str (Str.ofString "/"), V.str (Str.ofString "0"), V.str (Str.ofString "1"), V.str (Str.ofString "2"), V.str (Str.ofString "06"), V.str (Str.ofString "x"), V.str (Str.ofString "+"), V.str (Txt.mul (Str.ofString "7") 401)]) = .lst (oddL.map strV) := by
    rw [mul7]; rfl
  rw [eo]
  have pn12 := pn11.same s13
  have np2p : ¬ p2 = p := pn12.ne upd_same
  refine ⟨p, tc, p2, oddL.map strV, rfl, pn12, .inl (.inl upd_same), np2p, by simp [oddL], by simp [oddL], fun j vo H13 hj k13 pn13 => ?_⟩
  rw [List.getElem?_map] at hj
  obtain ⟨o, ho, rfl⟩ : ∃ o, o ∈ oddL ∧ vo = strV o := by
    cases hz : oddL[j]? with
    | none => rw [hz] at hj; cases hj
    | some o => rw [hz] at hj; cases hj; exact ⟨o, List.mem_of_getElem? hz, rfl⟩
  have hl2 := k13 _ _ (show ¬ l2 = p from pn12.ne ((s2.trans s3) _ _ upd_same)) ((s2.trans s3) _ _ upd_same)
  have hT13 := Tabs.but pn12 k13 (hT11.ext s13)
  have few2 : (tokV 3 d).length ≤ 1000 := by omega
  refine ⟨_, rfl, ?_⟩
  refine chg_put (fun z => z + 1) (b := a + 1) (by show ((a : Nat) : Int) + 1 = _; omega) hl2 (by omega) (by omega) few2 fun r1 H14 s14 hr1 => ⟨_, rfl, ?_⟩
  refine chg_put (fun z => z) (b := a) rfl (s14 _ _ hl2) (by omega) (by omega) few2 fun r2 H15 s15 hr2 => ⟨_, rfl, ?_⟩
  have s35 := s14.trans s15
  refine chg_cut (fun z => z + 1) (b := a + 1) (by show ((a : Nat) : Int) + 1 = _; omega) (s35 _ _ hl2) (by omega) (by omega) few2 fun r3 H16 s16 hr3 => ⟨_, rfl, ?_⟩
  have s36 := s35.trans s16
  refine sl_take (.inl (.inl (s36 _ _ hl2))) (by omega) fun r4 nr4 => ⟨sz (by decide), fun p3 np3 => ?_⟩
  have s17 := same_new nr4 (.lst (((tokV 3 d).take a).map strV))
  have s18 := same_new np3 (.lst [.ref r1, .ref r2, .ref r3, .ref r4])
  have s38 := (s36.trans s17).trans s18
  have pn18 := pn13.same s38
  have hr : ∀ (j : Nat) vr, [V.ref r1, .ref r2, .ref r3, .ref r4][j]? = some vr → ∃ r us, vr = .ref r ∧ us ∈ chg (tokV 3 d) a o ∧ (upd (upd H16 r4 (.lst (((tokV 3 d).take a).map strV))) p3 (.lst [.ref r1, .ref r2, .ref r3, .ref r4])) r = some (.lst (us.map strV)) := by
    intro j vr hj
    match j, hj with
    | 0, hj => cases hj; exact ⟨r1, _, rfl, List.mem_cons_self, (((s15.trans s16).trans s17).trans s18) _ _ hr1⟩
    | 1, hj => cases hj; exact ⟨r2, _, rfl, List.mem_cons_of_mem _ List.mem_cons_self, ((s16.trans s17).trans s18) _ _ hr2⟩
    | 2, hj => cases hj; exact ⟨r3, _, rfl, List.mem_cons_of_mem _ (List.mem_cons_of_mem _ List.mem_cons_self), (s17.trans s18) _ _ hr3⟩
    | 3, hj => cases hj; exact ⟨r4, _, rfl, List.mem_cons_of_mem _ (List.mem_cons_of_mem _ (List.mem_cons_of_mem _ List.mem_cons_self)), s18 _ _ upd_same⟩
    | _ + 4, hj => cases hj
  have np3p : ¬ p3 = p := pn18.ne upd_same
  refine ⟨p, tc, p3, _, rfl, pn18, .inl (.inl upd_same), np3p, by simp, by simp, fun j vr H19 hj k19 pn19 => ?_⟩
  obtain ⟨r, us, rfl, hus, hr18⟩ := hr j vr hj
  have hr19 := k19 _ _ (pn18.ne hr18) hr18
  have hT19 := Tabs.but pn18 k19 (hT13.ext s38)
  have kb : ButN p H10 H19 := ((((ButN.but k11).trans (.same s13)).trans (.but k13)).trans (.same s38)).trans (.but k19)
  have hl19 : H19 l = some (.lst ((tokV 3 d).map strV)) := kb.lst npl hl10
  have cg := chg_ok tk ha ho hus
  have cp := chg_cps dt.cps ho hus
  obtain ⟨res, hpv, -⟩ := pv_tot (ts := us) (Nat.le_trans cg.few (by decide)) 20 0 (Nat.le_trans (by rw [List.drop_zero]; exact Nat.le_refl _) cg.deep)
  clear hr s38 s36 s35 s18 s17 s16 s15 s14 hr1 hr2 hr3 pn18 hT13 hl2 eo pn12 hT11 hl11 pn11 s13 s3 s2 s1
  refine ⟨us, r, 0, res, rfl, .inl (.inl hr19), fun t ht => ⟨Nat.le_trans (cg.good t ht).2 (by decide), cp t ht⟩, hpv, fun pr H20 e20 hpr => ?_⟩
  have pn20 := pn19.same e20
  have hT20 := hT19.ext e20
  have hr20 := e20 _ _ hr19
  have hl20 := e20 _ _ hl19
  have kc : ButN p H9 H20 := (k10.trans kb).trans (.same e20)
  refine ⟨pr, rfl, _, hpr, rfl, _, _, rfl, _, _, rfl, rfl, _, rfl, ?_⟩
  have back : ∀ (H' : Hp) (du : V), ExtN H20 H' → Tabs T H' → lrI K p tc T H9 v (.str (SX.S (txtT (tokV 3 d)))) l (tokV 3 d) (i + 1) [some (.ref p), some v, some (.str (SX.S (txtT (tokV 3 d)))), some (.ref l), some (.int (0 + (i : Nat))), some (.int (a : Nat)), some (.ref r), some (strV o), some (.int ((rdOf res).1 : Nat)), some (.bl (rdOf res).2), some du] H' :=
    fun H' du eN hT' => ⟨kc.trans (.ext eN), pn20.extN eN, hT', eN _ _ hl20 (fun _ z => nomatch z), _, _, _, _, _, _, _, rfl⟩
  rcases fault_due hpv with ⟨dd, rfl, hf⟩ | ⟨at_, hf, h1, h2⟩
  · rw [if_pos (show (rdOf (Res.ok us.length dd)).2 = true from rfl)]
    refine lenL (.inl (.inl hr20)) ⟨rfl, ?_⟩
    rw [if_pos (decide_eq_true (by rw [List.length_map]; rfl))]
    refine flt_text hT20 rfl hr20 cg hpv (fun _ _ _ H' eN hT' => ?_) (fun e he => by rw [hf] at he; cases he)
    exact ⟨.none, .none, .non, .non, rfl, rfl, _, rfl, back H' _ eN hT'⟩
  · have go : ∃ i_1 : Int, V.int (((rdOf res).1 : Nat) : Int) = .int i_1 ∧ 3 ≤ sizeLine ∧ ∀ p_1, H20 p_1 = none → tLam T (TTflt K CT CR) (fun E => tCallS (sp_value_of_text K CT 20) (WE fun cls d _ H => E cls d H) (tCons (tM1 (rJoin K) (tC (.str (SX.S [32]))) (tVar 6)) tNil))
        [some (.ref p), some v, some (.str (SX.S (txtT (tokV 3 d)))), some (.ref l), some (.int (0 + (i : Nat))), some (.int (a : Nat)), some (.ref r), some (strV o), some (.int ((rdOf res).1 : Nat)), some (.bl (rdOf res).2), some (.ref p_1)] (upd H20 p_1 (.tup [.str (Str.ofString "text"), .int 1, .int (i_1 + 1)])) fun x H1 => rNeD K x (.ref p_1) H1 fun x H' => ∃ k, x = .bl k ∧ if k = true then Q (.bl false) H' else
          lrI K p tc T H9 v (.str (SX.S (txtT (tokV 3 d)))) l (tokV 3 d) (i + 1) [some (.ref p), some v, some (.str (SX.S (txtT (tokV 3 d)))), some (.ref l), some (.int (0 + (i : Nat))), some (.int (a : Nat)), some (.ref r), some (strV o), some (.int ((rdOf res).1 : Nat)), some (.bl (rdOf res).2), some (.ref p_1)] H' := by
      refine ⟨_, rfl, sz (by decide), fun p1 np1 => ?_⟩
      have s1 := same_new np1 (.tup [.str (Str.ofString "text"), .int 1, .int ((((rdOf res).1 : Nat) : Int) + 1)])
      refine flt_text (hT20.ext s1) rfl (s1 _ _ hr20) cg hpv (fun _ _ he => by rw [hf] at he; cases he) fun e he t H' eN hT' st => ?_
      rw [hf] at he
      cases he
      have st1 : SqT K H' p1 [.str (Str.ofString "text"), .int 1, .int ((((rdOf res).1 : Nat) : Int) + 1)] := SqT.extN eN (.inl (.inl upd_same))
      rw [h1, show (((at_ : Nat) : Int) + 1) = ((at_ + 1 : Nat) : Int) by omega] at st1
      refine ⟨_, _, due_dp st, due_dp st1, shaped_3 (by decide +kernel) _ _, shaped_3 (by decide +kernel) _ _, _, rfl, ?_⟩
      rw [eqv_3, if_neg (by decide)]
      exact back H' _ ((ExtN.of s1).trans eN) hT'
    by_cases hg2 : (rdOf res).2 = true
    · rw [if_pos hg2]
      refine lenL (.inl (.inl hr20)) ⟨rfl, ?_⟩
      rw [if_neg (fun z => h2 ⟨hg2, by have := of_decide_eq_true z; rw [List.length_map] at this; injection this with this; omega⟩)]
      exact go
    · rw [if_neg hg2]
      exact go
end
end FP
set_option maxHeartbeats 4000000
/-! values that are none -/
namespace FP
open PySem PySem.Spec PyProof.Rows L2 LamX
def n400 : Int := ((numV (49 :: List.replicate 400 48) : Nat) : Int)
def n401 : Int := ((numV (List.replicate 401 55) : Nat) : Int)
theorem t400 : Str.ofString "1" ++ Txt.mul (Str.ofString "0") 400 = SX.S (49 :: List.replicate 400 48) := by
  rw [mul0, show Str.ofString "1" = SX.S [49] from rfl, S_cat]; rfl
theorem i400 : intText? (Str.ofString "1" ++ Txt.mul (Str.ofString "0") 400) = some n400 := by
  rw [t400]
  exact SX.int_S (by decide +kernel) (by decide) (by decide +kernel)
theorem i401 : intText? (Txt.mul (Str.ofString "7") 401) = some n401 := by
  rw [mul7]
  exact SX.int_S (by decide +kernel) (by decide) (by decide +kernel)
theorem z400 : (Str.ofString "1" ++ Txt.mul (Str.ofString "0") 400).length = 401 := by rw [t400, S_len]; simp
theorem z401 : (Txt.mul (Str.ofString "7") 401).length = 401 := by rw [mul7, S_len]; simp
/-- the drawn ones -/
def badO (p1 p3 p4 p5 p7 p8 : Addr) : List V := [.non, .str "1", .bl true, .ref p1, .ref p3, .ref p4, .ref p5, .ref p7, .ref p8]
def badD : List PyData := [.none, .str "1", .bool true, .tuple [.int 1, .none], .tuple [.tuple [.int 1, .str "2"]], .dict [], .tuple [.none], .tuple [.int 1, .tuple [.int 0, .int n400]], .tuple [.int 3, .int n401]]
structure Cells (H : Hp) (p1 p2 p3 p4 p5 p6 p7 p8 : Addr) : Prop where
  c1 : H p1 = some (.tup [.int 1, .non])
  c2 : H p2 = some (.tup [.int 1, .str "2"])
  c3 : H p3 = some (.tup [.ref p2])
  c4 : H p4 = some (.dK [])
  c5 : H p5 = some (.tup [.non])
  c6 : H p6 = some (.tup [.int 0, .int n400])
  c7 : H p7 = some (.tup [.int 1, .ref p6])
  c8 : H p8 = some (.tup [.int 3, .int n401])
theorem Cells.ext {H H' : Hp} {p1 p2 p3 p4 p5 p6 p7 p8 : Addr} (c : Cells H p1 p2 p3 p4 p5 p6 p7 p8) (e : ExtN H H') : Cells H' p1 p2 p3 p4 p5 p6 p7 p8 :=
  ⟨e _ _ c.c1 (fun _ z => nomatch z), e _ _ c.c2 (fun _ z => nomatch z), e _ _ c.c3 (fun _ z => nomatch z), e _ _ c.c4 (fun _ z => nomatch z), e _ _ c.c5 (fun _ z => nomatch z), e _ _ c.c6 (fun _ z => nomatch z), e _ _ c.c7 (fun _ z => nomatch z), e _ _ c.c8 (fun _ z => nomatch z)⟩
theorem Cells.but {K : PySem.W.Frag} {H H' : Hp} {p : Addr} {tc : Addr × List Int} {p1 p2 p3 p4 p5 p6 p7 p8 : Addr} (c : Cells H p1 p2 p3 p4 p5 p6 p7 p8) (pn : Pen K H p tc) (k : But (· = p) H H') : Cells H' p1 p2 p3 p4 p5 p6 p7 p8 := by
  obtain ⟨_, _, _, _, S⟩ := pn
  have go : ∀ {a : Addr} {xs : List V}, H a = some (.tup xs) → H' a = some (.tup xs) := fun h => k _ _ (fun z => by rw [z, S.d] at h; cases h) h
  exact ⟨go c.c1, go c.c2, go c.c3, k _ _ (fun z => by have := c.c4; rw [z, S.d] at this; cases this) c.c4, go c.c5, go c.c6, go c.c7, go c.c8⟩
structure BadV (K : PySem.W.Frag) (H : Hp) (v : V) (dat : PyData) : Prop where
  rd : RD K H v dat
  ok : (PyData.str dat.shown).canLay0 = true
  bad : (∃ d, Dp K H v d ∧ fine 4 d ∧ plB 4 d = false) ∨ Odd K H v
theorem fine_leaf {n : Nat} {d : PyData} (h : leaf d) : fine n d := by
  cases n with
  | zero => exact h
  | succ n => exact .inl h
theorem lf_int (i : Int) : leaf (.int i) := ⟨fun _ z => (nomatch z), fun _ z => (nomatch z)⟩
theorem lf_non : leaf .none := ⟨fun _ z => (nomatch z), fun _ z => (nomatch z)⟩
theorem lf_str (x : Str) : leaf (.str x) := ⟨fun _ z => (nomatch z), fun _ z => (nomatch z)⟩
theorem lf_bl (x : Bool) : leaf (.bool x) := ⟨fun _ z => (nomatch z), fun _ z => (nomatch z)⟩
theorem fine_tup {n : Nat} {ds : List PyData} (hl : ds.length ≤ 100) (h : ∀ e, e ∈ ds → fine n e) : fine (n + 1) (.tuple ds) := .inr ⟨ds, .inr rfl, hl, h⟩
theorem fine_lst {n : Nat} {ds : List PyData} (hl : ds.length ≤ 100) (h : ∀ e, e ∈ ds → fine n e) : fine (n + 1) (.list ds) := .inr ⟨ds, .inl rfl, hl, h⟩
theorem all_1 {P : PyData → Prop} {a : PyData} (h1 : P a) : ∀ e, e ∈ [a] → P e := fun e he => by rw [List.mem_singleton.mp he]; exact h1
theorem all_2 {P : PyData → Prop} {a b : PyData} (h1 : P a) (h2 : P b) : ∀ e, e ∈ [a, b] → P e := fun e he => by
  rcases List.mem_cons.mp he with rfl | he
  · exact h1
  · rw [List.mem_singleton.mp he]; exact h2
theorem bad_dp {K : PySem.W.Frag} {H : Hp} {v : V} {d : PyData} (h : Dp K H v d) (f : fine 4 d) (p : plB 4 d = false) (k : (!d.hasDict && d.showable && decide (d.depth ≤ 20) && decide (d.shown.length ≤ 10000) && (PyData.str d.shown).canLay0) = true) : BadV K H v d := by
  simp only [Bool.and_eq_true, Bool.not_eq_true', decide_eq_true_eq] at k
  obtain ⟨⟨⟨⟨k1, k2⟩, k3⟩, k4⟩, k5⟩ := k
  exact ⟨.inl ⟨h, k1, k2, k3, k4⟩, k5, .inl ⟨d, h, f, p⟩⟩
def tt2 (a b : List Nat) : List Nat := [40] ++ ((a ++ [44, 32]) ++ b) ++ [41]
theorem tt2_S (a b : List Nat) : PySem.tupleText [SX.S a, SX.S b] = SX.S (tt2 a b) := by
  unfold tt2
  rw [← S_cat, ← S_cat, ← S_cat, ← S_cat]; rfl
theorem tt2_cps {a b : List Nat} (h1 : Cps a) (h2 : Cps b) : Cps (tt2 a b) := fun c hc => by
  simp only [tt2, List.mem_append, List.mem_cons, List.not_mem_nil, or_false] at hc
  rcases hc with (rfl | (h | rfl | rfl) | h) | rfl
  · decide
  · exact h1 c h
  · decide
  · decide
  · exact h2 c h
  · decide
theorem tt2_len (a b : List Nat) : (tt2 a b).length = a.length + b.length + 4 := by
  simp only [tt2, List.length_append, List.length_cons, List.length_nil]; omega
theorem shown_n (n : Nat) : PyData.shown (.int ((n : Nat) : Int)) = SX.S (TL.numL n) := SX.num_S n
theorem bad_dp2 {K : PySem.W.Frag} {H : Hp} {v : V} {d : PyData} {l : List Nat} (h : Dp K H v d) (f : fine 4 d) (p : plB 4 d = false) (k : (!d.hasDict && d.showable && decide (d.depth ≤ 20)) = true) (e : d.shown = SX.S l) (c : Cps l) (hl : l.length ≤ 10000) : BadV K H v d := by
  simp only [Bool.and_eq_true, Bool.not_eq_true', decide_eq_true_eq] at k
  obtain ⟨⟨k1, k2⟩, k3⟩ := k
  exact ⟨.inl ⟨h, k1, k2, k3, by rw [e, S_len]; exact hl⟩, by rw [e]; exact lay_str c, .inl ⟨d, h, f, p⟩⟩
theorem l400 : (TL.numL (numV (49 :: List.replicate 400 48))).length ≤ 500 := TL.numL_len (by decide) (by decide +kernel)
theorem l401 : (TL.numL (numV (List.replicate 401 55))).length ≤ 500 := TL.numL_len (by decide) (by decide +kernel)
theorem l_one (n : Nat) (h : n < 10) : (TL.numL n).length ≤ 1 := TL.numL_len (by decide) (by omega)
theorem bad_of {K : PySem.W.Frag} {H : Hp} {p1 p2 p3 p4 p5 p6 p7 p8 : Addr} (c : Cells H p1 p2 p3 p4 p5 p6 p7 p8) (j : Nat) (v : V) (h : (badO p1 p3 p4 p5 p7 p8)[j]? = some v) : ∃ dat, badD[j]? = some dat ∧ BadV K H v dat := by
  have t1 : Dp K H (.ref p1) (.tuple [.int 1, .none]) := .tup (.inl (.inl c.c1)) (.cons (.int 1) (.cons .non .nil))
  have t2 : Dp K H (.ref p2) (.tuple [.int 1, .str "2"]) := .tup (.inl (.inl c.c2)) (.cons (.int 1) (.cons (.str _) .nil))
  have t3 : Dp K H (.ref p3) (.tuple [.tuple [.int 1, .str "2"]]) := .tup (.inl (.inl c.c3)) (.cons t2 .nil)
  have t5 : Dp K H (.ref p5) (.tuple [.none]) := .tup (.inl (.inl c.c5)) (.cons .non .nil)
  have t6 : Dp K H (.ref p6) (.tuple [.int 0, .int n400]) := .tup (.inl (.inl c.c6)) (.cons (.int 0) (.cons (.int _) .nil))
  have t7 : Dp K H (.ref p7) (.tuple [.int 1, .tuple [.int 0, .int n400]]) := .tup (.inl (.inl c.c7)) (.cons (.int 1) (.cons t6 .nil))
  have t8 : Dp K H (.ref p8) (.tuple [.int 3, .int n401]) := .tup (.inl (.inl c.c8)) (.cons (.int 3) (.cons (.int _) .nil))
  match j, h with
  | 0, h => cases h; exact ⟨_, rfl, bad_dp .non (fine_leaf lf_non) (by decide +kernel) (by decide +kernel)⟩
  | 1, h => cases h; exact ⟨_, rfl, bad_dp (.str _) (fine_leaf (lf_str _)) (by decide +kernel) (by decide +kernel)⟩
  | 2, h => cases h; exact ⟨_, rfl, bad_dp (.bl _) (fine_leaf (lf_bl _)) (by decide +kernel) (by decide +kernel)⟩
  | 3, h => cases h; exact ⟨_, rfl, bad_dp t1 (fine_tup (by decide) (all_2 (fine_leaf (lf_int _)) (fine_leaf lf_non))) (by decide +kernel) (by decide +kernel)⟩
  | 4, h => cases h; exact ⟨_, rfl, bad_dp t3 (fine_tup (by decide) (all_1 (fine_tup (by decide) (all_2 (fine_leaf (lf_int _)) (fine_leaf (lf_str _)))))) (by decide +kernel) (by decide +kernel)⟩
  | 5, h => cases h; exact ⟨.dict [], rfl, .inr ⟨p4, rfl, c.c4, rfl⟩, by decide +kernel, .inr ⟨_, Kd.dct c.c4, rfl, rfl, rfl⟩⟩
  | 6, h => cases h; exact ⟨_, rfl, bad_dp t5 (fine_tup (by decide) (all_1 (fine_leaf lf_non))) (by decide +kernel) (by decide +kernel)⟩
  | 7, h =>
    cases h
    refine ⟨_, rfl, bad_dp2 t7 (fine_tup (by decide) (all_2 (fine_leaf (lf_int _)) (fine_tup (by decide) (all_2 (fine_leaf (lf_int _)) (fine_leaf (lf_int _)))))) (by decide +kernel) (by decide +kernel) (l := tt2 (TL.numL 1) (tt2 (TL.numL 0) (TL.numL (numV (49 :: List.replicate 400 48))))) ?_ (tt2_cps (numL_cps _) (tt2_cps (numL_cps _) (numL_cps _))) ?_⟩
    · rw [← tt2_S, ← tt2_S, ← shown_n, ← shown_n, ← shown_n]; rfl
    · have := l400
      have := l_one 1 (by decide)
      have := l_one 0 (by decide)
      rw [tt2_len, tt2_len]; omega
  | 8, h =>
    cases h
    refine ⟨_, rfl, bad_dp2 t8 (fine_tup (by decide) (all_2 (fine_leaf (lf_int _)) (fine_leaf (lf_int _)))) (by decide +kernel) (by decide +kernel) (l := tt2 (TL.numL 3) (TL.numL (numV (List.replicate 401 55)))) ?_ (tt2_cps (numL_cps _) (numL_cps _)) ?_⟩
    · rw [← tt2_S, ← shown_n, ← shown_n]; rfl
    · have := l401
      have := l_one 3 (by decide)
      rw [tt2_len]; omega
  | _ + 9, h => cases h
section
variable {K : PySem.W.Frag} {CT CR : Addr} {T : List (Addr × Str)}
theorem flt_row {σ : L2.St} {H : Hp} {Q : VK} {v : V} {dat : PyData} (hT : Tabs T H) (hσ : σ[3]? = some (some v)) (hb : ∀ H', ExtN H H' → BadV K H' v dat)
    (q : ∀ t H', ExtN H H' → Tabs T H' → SqT K H' t [.str "row", .str "value", .str dat.shown] → Q (.ref t) H') :
    tLam T (TTflt K CT CR) (fun E => tCallS (sp_value_text K CR 4) (WE fun cls d _ H => E cls d H) (tCons (tVar 3) tNil)) σ H Q := by
  refine ⟨hT, fun H1 eN T1 E hE => ⟨v, hσ, v, rfl, .inr ⟨(hb H1 eN).bad, fun H' dd e' hdd => hE _ _ _ (.inr ⟨dd, v, dat, rfl, rfl, hdd, (hb H' (eN.trans (ExtN.of e'))).rd, fun t H2 e2 st => ?_⟩)⟩⟩⟩
  exact q t H2 ((eN.trans (ExtN.of e')).trans (ExtN.of e2)) ((T1.ext e').ext e2) st
end
theorem eqv_t (a b c : Str) : PyData.eqv (.tuple [.str a, .str b, .str c]) (.tuple [.str a, .str b, .str c]) = true := by
  simp [PyData.eqv, PyData.eqvAll]
theorem shaped_t {a b c : Str} (h1 : (PyData.str a).canLay0 = true) (h2 : (PyData.str b).canLay0 = true) (h3 : (PyData.str c).canLay0 = true) : SeqAt.shaped (.tuple [.str a, .str b, .str c]) = true := shapedT (k := 0) (fun d hd => by
  simp only [List.mem_cons, List.not_mem_nil, or_false] at hd
  rcases hd with rfl | rfl | rfl
  · exact ⟨h1, Nat.le_refl 0⟩
  · exact ⟨h2, Nat.le_refl 0⟩
  · exact ⟨h3, Nat.le_refl 0⟩) (by decide)
theorem row_dp {K : PySem.W.Frag} {H : Hp} {t : Addr} {a b c : Str} (h : SqT K H t [.str a, .str b, .str c]) : Dp K H (.ref t) (.tuple [.str a, .str b, .str c]) := .tup h (.cons (.str a) (.cons (.str b) (.cons (.str c) .nil)))
/-! ### the shown ones -/
def dS : PyData := .list [.int 1, .list [.tuple [.int (-3), .int 2]], .list []]
def cS : List Nat := [40, 49, 44, 32, 40, 45, 51, 47, 50, 44, 41, 44, 32, 40, 41, 41]
theorem cS_eq : Str.ofString "(1, (-3/2,), ())" = SX.S cS := rfl
theorem all_0 {P : PyData → Prop} : ∀ e, e ∈ ([] : List PyData) → P e := fun e he => nomatch he
theorem all_3 {P : PyData → Prop} {a b c : PyData} (h1 : P a) (h2 : P b) (h3 : P c) : ∀ e, e ∈ [a, b, c] → P e := fun e he => by
  rcases List.mem_cons.mp he with rfl | he
  · exact h1
  · exact all_2 h2 h3 e he
theorem dS_fine : fine 4 dS := fine_lst (by decide) (all_3 (fine_leaf (lf_int _)) (fine_lst (by decide) (all_1 (fine_tup (by decide) (all_2 (fine_leaf (lf_int _)) (fine_leaf (lf_int _)))))) (fine_lst (by decide) all_0))
theorem tw_i {n : Nat} {i : Int} (h : smallB i 1 = true) : Tw n (.int i) := .rat rfl h
theorem dS_tw : Tw 4 (asTup 4 dS) := .tup (by decide +kernel) (all_3 (tw_i (by decide +kernel)) (.tup (by decide +kernel) (all_1 (.rat (t := -3) (b := 2) (by decide +kernel) (by decide +kernel))) (by decide)) (.tup (by decide +kernel) all_0 (by decide))) (by decide)
theorem dS_txt : textV 4 (asTup 4 dS) = cS := by decide +kernel
theorem dp_S {K : PySem.W.Frag} {H : Hp} {q1 q2 q3 q4 : Addr} (h1 : H q1 = some (.tup [.int (-3), .int 2])) (h2 : H q2 = some (.lst [.ref q1])) (h3 : H q3 = some (.lst [])) (h4 : H q4 = some (.lst [.int 1, .ref q2, .ref q3])) : Dp K H (.ref q4) dS :=
  .lst (.inl (.inl h4)) (.cons (.int 1) (.cons (.lst (.inl (.inl h2)) (.cons (Dp.of_pair (.inl (.inl h1))) .nil)) (.cons (dp_nil h3) .nil)))
def ts12 : List (List Nat) := [[40], [49], [44], [50], [41]]
theorem c12_eq : Str.ofString "(1, 2)" = SX.S (txtT ts12) := rfl
def d12 : PyData := .tuple [.int 1, .int 2]
theorem toks12 : Toks (txtT ts12) ts12 := by
  refine toks_txt (fun t ht => ?_) ⟨.inl sy40, .inr sy44, .inl sy44, .inr sy41, trivial⟩
  simp only [ts12, List.mem_cons, List.not_mem_nil, or_false] at ht
  have f : ∀ c, c ∈ figL → Gtok [c] := fun c h => .inr (.inl ⟨by simp, fun x hx => by rw [List.mem_singleton.mp hx]; exact h⟩)
  rcases ht with rfl | rfl | rfl | rfl | rfl
  · exact .inl sy40
  · exact f _ (by decide)
  · exact .inl sy44
  · exact f _ (by decide)
  · exact .inl sy41
theorem pv12 : PV ts12 20 0 (.ok 5 d12) := by
  have n1 : [49] = TL.numL 1 := by decide +kernel
  have n2 : [50] = TL.numL 2 := by decide +kernel
  have r1 : pvR ts12 1 = .ok 2 (.int 1) := by
    unfold pvR
    rw [if_neg (by decide), pvS_int (ts := ts12) (i := 1) (bl := false) (n := 1) (post := [[44], [50], [41]]) (by rw [← n1]; rfl) (by decide) (by rw [← n1]; decide) (fun z => Bool.noConfusion z)]
    rfl
  have r2 : pvR ts12 3 = .ok 4 (.int 2) := by
    unfold pvR
    rw [if_neg (by decide), pvS_int (ts := ts12) (i := 3) (bl := false) (n := 2) (post := [[41]]) (by rw [← n2]; rfl) (by decide) (by rw [← n2]; decide) (fun z => Bool.noConfusion z)]
    rfl
  refine .inr ⟨rfl, .inr ⟨by decide, .inr ⟨2, .int 1, .inl ⟨by decide, r1.symm⟩, .inr (.inr ⟨rfl, by decide, .inr ⟨4, .int 2, .inl ⟨by decide, r2.symm⟩, 0, by decide, .inl ⟨rfl, rfl⟩⟩⟩)⟩⟩⟩
theorem d12_fine : fine 4 d12 := fine_tup (by decide) (all_2 (fine_leaf (lf_int _)) (fine_leaf (lf_int _)))
theorem d12_tw : Tw 4 (asTup 4 d12) := .rat (t := 1) (b := 2) (by decide +kernel) (by decide +kernel)
theorem d12_txt : textV 4 (asTup 4 d12) = [49, 47, 50] := by decide +kernel
theorem d12_fl : Fl 4 d12 := .tup (all_2 (.int 1) (.int 2)) (by decide)
end FP
set_option maxHeartbeats 1000000
namespace FP
open PySem PySem.Spec PyProof.Rows L2
local macro_rules | `(tactic| walk_at "rd") => `(tactic| dsimp only [tVar, tC, tCmp, tIsN, tNotN, tB, tAnd, tOr, tNot, tAndV, tOrV, tNotV, tIf, tNext, tSeq, tBreak, tCont, tDrop, tRet, tRetN, tIfS, tNever, tAsg, tPar, tAug, tOp, tUn, tTest, tChain, tFld, tNil, tCons, tTup, tLst, tCB, iList, iTup, iStr, tLc, tM0, tM1, tPart, tNoPart, tSl, tBM, tCallS, tCallSD, tMethW, tMake, sDPut, tDisp, tPairs, tXf, WE, tDGet, tDIn, gName, gTup, gCons, gNil, gSub, sFld, sFldAug, rI, rI0, rU, rEq, rNe, rAdd, rSub, t2I, tYes, cx_K, cx_w, cx_prog])
local macro_rules | `(tactic| walk_at "rs") => `(tactic| (try simp (maxSteps := 4000000) only [L2.start, List.map_cons, List.map_nil, List.length_cons, List.length_nil, List.cons_append, List.nil_append, Nat.reduceAdd, Nat.reduceSub, Nat.zero_add, List.replicate, List.getElem?_cons_zero, List.getElem?_cons_succ, Option.some.injEq, exists_eq_left', exists_eq_left, V.int.injEq, V.str.injEq, V.bl.injEq, V.ref.injEq, List.set_cons_zero, List.set_cons_succ, exists_and_left, List.cons.injEq, and_true, true_and, wipe, if_true, if_false, Bool.not_true, Bool.not_false, Bool.false_eq_true, decide_true, decide_false]))
local macro_rules | `(tactic| walk_at "r") => `(tactic| (walk_at "rd"; walk_at "rs"))
local macro_rules | `(tactic| walk_at "T") => `(tactic| (rw [if_pos (by first | assumption | rfl | decide | exact decide_eq_true (by assumption) | (simp [tyOf]; done) | (simp; omega) | omega)]; walk_at "rs"))
local macro_rules | `(tactic| walk_at "F") => `(tactic| (rw [if_neg (by first | assumption | decide | (simp [tyOf]; done) | (simp; omega) | (simp; assumption) | omega)]; walk_at "rs"))
open LamX
/-! ### law -/
section
variable {P : Program} {w : World} {K : PySem.W.Frag} {mg : Str → Option Value} {base : Heap} {f c Pt : Addr} {fd : FuncData} {C CT CR : Addr} {T : List (Addr × Str)}
def sp_law (K : PySem.W.Frag) (T : List (Addr × Str)) : Sp := fun vs H Q _ => ∃ (la : Addr) (nums : List Int), vs = [.ref la] ∧ SqL K H la (nums.map V.int) ∧ Tabs T H ∧ ∀ H', Q (.bl true) H'
def lwI (K : PySem.W.Frag) (p : Addr) (tc : Addr × List Int) (T : List (Addr × Str)) (la : Addr) (_i : Nat) (σ : L2.St) (H' : Hp) : Prop := Pen K H' p tc ∧ Tabs T H' ∧ ∃ a b c : Option V, σ = [some (.ref la), some (.ref p), a, b, c]
theorem u30r {k : Nat} {A : Around} (r : Room k A) : A.units + 30 < cLine := by have := r.un; omega
theorem ok_law (Z : Zb mg) (D : C8.Def K mg "law" s_law f fd) (hc : fd.code = .ref c) (F : FltC P w K mg base CT CR)
    (c_law_pen : CalX P w K mg base 1 "_law_pen" (sp_law_pen K)) (c_law_right : CalG P w K mg base 31 "_law_right" (sp_law_right K T)) (c_law_pick : CalX P w K mg base 2 "_law_pick" (sp_law_pick K)) (c_value_text : CalX P w K mg base 8 "value_text" (sp_value_text K CR 4))
    (c_law_read_fault : CalG P w K mg base 31 "_law_read_fault" (sp_law_read_fault K T)) (c_value_of_text : CalX P w K mg base 28 "value_of_text" (sp_value_of_text K CT 20)) (c_law_is : CalX P w K mg base 5 "_law_is" (sp_law_is K 4))
    (TB : TabB base mg c Pt) {ql : Str} (hq : (("law" : Str) ++ ".<locals>.") ++ "<lambda>" = ql) (hmT : (Pt, ql) ∈ T) (hu : ∀ p ∈ T, p.1 = Pt → p.2 = ql) : FnG P w K mg base 32 f fd ["script"] (sp_law K T) := by
  refine fnG D.fn hc sc_law (fun vs H Q E h => by obtain ⟨la, nums, rfl, _⟩ := h; rfl) fun A outer s H vs Q E hg hr h => ?_
  obtain ⟨la, nums, rfl, sl, hT, q⟩ := h
  have nd := sc_law.nd
  refine ⟨_, (pss_cons (ps_set (i := 1) nd rfl (Or.inl rfl) (pe_x c_law_pen hr (by(omega)) tk0 rfl (pa_cons (pv 0) pa_nil)))
    (pss_cons (ps_for (L2.passes_of rfl) rfl (pi_range1 rfl Z.range (pa_cons pe_int pa_nil)) (pg_name (i := 2) nd rfl (Or.inl rfl)) (pss_one (ps_if (pt_not (pt_val (pe_xG c_law_right hr (by(omega)) hg tk0 rfl (pa_cons (pv 1) pa_nil)))) (pss_one (ps_ret pe_bl)) pss_nil)))
    (pss_cons (ps_set (i := 3) nd rfl (Or.inr rfl) (pe_x c_law_pick hr (by(omega)) tk0 rfl (pa_cons (pv 1) (pa_cons (pe_lst (pa_cons pe_non (pa_cons pe_str (pa_cons pe_bl (pa_cons (pe_tup (pa_cons pe_int (pa_cons pe_non pa_nil))) (pa_cons (pe_tup (pa_cons (pe_tup (pa_cons pe_int (pa_cons pe_str pa_nil))) pa_nil)) (pa_cons pe_dnewK (pa_cons (pe_tup (pa_cons pe_non pa_nil)) (pa_cons (pe_tup (pa_cons pe_int (pa_cons (pe_tup (pa_cons pe_int (pa_cons (pe_callTy call_int_str rfl Z.int PyProof.Rows.boot_int (pa_cons (pe_op op_add_str pe_str (pe_op op_mulS pe_str pe_int)) pa_nil)) pa_nil))) pa_nil))) (pa_cons (pe_tup (pa_cons pe_int (pa_cons (pe_callTy call_int_str rfl Z.int PyProof.Rows.boot_int (pa_cons (pe_op op_mulS pe_str pe_int) pa_nil)) pa_nil))) pa_nil)))))))))) pa_nil))))
    (pss_cons (ps_set (i := 4) nd rfl (Or.inl rfl) (pe_x c_law_pick hr (by(omega)) tk0 rfl (pa_cons (pv 1) (pa_cons (pe_lst (pa_cons pe_non (pa_cons pe_int (pa_cons pe_bl (pa_cons (pe_lst (pa_cons pe_str pa_nil)) pa_nil))))) pa_nil))))
    (pss_cons (ps_if (PW.pt (pw_or (pt_cmpR (op_neD (u64 hr)) (pe_flt (T := T) (P := Pt) (t := fun E => tCallS (sp_value_text K CR 4) (WE fun cls d _ H => E cls d H) (tCons (tVar 3) tNil)) (k := 29) F rfl hg TB rfl (cx_ql.trans hq) hmT hu hr (by omega) (lamS_by (sc := C8.fnScope s_law) (by decide +kernel)) rfl (fun _ _ _ _ _ => rfl) ?hb) (pe_tup (pa_cons pe_str (pa_cons pe_str (pa_cons (pe_callB (call_reprD hg (u30r hr)) rfl Z.repr PyProof.Rows.boot_repr (pa_cons (pv 3) pa_nil)) pa_nil)))) (nomark _)) (pw_or1 (pt_cmpR (op_neD (u64 hr)) (pe_xG c_law_read_fault hr (by(omega)) hg tk0 rfl (pa_cons (pv 4) pa_nil)) (pe_tup (pa_cons pe_str (pa_cons pe_int (pa_cons pe_int pa_nil)))) (nomark _))))) (pss_one (ps_ret pe_bl)) pss_nil)
    (pss_one (ps_ret (pe_and (pe_x c_law_is hr (by(omega)) tk0 rfl (pa_cons (pe_x c_value_text hr (by(omega)) tk0 rfl (pa_cons (pe_lst (pa_cons pe_int (pa_cons (pe_lst (pa_cons (pe_tup (pa_cons (pe_un un_neg pe_int) (pa_cons pe_int pa_nil))) pa_nil)) (pa_cons (pe_lst pa_nil) pa_nil)))) pa_nil)) (pa_cons pe_str pa_nil))) (pe_and (pe_x c_law_is hr (by(omega)) tk0 rfl (pa_cons (pe_x c_value_of_text hr (by(omega)) tk0 rfl (pa_cons pe_str pa_nil)) (pa_cons (pe_tup (pa_cons pe_int (pa_cons pe_int pa_nil))) pa_nil))) (pe_one (pe_cmpR op_eq (pe_x c_value_text hr (by(omega)) tk0 rfl (pa_cons (pe_tup (pa_cons pe_int (pa_cons pe_int pa_nil))) pa_nil)) pe_str (nomark _)))))))))))), ?_⟩
  case hb =>
    intro A outer s H E f c hr2
    exact pe_x c_value_text hr2 (by omega) tkN rfl (pa_cons (pv 3) pa_nil)
  walk_at "r"
  refine ⟨la, nums, rfl, sl, fun p tc H1 e1 _ pn1 => ?_⟩
  refine ⟨_, rfl, by decide, by decide, ?_⟩
  refine for_it walk_range (lwI K p tc T la) ⟨pn1, hT.ext e1, _, _, _, rfl⟩ (fun _ _ _ _ _ => trivial) ?_ ?_
  · rintro i x σ Hb H2 hi ⟨pn2, hT2, a2, a3, a4, rfl⟩ ⟨rfl, rfl⟩
    walk_at "r"
    refine ⟨p, tc, rfl, pn2, hT2, fun H3 k3 pn3 hT3 => ⟨true, rfl, ?_⟩⟩
    rw [if_neg (by decide)]
    exact ⟨pn3, hT3, _, _, _, rfl⟩
  rintro σ H2 ⟨pn2, hT2, a2, a3, a4, rfl⟩
  clear pn1 e1 hT sl
  walk_at "r"
  unfold tDNewK
  refine ⟨sz (by decide), fun p1 n1 => ⟨sz (by decide), fun p2 n2 => ⟨sz (by decide), fun p3 n3 => fun p4 n4 => ⟨sz (by decide), fun p5 n5 => ⟨mul0k, sz (by rw [mul0, S_len]; simp; decide), _, i400, by rw [z400]; decide, sz (by decide), fun p6 n6 => ⟨sz (by decide), fun p7 n7 => ⟨mul7k, _, i401, by rw [z401]; decide, sz (by decide), fun p8 n8 => ⟨sz (by decide), fun p9 n9 => ?_⟩⟩⟩⟩⟩⟩⟩⟩
  have s1 := same_new n1 (.tup [.int 1, .non])
  have s2 := same_new n2 (.tup [.int 1, .str "2"])
  have s3 := same_new n3 (.tup [.ref p2])
  have s4 := same_new n4 (.dK [])
  have s5 := same_new n5 (.tup [.non])
  have s6 := same_new n6 (.tup [.int 0, .int n400])
  have s7 := same_new n7 (.tup [.int 1, .ref p6])
  have s8 := same_new n8 (.tup [.int 3, .int n401])
  have s9 := same_new n9 (.lst (badO p1 p3 p4 p5 p7 p8))
  have s89 := s8.trans s9
  have s79 := s7.trans s89
  have s69 := s6.trans s79
  have s59 := s5.trans s69
  have s49 := s4.trans s59
  have s39 := s3.trans s49
  have s29 := s2.trans s39
  have pn9 := pn2.same (s1.trans s29)
  have C9 : Cells _ p1 p2 p3 p4 p5 p6 p7 p8 := ⟨s29 _ _ upd_same, s39 _ _ upd_same, s49 _ _ upd_same, s59 _ _ upd_same, s69 _ _ upd_same, s79 _ _ upd_same, s89 _ _ upd_same, s9 _ _ upd_same⟩
  have np9 : ¬ p9 = p := pn9.ne upd_same
  refine ⟨p, tc, p9, badO p1 p3 p4 p5 p7 p8, rfl, pn9, .inl (.inl upd_same), np9, by simp [badO], by simp [badO], fun j v H10 hj k10 pn10 => ?_⟩
  have hT10 := Tabs.but pn9 k10 (hT2.ext (s1.trans s29))
  have C10 := C9.but pn9 k10
  clear C9 s29 s39 s49 s59 s69 s79 s89 s9 s8 s7 s6 s5 s4 s3 s2 s1
  refine ⟨sz (by decide), fun q1 m1 => ⟨sz (by decide), fun q2 m2 => ?_⟩⟩
  have u1 := same_new m1 (.lst [.str "(1,)"])
  have u2 := same_new m2 (.lst [.non, .int 3, .bl true, .ref q1])
  have pn12 := (pn10.same u1).same u2
  have hl12 := u2 _ _ upd_same
  have nq2 : ¬ q2 = p := pn12.ne upd_same
  refine ⟨p, tc, q2, _, rfl, pn12, .inl (.inl upd_same), nq2, by simp, by simp, fun j2 ov H13 hj2 k13 pn13 => ?_⟩
  have hT13 := Tabs.but pn12 k13 ((hT10.ext u1).ext u2)
  have C13 := (C10.ext (ExtN.of (u1.trans u2))).but pn12 k13
  have hl13 := k13 _ _ (pn12.ne hl12) hl12
  have odd : ∃ kk, (kk == "str") = false ∧ ∀ H', ExtN H13 H' → Kd K H' ov kk := by
    match j2, hj2 with
    | 0, h => cases h; exact ⟨"NoneType", rfl, fun _ _ => Dp.kd .non⟩
    | 1, h => cases h; exact ⟨"int", rfl, fun _ _ => Dp.kd (.int 3)⟩
    | 2, h => cases h; exact ⟨"bool", rfl, fun _ _ => Dp.kd (.bl true)⟩
    | 3, h => cases h; exact ⟨"list", rfl, fun _ e => SqL.kd (.inl (.inl (e _ _ hl13 fun _ z => nomatch z)))⟩
    | _ + 4, h => cases h
  obtain ⟨kk, ks, kd⟩ := odd
  obtain ⟨dat, hdat, -⟩ := bad_of (K := K) C13 j v hj
  have hb : ∀ H', ExtN H13 H' → BadV K H' v dat := fun H' e => by
    obtain ⟨dat2, h2, b2⟩ := bad_of (K := K) (C13.ext e) j v hj
    rw [hdat] at h2
    cases h2
    exact b2
  refine flt_row hT13 rfl hb fun t H14 e14 hT14 st => ?_
  refine ⟨dat, (hb H14 e14).rd, sz (by decide), fun r1 m3 => ?_⟩
  have v1 := same_new m3 (.tup [.str (Str.ofString "row"), .str (Str.ofString "value"), .str dat.shown])
  have okd := (hb H14 e14).ok
  refine ⟨_, _, row_dp (SqT.same v1 st), row_dp (.inl (.inl upd_same)), shaped_t (by decide +kernel) (by decide +kernel) okd, shaped_t (by decide +kernel) (by decide +kernel) okd, _, rfl, ?_⟩
  rw [eqv_t, if_neg (by decide)]
  have e15 := e14.trans (ExtN.of v1)
  refine ⟨ov, kk, rfl, kd _ e15, ks, fun H' e => kd _ (e15.trans e), hT14.ext v1, fun t2 H16 e16 hT16 st2 => ?_⟩
  refine ⟨sz (by decide), fun r2 m4 => ?_⟩
  have v2 := same_new m4 (.tup [.str (Str.ofString "text"), .int 0, .int 0])
  refine ⟨_, _, due_dp (SqT.same v2 st2), due_dp (.inl (.inl upd_same)), shaped_3 (by decide +kernel) _ _, shaped_3 (by decide +kernel) _ _, _, rfl, ?_⟩
  rw [eqv_3, if_neg (by decide)]
  refine ⟨sz (by decide), fun q3 m5 => ⟨sz (by decide), fun q4 m6 => ⟨sz (by decide), fun q5 m7 => ⟨sz (by decide), fun q6 m8 => ?_⟩⟩⟩⟩
  have w2 := same_new m6 (.lst [.ref q3])
  have w3 := same_new m7 (.lst [])
  have w4 := same_new m8 (.lst [.int 1, .ref q4, .ref q5])
  refine ⟨_, rfl, .inl ⟨dS, dp_S (((w2.trans w3).trans w4) _ _ upd_same) ((w3.trans w4) _ _ upd_same) (w4 _ _ upd_same) upd_same, dS_fine, by decide +kernel, dS_tw, by rw [dS_txt]; decide, fun H20 e20 => ?_⟩⟩
  rw [dS_txt, cS_eq]
  refine ⟨_, _, .str (SX.S cS), rfl, .str _, .str _, .str _, fun H21 e21 => ⟨true, rfl, ?_⟩⟩
  rw [if_pos rfl, c12_eq]
  refine .inl ⟨_, ts12, _, rfl, by decide, toks12, pv12, fun v6 H22 e22 hd6 nl6 => ?_⟩
  refine ⟨sz (by decide), fun q7 m9 => ?_⟩
  have w5 := same_new m9 (.tup [.int 1, .int 2])
  refine ⟨_, _, d12, rfl, Dp.same w5 hd6, Dp.of_pair (.inl (.inl upd_same)), d12_fl, fun H23 e23 => ⟨true, rfl, ?_⟩⟩
  rw [if_pos rfl]
  refine ⟨sz (by decide), fun q8 m10 => ?_⟩
  refine ⟨_, rfl, .inl ⟨d12, Dp.of_pair (.inl (.inl upd_same)), d12_fine, by decide +kernel, d12_tw, by rw [d12_txt]; decide, fun H24 e24 => ?_⟩⟩
  rw [d12_txt, show Str.ofString "1/2" = SX.S [49, 47, 50] from rfl]
  refine ⟨rfl, ?_⟩
  rw [decide_eq_true rfl]
  exact q H24
end
end FP
set_option maxHeartbeats 4000000
/-! the head's facts -/
namespace FP
open PySem PySem.Spec PyProof.Rows L2 LamX
theorem oexB_ok {K : PySem.W.Frag} {C : Addr} (h : oexB K C = true) : OexC K C := by
  obtain ⟨h1, h⟩ := Bool.and_eq_true_iff.mp h
  obtain ⟨h2, h⟩ := Bool.and_eq_true_iff.mp h
  obtain ⟨h3, h⟩ := Bool.and_eq_true_iff.mp h
  obtain ⟨h4, h5⟩ := Bool.and_eq_true_iff.mp h
  refine ⟨?_, He.eqO_ok h2, of_decide_eq_true h3, of_decide_eq_true h4, h5⟩
  split at h1
  · rename_i z dd cd sl ho
    split at h1
    · rename_i C' bm k0 k1 k2 k3 n k5 hm hs
      simp only [Bool.and_eq_true, decide_eq_true_eq, Bool.not_eq_true'] at h1
      obtain ⟨rfl, rfl, rfl, hdl, hdc, hr⟩ := h1
      obtain ⟨nm, bs, mro, ns, qn, hd, sn, sub, ab, col, del⟩ := cd
      dsimp only at hm hdl hdc
      subst hm hdl hdc
      obtain ⟨ls⟩ := sl
      dsimp only at hs
      subst hs
      exact ⟨nm, qn, ns, bs, bm, sn, sub, ab, col, dd, k0, k1, k2, k3, k5, ho, hr⟩
    · cases h1
  · cases h1
theorem exmB_ok {K : PySem.W.Frag} {D : Addr} (h : exmB K D = true) : L2.ExcC K D := by
  obtain ⟨h1, h⟩ := Bool.and_eq_true_iff.mp h
  obtain ⟨h2, h⟩ := Bool.and_eq_true_iff.mp h
  obtain ⟨h3, h⟩ := Bool.and_eq_true_iff.mp h
  obtain ⟨h4, h⟩ := Bool.and_eq_true_iff.mp h
  obtain ⟨h5, h⟩ := Bool.and_eq_true_iff.mp h
  obtain ⟨h6, h⟩ := Bool.and_eq_true_iff.mp h
  obtain ⟨h7, h8⟩ := Bool.and_eq_true_iff.mp h
  exact ⟨He.eqO_ok h1, He.eqO_ok h2, of_decide_eq_true h3, h4, He.eqO_ok h5, He.eqO_ok h6, of_decide_eq_true h7, of_decide_eq_true h8⟩
structure ErrF (K : PySem.W.Frag) (x : Str) : Prop where
  o : OexC K (He.ga K x)
  e : L2.ExcC K (He.ga K x)
  f : XfC K (He.ga K x)
  k : ∀ y, y ∈ kitL → PySem.W.kitOne K (.ref (He.ga K x)) (.ref (He.ga K y)) = some (y == x)
  v : PySem.W.kitOne K (.ref (He.ga K x)) (.type "ValueError") = some true
  i : PySem.W.findIn K (.ref (He.ga K x)) "__init__" = some (some (.ref (He.ma K (He.ga K x) "__init__")))
  t : PySem.W.typeIn K (.ref (He.ma K (He.ga K x) "__init__")) = some (.type "function")
theorem errB_ok {K : PySem.W.Frag} {x : Str} (h : errB K x = true) : ErrF K x := by
  obtain ⟨h1, h⟩ := Bool.and_eq_true_iff.mp h
  obtain ⟨h2, h⟩ := Bool.and_eq_true_iff.mp h
  obtain ⟨h3, h⟩ := Bool.and_eq_true_iff.mp h
  obtain ⟨h4, h⟩ := Bool.and_eq_true_iff.mp h
  obtain ⟨h5, h⟩ := Bool.and_eq_true_iff.mp h
  obtain ⟨h6, h7⟩ := Bool.and_eq_true_iff.mp h
  exact ⟨oexB_ok h1, exmB_ok h2, xfB_ok h3, fun y hy => of_decide_eq_true (List.all_eq_true.mp h4 y hy), of_decide_eq_true h5, He.eqO_ok h6, of_decide_eq_true h7⟩
theorem def_of {K : PySem.W.Frag} {mg : Str → Option Value} {x : Str} {st : Stmt} {dvs : List V} {kws : List (Str × V)} {f : Addr} {fd : FuncData} (F : FunD K x x (C8.fnArgs st) (C8.fnBody st) (C8.fnScope st) dvs kws f fd) (m : mg x = some (.ref f)) : C8.Def K mg x st f fd := by
  obtain ⟨oc, od, dV, kV, doc, pm, an, cdv, ct, osl, e, lk, hcd, _, _⟩ := F.ex
  exact ⟨⟨oc, od, dV, kV, doc, pm, an, cdv, ct, osl, e, lk, hcd⟩, m, F.kp⟩
theorem fun_of {K : PySem.W.Frag} {x q : Str} {st : Stmt} {dvs : List V} {kws : List (Str × V)} {f : Addr} {fd : FuncData} (F : FunD K x q (C8.fnArgs st) (C8.fnBody st) (C8.fnScope st) dvs kws f fd) : C8.Fun K x q st f fd := by
  obtain ⟨oc, od, dV, kV, doc, pm, an, cdv, ct, osl, e, lk, hcd, _, _⟩ := F.ex
  exact ⟨oc, od, dV, kV, doc, pm, an, cdv, ct, osl, e, lk, hcd⟩
end FP
set_option maxHeartbeats 4000000
/-! the law's promise from the head's facts -/
namespace FP
open PySem PySem.Spec PyProof.Rows L2 LamX
section
variable {P : Program} {w : World} {K : PySem.W.Frag} {mg : Str → Option Value} {base h : Heap}
theorem fact_of {f : He.Fa} (c : He.SaysD facts fns K) (i : Nat) (e : facts[i]? = some f := by rfl) : f.ok K = true := c.fact i e
theorem law_says (X : K.In h) (G : h.Ns mainGlobals mg) (c : He.SaysX facts fns [] lams moreB w h K) : ∃ fd : FuncData, (∀ (s : Shared) (uu : Value), BindsTo s fd ⟨[uu], []⟩ [("script", uu)]) ∧
    ∀ base : Heap, K.In base → base.Ns mainGlobals mg → (∀ pr ∈ lams.map (He.cT K), TabB base mg pr.1 pr.2) → FnG P w K mg base 32 (He.ga K "law") fd ["script"] (sp_law K [((He.cT K ("_law_right", none)).2, "_law_right.<locals>.<lambda>"), ((He.cT K ("_law_read_fault", none)).2, "_law_read_fault.<locals>.<lambda>"), ((He.cT K ("law", none)).2, "law.<locals>.<lambda>")]) := by
  have cd := c.t.d
  obtain ⟨mo1, mo⟩ := Bool.and_eq_true_iff.mp c.more
  obtain ⟨mo2, mo⟩ := Bool.and_eq_true_iff.mp mo
  obtain ⟨mo3, mo4⟩ := Bool.and_eq_true_iff.mp mo
  have ET := errB_ok mo2
  have ER := errB_ok mo3
  have nod := of_decide_eq_true mo4
  have G_gcd : mg "gcd" = some (.builtin "math.gcd") := PySem.W.mg_of X G (He.eqO_ok mo1)
  have g_is_integer := He.glo_ok X G (cd.fact 0 (f := .glo "is_integer") rfl)
  have g_is_ratio := He.glo_ok X G (cd.fact 1 (f := .glo "is_ratio") rfl)
  have g_pair := He.glo_ok X G (cd.fact 2 (f := .glo "pair") rfl)
  have g_opposite := He.glo_ok X G (cd.fact 3 (f := .glo "opposite") rfl)
  have g_sign_of := He.glo_ok X G (cd.fact 4 (f := .glo "sign_of") rfl)
  have g_as_tuples := He.glo_ok X G (cd.fact 5 (f := .glo "as_tuples") rfl)
  have g_is_list := He.glo_ok X G (cd.fact 6 (f := .glo "is_list") rfl)
  have g_run_of := He.glo_ok X G (cd.fact 7 (f := .glo "run_of") rfl)
  have g_tokens_of := He.glo_ok X G (cd.fact 8 (f := .glo "tokens_of") rfl)
  have g_is_numeral := He.glo_ok X G (cd.fact 9 (f := .glo "is_numeral") rfl)
  have g_is_small := He.glo_ok X G (cd.fact 10 (f := .glo "is_small") rfl)
  have g_size_text := He.glo_ok X G (cd.fact 11 (f := .glo "size_text") rfl)
  have g_is_plain := He.glo_ok X G (cd.fact 12 (f := .glo "is_plain") rfl)
  have g_text_of_value := He.glo_ok X G (cd.fact 13 (f := .glo "text_of_value") rfl)
  have g_value_text := He.glo_ok X G (cd.fact 14 (f := .glo "value_text") rfl)
  have g_ratio_by := He.glo_ok X G (cd.fact 15 (f := .glo "ratio_by") rfl)
  have g_value_by := He.glo_ok X G (cd.fact 16 (f := .glo "value_by") rfl)
  have g_value_in := He.glo_ok X G (cd.fact 17 (f := .glo "value_in") rfl)
  have g_value_of_text := He.glo_ok X G (cd.fact 18 (f := .glo "value_of_text") rfl)
  have g__law_pen := He.glo_ok X G (cd.fact 19 (f := .glo "_law_pen") rfl)
  have g__law_draw := He.glo_ok X G (cd.fact 20 (f := .glo "_law_draw") rfl)
  have g__law_pick := He.glo_ok X G (cd.fact 21 (f := .glo "_law_pick") rfl)
  have g__law_is := He.glo_ok X G (cd.fact 22 (f := .glo "_law_is") rfl)
  have g__law_divisor := He.glo_ok X G (cd.fact 23 (f := .glo "_law_divisor") rfl)
  have g__law_low := He.glo_ok X G (cd.fact 24 (f := .glo "_law_low") rfl)
  have g__law_pair := He.glo_ok X G (cd.fact 25 (f := .glo "_law_pair") rfl)
  have g__law_times := He.glo_ok X G (cd.fact 26 (f := .glo "_law_times") rfl)
  have g__law_sign := He.glo_ok X G (cd.fact 27 (f := .glo "_law_sign") rfl)
  have g__law_is_ratio := He.glo_ok X G (cd.fact 28 (f := .glo "_law_is_ratio") rfl)
  have g__law_is_whole := He.glo_ok X G (cd.fact 29 (f := .glo "_law_is_whole") rfl)
  have g__law_number := He.glo_ok X G (cd.fact 30 (f := .glo "_law_number") rfl)
  have g__law_wide := He.glo_ok X G (cd.fact 31 (f := .glo "_law_wide") rfl)
  have g__law_fault := He.glo_ok X G (cd.fact 32 (f := .glo "_law_fault") rfl)
  have g__law_kinds := He.glo_ok X G (cd.fact 33 (f := .glo "_law_kinds") rfl)
  have g__law_more_kinds := He.glo_ok X G (cd.fact 34 (f := .glo "_law_more_kinds") rfl)
  have g__law_drawn_value := He.glo_ok X G (cd.fact 35 (f := .glo "_law_drawn_value") rfl)
  have g__law_tokens_of := He.glo_ok X G (cd.fact 36 (f := .glo "_law_tokens_of") rfl)
  have g__law_text_of := He.glo_ok X G (cd.fact 37 (f := .glo "_law_text_of") rfl)
  have g__law_is_figures := He.glo_ok X G (cd.fact 38 (f := .glo "_law_is_figures") rfl)
  have g__law_read := He.glo_ok X G (cd.fact 39 (f := .glo "_law_read") rfl)
  have g__law_right := He.glo_ok X G (cd.fact 40 (f := .glo "_law_right") rfl)
  have g__law_read_fault := He.glo_ok X G (cd.fact 41 (f := .glo "_law_read_fault") rfl)
  have g_law := He.glo_ok X G (cd.fact 42 (f := .glo "law") rfl)
  have g_FieldError := He.glo_ok X G (cd.fact 43 (f := .glo "FieldError") rfl)
  have g_BadNumber := He.glo_ok X G (cd.fact 44 (f := .glo "BadNumber") rfl)
  have g_BadRow := He.glo_ok X G (cd.fact 45 (f := .glo "BadRow") rfl)
  have g_BadTable := He.glo_ok X G (cd.fact 46 (f := .glo "BadTable") rfl)
  have g_BadPoly := He.glo_ok X G (cd.fact 47 (f := .glo "BadPoly") rfl)
  have g_BadPaper := He.glo_ok X G (cd.fact 48 (f := .glo "BadPaper") rfl)
  have g_BadName := He.glo_ok X G (cd.fact 49 (f := .glo "BadName") rfl)
  have g_BadText := He.glo_ok X G (cd.fact 50 (f := .glo "BadText") rfl)
  have g_NoPlace := He.glo_ok X G (cd.fact 51 (f := .glo "NoPlace") rfl)
  have g_NoName := He.glo_ok X G (cd.fact 52 (f := .glo "NoName") rfl)
  have g_TakenName := He.glo_ok X G (cd.fact 53 (f := .glo "TakenName") rfl)
  have g_Unlike := He.glo_ok X G (cd.fact 54 (f := .glo "Unlike") rfl)
  have g_NotThere := He.glo_ok X G (cd.fact 55 (f := .glo "NotThere") rfl)
  have g_TooMany := He.glo_ok X G (cd.fact 56 (f := .glo "TooMany") rfl)
  have g_NotKept := He.glo_ok X G (cd.fact 57 (f := .glo "NotKept") rfl)
  have g_NothingToUndo := He.glo_ok X G (cd.fact 58 (f := .glo "NothingToUndo") rfl)
  have g_NothingToRedo := He.glo_ok X G (cd.fact 59 (f := .glo "NothingToRedo") rfl)
  have g_Reader := He.glo_ok X G (cd.fact 60 (f := .glo "Reader") rfl)
  have fr_len := He.free_ok X G (cd.fact 61 (f := .free "len") rfl)
  have fr_isinstance := He.free_ok X G (cd.fact 62 (f := .free "isinstance") rfl)
  have fr_int := He.free_ok X G (cd.fact 63 (f := .free "int") rfl)
  have fr_str := He.free_ok X G (cd.fact 64 (f := .free "str") rfl)
  have fr_bool := He.free_ok X G (cd.fact 65 (f := .free "bool") rfl)
  have fr_list := He.free_ok X G (cd.fact 66 (f := .free "list") rfl)
  have fr_tuple := He.free_ok X G (cd.fact 67 (f := .free "tuple") rfl)
  have fr_abs := He.free_ok X G (cd.fact 68 (f := .free "abs") rfl)
  have fr_all := He.free_ok X G (cd.fact 69 (f := .free "all") rfl)
  have fr_range := He.free_ok X G (cd.fact 70 (f := .free "range") rfl)
  have fr_enumerate := He.free_ok X G (cd.fact 71 (f := .free "enumerate") rfl)
  have fr_repr := He.free_ok X G (cd.fact 72 (f := .free "repr") rfl)
  have fr_ValueError := He.free_ok X G (cd.fact 73 (f := .free "ValueError") rfl)
  have G_MOST_FIGURES := He.int_ok X G (cd.fact 74 (f := .int "MOST_FIGURES" 400) rfl)
  have G_MOST_DEEP := He.int_ok X G (cd.fact 75 (f := .int "MOST_DEEP" 50) rfl)
  have G_FIGURES := He.str_ok X G (cd.fact 76 (f := .str "FIGURES" "0123456789") rfl)
  have G_LETTERS := He.str_ok X G (cd.fact 77 (f := .str "LETTERS" "abcdefghijklmnopqrstuvwxyz") rfl)
  have cl_Reader := He.cls_ok (cd.fact 78 (f := .cls "Reader") rfl)
  have n_Reader_tokens := He.noat_ok (cd.fact 79 (f := .noat "Reader" "tokens") rfl)
  have n_Reader_line := He.noat_ok (cd.fact 80 (f := .noat "Reader" "line") rfl)
  have n_Reader_at := He.noat_ok (cd.fact 81 (f := .noat "Reader" "at") rfl)
  have n_Reader_limit := He.noat_ok (cd.fact 82 (f := .noat "Reader" "limit") rfl)
  have n_Reader_deep := He.noat_ok (cd.fact 83 (f := .noat "Reader" "deep") rfl)
  have me_wrong := He.meth_ok (cd.fact 84 (f := .meth "Reader" "wrong") rfl)
  have me_next_is := He.meth_ok (cd.fact 85 (f := .meth "Reader" "next_is") rfl)
  have me_need := He.meth_ok (cd.fact 86 (f := .meth "Reader" "need") rfl)
  have me_numeral := He.meth_ok (cd.fact 87 (f := .meth "Reader" "numeral") rfl)
  have me_end := He.meth_ok (cd.fact 88 (f := .meth "Reader" "end") rfl)
  have mk_Reader := He.mkr_ok (cd.fact 89 (f := .mkr "Reader") rfl)
  have n_BadText_line := He.noat_ok (cd.fact 90 (f := .noat "BadText" "line") rfl)
  have n_BadText_word := He.noat_ok (cd.fact 91 (f := .noat "BadText" "word") rfl)
  have n_BadRow_what := He.noat_ok (cd.fact 92 (f := .noat "BadRow" "what") rfl)
  have n_BadRow_row := He.noat_ok (cd.fact 93 (f := .noat "BadRow" "row") rfl)
  have x_BadText := He.exm_ok (cd.fact 94 (f := .exm "BadText" "FieldError" true) rfl)
  have x_BadRow := He.exm_ok (cd.fact 95 (f := .exm "BadRow" "FieldError" true) rfl)
  have Z : Zb mg := ⟨fr_len, fr_isinstance, fr_int, fr_str, fr_bool, fr_list, fr_tuple, fr_abs, fr_all, fr_range, fr_enumerate, fr_repr⟩
  obtain ⟨fd_is_integer, F_is_integer⟩ := cd.def_ 0 (d := dG "is_integer" s_is_integer) rfl
  have D_is_integer : C8.Def K mg "is_integer" s_is_integer (He.ga K "is_integer") fd_is_integer := def_of F_is_integer g_is_integer
  have b_is_integer : Binds K fd_is_integer ["value"] [] := (FunD.bindsN F_is_integer (ps := ["value"]) fun _ _ _ _ _ _ us hl => match us, hl with | [_], _ => rfl)
  obtain ⟨fd_is_ratio, F_is_ratio⟩ := cd.def_ 1 (d := dG "is_ratio" s_is_ratio) rfl
  have D_is_ratio : C8.Def K mg "is_ratio" s_is_ratio (He.ga K "is_ratio") fd_is_ratio := def_of F_is_ratio g_is_ratio
  have b_is_ratio : Binds K fd_is_ratio ["value"] [] := (FunD.bindsN F_is_ratio (ps := ["value"]) fun _ _ _ _ _ _ us hl => match us, hl with | [_], _ => rfl)
  obtain ⟨fd_pair, F_pair⟩ := cd.def_ 2 (d := dG "pair" s_pair) rfl
  have D_pair : C8.Def K mg "pair" s_pair (He.ga K "pair") fd_pair := def_of F_pair g_pair
  have b_pair : Binds K fd_pair ["number"] [] := (FunD.bindsN F_pair (ps := ["number"]) fun _ _ _ _ _ _ us hl => match us, hl with | [_], _ => rfl)
  obtain ⟨fd_opposite, F_opposite⟩ := cd.def_ 3 (d := dG "opposite" s_opposite) rfl
  have D_opposite : C8.Def K mg "opposite" s_opposite (He.ga K "opposite") fd_opposite := def_of F_opposite g_opposite
  have b_opposite : Binds K fd_opposite ["number"] [] := (FunD.bindsN F_opposite (ps := ["number"]) fun _ _ _ _ _ _ us hl => match us, hl with | [_], _ => rfl)
  obtain ⟨fd_sign_of, F_sign_of⟩ := cd.def_ 4 (d := dG "sign_of" s_sign_of) rfl
  have D_sign_of : C8.Def K mg "sign_of" s_sign_of (He.ga K "sign_of") fd_sign_of := def_of F_sign_of g_sign_of
  have b_sign_of : Binds K fd_sign_of ["number"] [] := (FunD.bindsN F_sign_of (ps := ["number"]) fun _ _ _ _ _ _ us hl => match us, hl with | [_], _ => rfl)
  obtain ⟨fd_as_tuples, F_as_tuples⟩ := cd.def_ 5 (d := dG "as_tuples" s_as_tuples) rfl
  have D_as_tuples : C8.Def K mg "as_tuples" s_as_tuples (He.ga K "as_tuples") fd_as_tuples := def_of F_as_tuples g_as_tuples
  have b_as_tuples : Binds K fd_as_tuples ["value"] [] := (FunD.bindsN F_as_tuples (ps := ["value"]) fun _ _ _ _ _ _ us hl => match us, hl with | [_], _ => rfl)
  obtain ⟨fd_is_list, F_is_list⟩ := cd.def_ 6 (d := dG "is_list" s_is_list) rfl
  have D_is_list : C8.Def K mg "is_list" s_is_list (He.ga K "is_list") fd_is_list := def_of F_is_list g_is_list
  have b_is_list : Binds K fd_is_list ["value"] [] := (FunD.bindsN F_is_list (ps := ["value"]) fun _ _ _ _ _ _ us hl => match us, hl with | [_], _ => rfl)
  obtain ⟨fd_run_of, F_run_of⟩ := cd.def_ 7 (d := dG "run_of" s_run_of) rfl
  have D_run_of : C8.Def K mg "run_of" s_run_of (He.ga K "run_of") fd_run_of := def_of F_run_of g_run_of
  have b_run_of : Binds K fd_run_of ["text", "at", "some"] [] := (FunD.bindsN F_run_of (ps := ["text", "at", "some"]) fun _ _ _ _ _ _ us hl => match us, hl with | [_, _, _], _ => rfl)
  obtain ⟨fd_tokens_of, F_tokens_of⟩ := cd.def_ 8 (d := dG "tokens_of" s_tokens_of) rfl
  have D_tokens_of : C8.Def K mg "tokens_of" s_tokens_of (He.ga K "tokens_of") fd_tokens_of := def_of F_tokens_of g_tokens_of
  have b_tokens_of : Binds K fd_tokens_of ["text"] [] := (FunD.bindsN F_tokens_of (ps := ["text"]) fun _ _ _ _ _ _ us hl => match us, hl with | [_], _ => rfl)
  obtain ⟨fd_is_numeral, F_is_numeral⟩ := cd.def_ 9 (d := dG "is_numeral" s_is_numeral) rfl
  have D_is_numeral : C8.Def K mg "is_numeral" s_is_numeral (He.ga K "is_numeral") fd_is_numeral := def_of F_is_numeral g_is_numeral
  have b_is_numeral : Binds K fd_is_numeral ["token"] [] := (FunD.bindsN F_is_numeral (ps := ["token"]) fun _ _ _ _ _ _ us hl => match us, hl with | [_], _ => rfl)
  obtain ⟨fd_is_small, F_is_small⟩ := cd.def_ 10 (d := dG "is_small" s_is_small) rfl
  have D_is_small : C8.Def K mg "is_small" s_is_small (He.ga K "is_small") fd_is_small := def_of F_is_small g_is_small
  have b_is_small : Binds K fd_is_small ["one"] [] := (FunD.bindsN F_is_small (ps := ["one"]) fun _ _ _ _ _ _ us hl => match us, hl with | [_], _ => rfl)
  obtain ⟨fd_size_text, F_size_text⟩ := cd.def_ 11 (d := dG "size_text" s_size_text) rfl
  have D_size_text : C8.Def K mg "size_text" s_size_text (He.ga K "size_text") fd_size_text := def_of F_size_text g_size_text
  have b_size_text : Binds K fd_size_text ["number"] [] := (FunD.bindsN F_size_text (ps := ["number"]) fun _ _ _ _ _ _ us hl => match us, hl with | [_], _ => rfl)
  obtain ⟨fd_is_plain, F_is_plain⟩ := cd.def_ 12 (d := dPl) rfl
  have D_is_plain : C8.Def K mg "is_plain" s_is_plain (He.ga K "is_plain") fd_is_plain := def_of F_is_plain g_is_plain
  obtain ⟨fd_text_of_value, F_text_of_value⟩ := cd.def_ 13 (d := dG "text_of_value" s_text_of_value) rfl
  have D_text_of_value : C8.Def K mg "text_of_value" s_text_of_value (He.ga K "text_of_value") fd_text_of_value := def_of F_text_of_value g_text_of_value
  have b_text_of_value : Binds K fd_text_of_value ["value"] [] := (FunD.bindsN F_text_of_value (ps := ["value"]) fun _ _ _ _ _ _ us hl => match us, hl with | [_], _ => rfl)
  obtain ⟨fd_value_text, F_value_text⟩ := cd.def_ 14 (d := dG "value_text" s_value_text) rfl
  have D_value_text : C8.Def K mg "value_text" s_value_text (He.ga K "value_text") fd_value_text := def_of F_value_text g_value_text
  have b_value_text : Binds K fd_value_text ["value"] [] := (FunD.bindsN F_value_text (ps := ["value"]) fun _ _ _ _ _ _ us hl => match us, hl with | [_], _ => rfl)
  obtain ⟨fd_ratio_by, F_ratio_by⟩ := cd.def_ 15 (d := dG "ratio_by" s_ratio_by) rfl
  have D_ratio_by : C8.Def K mg "ratio_by" s_ratio_by (He.ga K "ratio_by") fd_ratio_by := def_of F_ratio_by g_ratio_by
  have b_ratio_by : Binds K fd_ratio_by ["reader"] [] := (FunD.bindsN F_ratio_by (ps := ["reader"]) fun _ _ _ _ _ _ us hl => match us, hl with | [_], _ => rfl)
  obtain ⟨fd_value_by, F_value_by⟩ := cd.def_ 16 (d := dG "value_by" s_value_by) rfl
  have D_value_by : C8.Def K mg "value_by" s_value_by (He.ga K "value_by") fd_value_by := def_of F_value_by g_value_by
  have b_value_by : Binds K fd_value_by ["reader"] [] := (FunD.bindsN F_value_by (ps := ["reader"]) fun _ _ _ _ _ _ us hl => match us, hl with | [_], _ => rfl)
  obtain ⟨fd_value_in, F_value_in⟩ := cd.def_ 17 (d := dG "value_in" s_value_in) rfl
  have D_value_in : C8.Def K mg "value_in" s_value_in (He.ga K "value_in") fd_value_in := def_of F_value_in g_value_in
  have b_value_in : Binds K fd_value_in ["tokens", "at", "line"] [] := (FunD.bindsN F_value_in (ps := ["tokens", "at", "line"]) fun _ _ _ _ _ _ us hl => match us, hl with | [_, _, _], _ => rfl)
  obtain ⟨fd_value_of_text, F_value_of_text⟩ := cd.def_ 18 (d := dG "value_of_text" s_value_of_text) rfl
  have D_value_of_text : C8.Def K mg "value_of_text" s_value_of_text (He.ga K "value_of_text") fd_value_of_text := def_of F_value_of_text g_value_of_text
  have b_value_of_text : Binds K fd_value_of_text ["text"] [] := (FunD.bindsN F_value_of_text (ps := ["text"]) fun _ _ _ _ _ _ us hl => match us, hl with | [_], _ => rfl)
  obtain ⟨fd__law_pen, F__law_pen⟩ := cd.def_ 19 (d := dG "_law_pen" s_law_pen) rfl
  have D__law_pen : C8.Def K mg "_law_pen" s_law_pen (He.ga K "_law_pen") fd__law_pen := def_of F__law_pen g__law_pen
  have b__law_pen : Binds K fd__law_pen ["script"] [] := (FunD.bindsN F__law_pen (ps := ["script"]) fun _ _ _ _ _ _ us hl => match us, hl with | [_], _ => rfl)
  obtain ⟨fd__law_draw, F__law_draw⟩ := cd.def_ 20 (d := dG "_law_draw" s_law_draw) rfl
  have D__law_draw : C8.Def K mg "_law_draw" s_law_draw (He.ga K "_law_draw") fd__law_draw := def_of F__law_draw g__law_draw
  have b__law_draw : Binds K fd__law_draw ["pen", "many"] [] := (FunD.bindsN F__law_draw (ps := ["pen", "many"]) fun _ _ _ _ _ _ us hl => match us, hl with | [_, _], _ => rfl)
  obtain ⟨fd__law_pick, F__law_pick⟩ := cd.def_ 21 (d := dG "_law_pick" s_law_pick) rfl
  have D__law_pick : C8.Def K mg "_law_pick" s_law_pick (He.ga K "_law_pick") fd__law_pick := def_of F__law_pick g__law_pick
  have b__law_pick : Binds K fd__law_pick ["pen", "some"] [] := (FunD.bindsN F__law_pick (ps := ["pen", "some"]) fun _ _ _ _ _ _ us hl => match us, hl with | [_, _], _ => rfl)
  obtain ⟨fd__law_is, F__law_is⟩ := cd.def_ 22 (d := dG "_law_is" s_law_is) rfl
  have D__law_is : C8.Def K mg "_law_is" s_law_is (He.ga K "_law_is") fd__law_is := def_of F__law_is g__law_is
  have b__law_is : Binds K fd__law_is ["told", "due"] [] := (FunD.bindsN F__law_is (ps := ["told", "due"]) fun _ _ _ _ _ _ us hl => match us, hl with | [_, _], _ => rfl)
  obtain ⟨fd__law_divisor, F__law_divisor⟩ := cd.def_ 23 (d := dG "_law_divisor" s_law_divisor) rfl
  have D__law_divisor : C8.Def K mg "_law_divisor" s_law_divisor (He.ga K "_law_divisor") fd__law_divisor := def_of F__law_divisor g__law_divisor
  have b__law_divisor : Binds K fd__law_divisor ["one", "other"] [] := (FunD.bindsN F__law_divisor (ps := ["one", "other"]) fun _ _ _ _ _ _ us hl => match us, hl with | [_, _], _ => rfl)
  obtain ⟨fd__law_low, F__law_low⟩ := cd.def_ 24 (d := dG "_law_low" s_law_low) rfl
  have D__law_low : C8.Def K mg "_law_low" s_law_low (He.ga K "_law_low") fd__law_low := def_of F__law_low g__law_low
  have b__law_low : Binds K fd__law_low ["top", "bottom"] [] := (FunD.bindsN F__law_low (ps := ["top", "bottom"]) fun _ _ _ _ _ _ us hl => match us, hl with | [_, _], _ => rfl)
  obtain ⟨fd__law_pair, F__law_pair⟩ := cd.def_ 25 (d := dG "_law_pair" s_law_pair) rfl
  have D__law_pair : C8.Def K mg "_law_pair" s_law_pair (He.ga K "_law_pair") fd__law_pair := def_of F__law_pair g__law_pair
  have b__law_pair : Binds K fd__law_pair ["number"] [] := (FunD.bindsN F__law_pair (ps := ["number"]) fun _ _ _ _ _ _ us hl => match us, hl with | [_], _ => rfl)
  obtain ⟨fd__law_times, F__law_times⟩ := cd.def_ 26 (d := dG "_law_times" s_law_times) rfl
  have D__law_times : C8.Def K mg "_law_times" s_law_times (He.ga K "_law_times") fd__law_times := def_of F__law_times g__law_times
  have b__law_times : Binds K fd__law_times ["one", "other"] [] := (FunD.bindsN F__law_times (ps := ["one", "other"]) fun _ _ _ _ _ _ us hl => match us, hl with | [_, _], _ => rfl)
  obtain ⟨fd__law_sign, F__law_sign⟩ := cd.def_ 27 (d := dG "_law_sign" s_law_sign) rfl
  have D__law_sign : C8.Def K mg "_law_sign" s_law_sign (He.ga K "_law_sign") fd__law_sign := def_of F__law_sign g__law_sign
  have b__law_sign : Binds K fd__law_sign ["number"] [] := (FunD.bindsN F__law_sign (ps := ["number"]) fun _ _ _ _ _ _ us hl => match us, hl with | [_], _ => rfl)
  obtain ⟨fd__law_is_ratio, F__law_is_ratio⟩ := cd.def_ 28 (d := dG "_law_is_ratio" s_law_is_ratio) rfl
  have D__law_is_ratio : C8.Def K mg "_law_is_ratio" s_law_is_ratio (He.ga K "_law_is_ratio") fd__law_is_ratio := def_of F__law_is_ratio g__law_is_ratio
  have b__law_is_ratio : Binds K fd__law_is_ratio ["value"] [] := (FunD.bindsN F__law_is_ratio (ps := ["value"]) fun _ _ _ _ _ _ us hl => match us, hl with | [_], _ => rfl)
  obtain ⟨fd__law_is_whole, F__law_is_whole⟩ := cd.def_ 29 (d := dG "_law_is_whole" s_law_is_whole) rfl
  have D__law_is_whole : C8.Def K mg "_law_is_whole" s_law_is_whole (He.ga K "_law_is_whole") fd__law_is_whole := def_of F__law_is_whole g__law_is_whole
  have b__law_is_whole : Binds K fd__law_is_whole ["value"] [] := (FunD.bindsN F__law_is_whole (ps := ["value"]) fun _ _ _ _ _ _ us hl => match us, hl with | [_], _ => rfl)
  obtain ⟨fd__law_number, F__law_number⟩ := cd.def_ 30 (d := dG "_law_number" s_law_number) rfl
  have D__law_number : C8.Def K mg "_law_number" s_law_number (He.ga K "_law_number") fd__law_number := def_of F__law_number g__law_number
  have b__law_number : Binds K fd__law_number ["pen", "size"] [] := (FunD.bindsN F__law_number (ps := ["pen", "size"]) fun _ _ _ _ _ _ us hl => match us, hl with | [_, _], _ => rfl)
  obtain ⟨fd__law_wide, F__law_wide⟩ := cd.def_ 31 (d := dG "_law_wide" s_law_wide) rfl
  have D__law_wide : C8.Def K mg "_law_wide" s_law_wide (He.ga K "_law_wide") fd__law_wide := def_of F__law_wide g__law_wide
  have b__law_wide : Binds K fd__law_wide ["pen", "figures"] [] := (FunD.bindsN F__law_wide (ps := ["pen", "figures"]) fun _ _ _ _ _ _ us hl => match us, hl with | [_, _], _ => rfl)
  obtain ⟨fd__law_fault, F__law_fault⟩ := cd.def_ 32 (d := dG "_law_fault" s_law_fault) rfl
  have D__law_fault : C8.Def K mg "_law_fault" s_law_fault (He.ga K "_law_fault") fd__law_fault := def_of F__law_fault g__law_fault
  have b__law_fault : Binds K fd__law_fault ["call"] [] := (FunD.bindsN F__law_fault (ps := ["call"]) fun _ _ _ _ _ _ us hl => match us, hl with | [_], _ => rfl)
  obtain ⟨fd__law_kinds, F__law_kinds⟩ := cd.def_ 33 (d := dG "_law_kinds" s_law_kinds) rfl
  have D__law_kinds : C8.Def K mg "_law_kinds" s_law_kinds (He.ga K "_law_kinds") fd__law_kinds := def_of F__law_kinds g__law_kinds
  have b__law_kinds : Binds K fd__law_kinds ["e"] [] := (FunD.bindsN F__law_kinds (ps := ["e"]) fun _ _ _ _ _ _ us hl => match us, hl with | [_], _ => rfl)
  obtain ⟨fd__law_more_kinds, F__law_more_kinds⟩ := cd.def_ 34 (d := dG "_law_more_kinds" s_law_more_kinds) rfl
  have D__law_more_kinds : C8.Def K mg "_law_more_kinds" s_law_more_kinds (He.ga K "_law_more_kinds") fd__law_more_kinds := def_of F__law_more_kinds g__law_more_kinds
  have b__law_more_kinds : Binds K fd__law_more_kinds ["e"] [] := (FunD.bindsN F__law_more_kinds (ps := ["e"]) fun _ _ _ _ _ _ us hl => match us, hl with | [_], _ => rfl)
  obtain ⟨fd__law_drawn_value, F__law_drawn_value⟩ := cd.def_ 35 (d := dG "_law_drawn_value" s_law_drawn_value) rfl
  have D__law_drawn_value : C8.Def K mg "_law_drawn_value" s_law_drawn_value (He.ga K "_law_drawn_value") fd__law_drawn_value := def_of F__law_drawn_value g__law_drawn_value
  have b__law_drawn_value : Binds K fd__law_drawn_value ["pen", "deep"] [] := (FunD.bindsN F__law_drawn_value (ps := ["pen", "deep"]) fun _ _ _ _ _ _ us hl => match us, hl with | [_, _], _ => rfl)
  obtain ⟨fd__law_tokens_of, F__law_tokens_of⟩ := cd.def_ 36 (d := dG "_law_tokens_of" s_law_tokens_of) rfl
  have D__law_tokens_of : C8.Def K mg "_law_tokens_of" s_law_tokens_of (He.ga K "_law_tokens_of") fd__law_tokens_of := def_of F__law_tokens_of g__law_tokens_of
  have b__law_tokens_of : Binds K fd__law_tokens_of ["value"] [] := (FunD.bindsN F__law_tokens_of (ps := ["value"]) fun _ _ _ _ _ _ us hl => match us, hl with | [_], _ => rfl)
  obtain ⟨fd__law_text_of, F__law_text_of⟩ := cd.def_ 37 (d := dG "_law_text_of" s_law_text_of) rfl
  have D__law_text_of : C8.Def K mg "_law_text_of" s_law_text_of (He.ga K "_law_text_of") fd__law_text_of := def_of F__law_text_of g__law_text_of
  have b__law_text_of : Binds K fd__law_text_of ["value"] [] := (FunD.bindsN F__law_text_of (ps := ["value"]) fun _ _ _ _ _ _ us hl => match us, hl with | [_], _ => rfl)
  obtain ⟨fd__law_is_figures, F__law_is_figures⟩ := cd.def_ 38 (d := dG "_law_is_figures" s_law_is_figures) rfl
  have D__law_is_figures : C8.Def K mg "_law_is_figures" s_law_is_figures (He.ga K "_law_is_figures") fd__law_is_figures := def_of F__law_is_figures g__law_is_figures
  have b__law_is_figures : Binds K fd__law_is_figures ["word"] [] := (FunD.bindsN F__law_is_figures (ps := ["word"]) fun _ _ _ _ _ _ us hl => match us, hl with | [_], _ => rfl)
  obtain ⟨fd__law_read, F__law_read⟩ := cd.def_ 39 (d := dG "_law_read" s_law_read) rfl
  have D__law_read : C8.Def K mg "_law_read" s_law_read (He.ga K "_law_read") fd__law_read := def_of F__law_read g__law_read
  have b__law_read : Binds K fd__law_read ["tokens", "at"] [] := (FunD.bindsN F__law_read (ps := ["tokens", "at"]) fun _ _ _ _ _ _ us hl => match us, hl with | [_, _], _ => rfl)
  obtain ⟨fd__law_right, F__law_right⟩ := cd.def_ 40 (d := dG "_law_right" s_law_right) rfl
  have D__law_right : C8.Def K mg "_law_right" s_law_right (He.ga K "_law_right") fd__law_right := def_of F__law_right g__law_right
  have b__law_right : Binds K fd__law_right ["pen"] [] := (FunD.bindsN F__law_right (ps := ["pen"]) fun _ _ _ _ _ _ us hl => match us, hl with | [_], _ => rfl)
  obtain ⟨fd__law_read_fault, F__law_read_fault⟩ := cd.def_ 41 (d := dG "_law_read_fault" s_law_read_fault) rfl
  have D__law_read_fault : C8.Def K mg "_law_read_fault" s_law_read_fault (He.ga K "_law_read_fault") fd__law_read_fault := def_of F__law_read_fault g__law_read_fault
  have b__law_read_fault : Binds K fd__law_read_fault ["text"] [] := (FunD.bindsN F__law_read_fault (ps := ["text"]) fun _ _ _ _ _ _ us hl => match us, hl with | [_], _ => rfl)
  obtain ⟨fd_law, F_law⟩ := cd.def_ 42 (d := dG "law" s_law) rfl
  have D_law : C8.Def K mg "law" s_law (He.ga K "law") fd_law := def_of F_law g_law
  have b_law : Binds K fd_law ["script"] [] := (FunD.bindsN F_law (ps := ["script"]) fun _ _ _ _ _ _ us hl => match us, hl with | [_], _ => rfl)
  obtain ⟨fd_Reader___init__, F_Reader___init__⟩ := cd.def_ 43 (d := dM "Reader" "__init__" "Reader.__init__" s_Reader___init__) rfl
  have U_Reader___init__ : C8.Fun K "__init__" "Reader.__init__" s_Reader___init__ (He.ma K (He.ga K "Reader") "__init__") fd_Reader___init__ := fun_of F_Reader___init__
  have b_Reader___init__ : Binds K fd_Reader___init__ ["self", "tokens", "line"] [] := (FunD.bindsN F_Reader___init__ (ps := ["self", "tokens", "line"]) fun _ _ _ _ _ _ us hl => match us, hl with | [_, _, _], _ => rfl)
  obtain ⟨fd_Reader_wrong, F_Reader_wrong⟩ := cd.def_ 44 (d := dM "Reader" "wrong" "Reader.wrong" s_Reader_wrong) rfl
  have U_Reader_wrong : C8.Fun K "wrong" "Reader.wrong" s_Reader_wrong (He.ma K (He.ga K "Reader") "wrong") fd_Reader_wrong := fun_of F_Reader_wrong
  have b_Reader_wrong : Binds K fd_Reader_wrong ["self"] [] := (FunD.bindsN F_Reader_wrong (ps := ["self"]) fun _ _ _ _ _ _ us hl => match us, hl with | [_], _ => rfl)
  obtain ⟨fd_Reader_next_is, F_Reader_next_is⟩ := cd.def_ 45 (d := dM "Reader" "next_is" "Reader.next_is" s_Reader_next_is) rfl
  have U_Reader_next_is : C8.Fun K "next_is" "Reader.next_is" s_Reader_next_is (He.ma K (He.ga K "Reader") "next_is") fd_Reader_next_is := fun_of F_Reader_next_is
  have b_Reader_next_is : Binds K fd_Reader_next_is ["self", "token"] [] := (FunD.bindsN F_Reader_next_is (ps := ["self", "token"]) fun _ _ _ _ _ _ us hl => match us, hl with | [_, _], _ => rfl)
  obtain ⟨fd_Reader_need, F_Reader_need⟩ := cd.def_ 46 (d := dM "Reader" "need" "Reader.need" s_Reader_need) rfl
  have U_Reader_need : C8.Fun K "need" "Reader.need" s_Reader_need (He.ma K (He.ga K "Reader") "need") fd_Reader_need := fun_of F_Reader_need
  have b_Reader_need : Binds K fd_Reader_need ["self", "token"] [] := (FunD.bindsN F_Reader_need (ps := ["self", "token"]) fun _ _ _ _ _ _ us hl => match us, hl with | [_, _], _ => rfl)
  obtain ⟨fd_Reader_numeral, F_Reader_numeral⟩ := cd.def_ 47 (d := dM "Reader" "numeral" "Reader.numeral" s_Reader_numeral) rfl
  have U_Reader_numeral : C8.Fun K "numeral" "Reader.numeral" s_Reader_numeral (He.ma K (He.ga K "Reader") "numeral") fd_Reader_numeral := fun_of F_Reader_numeral
  have b_Reader_numeral : Binds K fd_Reader_numeral ["self"] [] := (FunD.bindsN F_Reader_numeral (ps := ["self"]) fun _ _ _ _ _ _ us hl => match us, hl with | [_], _ => rfl)
  obtain ⟨fd_Reader_end, F_Reader_end⟩ := cd.def_ 48 (d := dM "Reader" "end" "Reader.end" s_Reader_end) rfl
  have U_Reader_end : C8.Fun K "end" "Reader.end" s_Reader_end (He.ma K (He.ga K "Reader") "end") fd_Reader_end := fun_of F_Reader_end
  have b_Reader_end : Binds K fd_Reader_end ["self"] [] := (FunD.bindsN F_Reader_end (ps := ["self"]) fun _ _ _ _ _ _ us hl => match us, hl with | [_], _ => rfl)
  obtain ⟨fd_BadRow___init__, F_BadRow___init__⟩ := cd.def_ 49 (d := dM "BadRow" "__init__" "BadRow.__init__" s_BadRow___init__) rfl
  have U_BadRow___init__ : C8.Fun K "__init__" "BadRow.__init__" s_BadRow___init__ (He.ma K (He.ga K "BadRow") "__init__") fd_BadRow___init__ := fun_of F_BadRow___init__
  have b_BadRow___init__ : Binds K fd_BadRow___init__ ["self", "what", "row"] [] := (FunD.bindsN F_BadRow___init__ (ps := ["self", "what", "row"]) fun _ _ _ _ _ _ us hl => match us, hl with | [_, _, _], _ => rfl)
  obtain ⟨fd_BadText___init__, F_BadText___init__⟩ := cd.def_ 50 (d := dM "BadText" "__init__" "BadText.__init__" s_BadText___init__) rfl
  have U_BadText___init__ : C8.Fun K "__init__" "BadText.__init__" s_BadText___init__ (He.ma K (He.ga K "BadText") "__init__") fd_BadText___init__ := fun_of F_BadText___init__
  have b_BadText___init__ : Binds K fd_BadText___init__ ["self", "line", "word"] [] := (FunD.bindsN F_BadText___init__ (ps := ["self", "line", "word"]) fun _ _ _ _ _ _ us hl => match us, hl with | [_, _, _], _ => rfl)
  obtain ⟨dsP, vsP, b1P⟩ := FunD.binds1 F_is_plain (ps := ["value", "deep"]) 1 0 (by intro z; cases z) rfl fun T kV doc pm an cdv ct us its hl hl2 => match us, its, hl, hl2 with | [_], [_], _, _ => ⟨_, rfl, rfl⟩
  obtain ⟨dsQ, vsQ, b2P⟩ := FunD.binds1 F_is_plain (ps := ["value", "deep"]) 2 1 (by intro z; cases z) rfl fun T kV doc pm an cdv ct us its hl hl2 => match us, its, hl, hl2 with | [_, _], [_], _, _ => ⟨_, rfl, rfl⟩
  cases vsQ
  refine ⟨fd_law, fun s uu => FunD.bindsA F_law (ps := ["script"]) (fun _ _ _ _ _ _ us hl => match us, hl with | [_], _ => rfl) s [uu] rfl, fun base Xb Gb TB => ?_⟩
  have lc : ∀ {x : Str} {st : Stmt} {f : Addr} {fd : FuncData}, C8.Def K mg x st f fd → f = He.ga K x → fd.code = .ref (He.cT K (x, none)).1 := fun {x st f fd} D e => by
    obtain ⟨oc, od, dV, kV, doc, pm, an, cdv, ct, osl, e1, lk, hcd⟩ := D.fn.ex
    obtain ⟨cc, ec⟩ := He.codeIn_ref hcd
    subst e
    have ef : fd.code = .ref cc := by rw [e1]; exact ec
    rw [ef, show (He.cT K (x, none)).1 = cc from He.codeOf_eq (p := (x, none)) lk ef]
  have R_BadText : ErrX P w K mg base "BadText" (He.ga K "BadText") "line" "word" := ⟨ET.o, g_BadText, _, _, _, ET.i, ET.t, init_BadText U_BadText___init__ ET.o n_BadText_line n_BadText_word, b_BadText___init__⟩
  have R_BadRow : ErrX P w K mg base "BadRow" (He.ga K "BadRow") "what" "row" := ⟨ER.o, g_BadRow, _, _, _, ER.i, ER.t, init_BadRow U_BadRow___init__ ER.o n_BadRow_what n_BadRow_row, b_BadRow___init__⟩
  have c_is_integer : CalX P w K mg base 1 "is_integer" (sp_is_integer K) := ok_is_integer (Z := Z) (D := D_is_integer) (b := b_is_integer)
  have c_is_ratio : CalX P w K mg base 2 "is_ratio" (sp_is_ratio K) := ok_is_ratio (Z := Z) (G_gcd := G_gcd) (D := D_is_ratio) (b := b_is_ratio) (c_is_integer := c_is_integer)
  have c_pair : CalX P w K mg base 1 "pair" (sp_pair K) := ok_pair (Z := Z) (D := D_pair) (b := b_pair)
  have c_opposite : CalX P w K mg base 1 "opposite" (sp_opposite K) := ok_opposite (Z := Z) (D := D_opposite) (b := b_opposite)
  have c_sign_of : CalX P w K mg base 1 "sign_of" (sp_sign_of K) := ok_sign_of (Z := Z) (D := D_sign_of) (b := b_sign_of)
  have c_is_list : CalX P w K mg base 1 "is_list" (sp_is_list K) := ok_is_list (Z := Z) (D := D_is_list) (b := b_is_list)
  have c_is_small : CalX P w K mg base 2 "is_small" (sp_is_small K) := ok_is_small (Z := Z) (D := D_is_small) (b := b_is_small) (c_pair := c_pair)
  have c_size_text : CalX P w K mg base 2 "size_text" (sp_size_text K) := ok_size_text (Z := Z) (D := D_size_text) (b := b_size_text) (c_pair := c_pair)
  have c_as_all : ∀ n, CalX P w K mg base (n + 1) "as_tuples" (sp_as_tuples K n) := fun n => by
    induction n with
    | zero => exact ok_as_tuples Z D_as_tuples b_as_tuples fun z => absurd z (Nat.lt_irrefl 0)
    | succ n ih => exact ok_as_tuples Z D_as_tuples b_as_tuples fun _ => ih
  have c_as_tuples := c_as_all 4
  have c_is_plain := ok_is_plain (Z := Z) (D := D_is_plain) (b2 := b2P) (hd := vsP) (b1 := b1P) (G_MOST_DEEP := G_MOST_DEEP) (c_is_ratio := c_is_ratio) (c_is_small := c_is_small) (c_is_list := c_is_list) 4
  have c_text_of_value := ok_text_of_value (Z := Z) (D := D_text_of_value) (b := b_text_of_value) (c_is_ratio := c_is_ratio) (c_sign_of := c_sign_of) (c_size_text := c_size_text) 4
  have c_value_text : CalX P w K mg base 8 "value_text" (sp_value_text K (He.ga K "BadRow") 4) := ok_value_text (D := D_value_text) (b := b_value_text) (hn := (by decide)) (R_BadRow := R_BadRow) (c_is_plain := c_is_plain) (c_as_tuples := c_as_tuples) (c_text_of_value := c_text_of_value)
  have c_run_of : CalX P w K mg base 1 "run_of" (sp_run_of) := ok_run_of (Z := Z) (D := D_run_of) (b := b_run_of)
  have c_tokens_of : CalX P w K mg base 3 "tokens_of" (sp_tokens_of K (He.ga K "BadText")) := ok_tokens_of (Z := Z) (D := D_tokens_of) (b := b_tokens_of) (R_BadText := R_BadText) (G_FIGURES := G_FIGURES) (G_LETTERS := G_LETTERS) (c_run_of := c_run_of)
  have c_is_numeral : CalX P w K mg base 1 "is_numeral" (sp_is_numeral) := ok_is_numeral (Z := Z) (D := D_is_numeral) (b := b_is_numeral) (G_FIGURES := G_FIGURES) (G_MOST_FIGURES := G_MOST_FIGURES)
  have m_wrong : MetX P w K mg base 3 (He.ga K "Reader") "wrong" (sp_wrong K (He.ga K "Reader") (He.ga K "BadText")) := ⟨_, _, _, cl_Reader, me_wrong, fn_wrong (F := U_Reader_wrong) (R_BadText := R_BadText), b_Reader_wrong⟩
  have m_next_is : MetX P w K mg base 1 (He.ga K "Reader") "next_is" (sp_next_is K (He.ga K "Reader")) := ⟨_, _, _, cl_Reader, me_next_is, fn_next_is (Z := Z) (F := U_Reader_next_is), b_Reader_next_is⟩
  have m_need : MetX P w K mg base 4 (He.ga K "Reader") "need" (sp_need K (He.ga K "Reader") (He.ga K "BadText")) := ⟨_, _, _, cl_Reader, me_need, fn_need (F := U_Reader_need) (m_next_is := m_next_is) (m_wrong := m_wrong), b_Reader_need⟩
  have m_numeral : MetX P w K mg base 4 (He.ga K "Reader") "numeral" (sp_numeral K (He.ga K "Reader") (He.ga K "BadText")) := ⟨_, _, _, cl_Reader, me_numeral, fn_numeral (Z := Z) (F := U_Reader_numeral) (c_is_numeral := c_is_numeral) (m_wrong := m_wrong), b_Reader_numeral⟩
  have m_end : MetX P w K mg base 4 (He.ga K "Reader") "end" (sp_end K (He.ga K "Reader") (He.ga K "BadText")) := ⟨_, _, _, cl_Reader, me_end, fn_end (Z := Z) (F := U_Reader_end) (m_wrong := m_wrong), b_Reader_end⟩
  have RC : RdC K (He.ga K "Reader") := ⟨cl_Reader, n_Reader_tokens, n_Reader_line, n_Reader_at, n_Reader_limit, n_Reader_deep⟩
  have MK_Reader : MkX P w K mg base 1 "Reader" (He.ga K "Reader") (sp_init K (He.ga K "Reader")) := ⟨_, _, _, mk_Reader, fn_init (F := U_Reader___init__), g_Reader, b_Reader___init__⟩
  have c_ratio_by : CalX P w K mg base 5 "ratio_by" (sp_ratio_by K (He.ga K "Reader") (He.ga K "BadText")) := ok_ratio_by (D := D_ratio_by) (b := b_ratio_by) (m_next_is := m_next_is) (m_wrong := m_wrong) (m_numeral := m_numeral) (c_is_ratio := c_is_ratio) (c_opposite := c_opposite)
  have c_value_by : CalX P w K mg base 26 "value_by" (sp_value_by K (He.ga K "Reader") (He.ga K "BadText") 20) := ok_value_by (Z := Z) (D := D_value_by) (b := b_value_by) (G_MOST_DEEP := G_MOST_DEEP) (m_next_is := m_next_is) (m_need := m_need) (c_ratio_by := c_ratio_by) 20
  have c_value_in : CalX P w K mg base 27 "value_in" (sp_value_in K (He.ga K "BadText") 20) := ok_value_in (D := D_value_in) (b := b_value_in) (hn := (show 20 ≤ 50 by decide)) (RC := RC) (MK_Reader := MK_Reader) (c_value_by := c_value_by) (m_end := m_end)
  have c_value_of_text : CalX P w K mg base 28 "value_of_text" (sp_value_of_text K (He.ga K "BadText") 20) := ok_value_of_text (D := D_value_of_text) (b := b_value_of_text) (hn := (show 20 ≤ 50 by decide)) (c_tokens_of := c_tokens_of) (c_value_in := c_value_in)
  have c_law_pen : CalX P w K mg base 1 "_law_pen" (sp_law_pen K) := ok_law_pen (Z := Z) (D := D__law_pen) (b := b__law_pen)
  have c_law_draw : CalX P w K mg base 1 "_law_draw" (sp_law_draw K) := ok_law_draw (Z := Z) (D := D__law_draw) (b := b__law_draw)
  have c_law_pick : CalX P w K mg base 2 "_law_pick" (sp_law_pick K) := ok_law_pick (Z := Z) (D := D__law_pick) (b := b__law_pick) (c_law_draw := c_law_draw)
  have c_law_divisor : CalX P w K mg base 1 "_law_divisor" (sp_law_divisor) := ok_law_divisor (Z := Z) (D := D__law_divisor) (b := b__law_divisor)
  have c_law_low : CalX P w K mg base 2 "_law_low" (sp_law_low K) := ok_law_low (D := D__law_low) (b := b__law_low) (c_law_divisor := c_law_divisor)
  have c_law_pair : CalX P w K mg base 1 "_law_pair" (sp_law_pair K) := ok_law_pair (Z := Z) (D := D__law_pair) (b := b__law_pair)
  have c_law_times : CalX P w K mg base 3 "_law_times" (sp_law_times K) := ok_law_times (D := D__law_times) (b := b__law_times) (c_law_pair := c_law_pair) (c_law_low := c_law_low)
  have c_law_sign : CalX P w K mg base 2 "_law_sign" (sp_law_sign K) := ok_law_sign (Z := Z) (D := D__law_sign) (b := b__law_sign) (c_law_pair := c_law_pair)
  have c_law_is_whole : CalX P w K mg base 1 "_law_is_whole" (sp_law_is_whole K) := ok_law_is_whole (Z := Z) (D := D__law_is_whole) (b := b__law_is_whole)
  have c_law_is_ratio : CalX P w K mg base 2 "_law_is_ratio" (sp_law_is_ratio K) := ok_law_is_ratio (Z := Z) (D := D__law_is_ratio) (b := b__law_is_ratio) (c_law_is_whole := c_law_is_whole) (c_law_divisor := c_law_divisor)
  have c_law_wide : CalX P w K mg base 2 "_law_wide" (sp_law_wide K) := ok_law_wide (Z := Z) (D := D__law_wide) (b := b__law_wide) (c_law_draw := c_law_draw)
  have c_law_number : CalX P w K mg base 3 "_law_number" (sp_law_number K) := ok_law_number (D := D__law_number) (b := b__law_number) (c_law_draw := c_law_draw) (c_law_low := c_law_low) (c_law_wide := c_law_wide)
  have c_law_is : CalX P w K mg base 5 "_law_is" (sp_law_is K 4) := ok_law_is (Z := Z) (D := D__law_is) (b := b__law_is) 4
  have c_law_drawn_value : CalX P w K mg base 7 "_law_drawn_value" (sp_law_drawn K 3) := ok_law_drawn (Z := Z) (D := D__law_drawn_value) (b := b__law_drawn_value) (c_law_draw := c_law_draw) (c_law_number := c_law_number) 3
  have c_law_tokens_of : CalX P w K mg base 7 "_law_tokens_of" (sp_law_tokens_of K 3) := ok_law_tokens_of (Z := Z) (D := D__law_tokens_of) (b := b__law_tokens_of) (c_law_is_ratio := c_law_is_ratio) (c_law_sign := c_law_sign) (c_law_times := c_law_times) (c_law_is_whole := c_law_is_whole) 3
  have c_law_text_of : CalX P w K mg base 8 "_law_text_of" (sp_law_text_of K 3) := ok_law_text_of (Z := Z) (D := D__law_text_of) (b := b__law_text_of) (c_law_tokens_of := c_law_tokens_of)
  have c_law_is_figures : CalX P w K mg base 1 "_law_is_figures" sp_law_is_figures := ok_law_is_figures (Z := Z) (D := D__law_is_figures) (b := b__law_is_figures)
  have c_law_read : CalX P w K mg base 22 "_law_read" (sp_law_read K 20) := ok_law_read (Z := Z) (D := D__law_read) (b := b__law_read) (c_law_is_figures := c_law_is_figures) (c_law_divisor := c_law_divisor) 20
  have more_ET := ok_more (P := P) (w := w) (base := base) (Z := Z) (D := D__law_more_kinds) (b := b__law_more_kinds) (hC := ET.e) (G_NoName := g_NoName) (k_NoName := (ET.k "NoName" (by decide)).trans (by rfl)) (G_TakenName := g_TakenName) (k_TakenName := (ET.k "TakenName" (by decide)).trans (by rfl)) (G_Unlike := g_Unlike) (k_Unlike := (ET.k "Unlike" (by decide)).trans (by rfl)) (G_NotThere := g_NotThere) (k_NotThere := (ET.k "NotThere" (by decide)).trans (by rfl)) (G_TooMany := g_TooMany) (k_TooMany := (ET.k "TooMany" (by decide)).trans (by rfl)) (G_NotKept := g_NotKept) (k_NotKept := (ET.k "NotKept" (by decide)).trans (by rfl)) (G_NothingToUndo := g_NothingToUndo) (k_NothingToUndo := (ET.k "NothingToUndo" (by decide)).trans (by rfl)) (G_NothingToRedo := g_NothingToRedo) (k_NothingToRedo := (ET.k "NothingToRedo" (by decide)).trans (by rfl))
  have more_ER := ok_more (P := P) (w := w) (base := base) (Z := Z) (D := D__law_more_kinds) (b := b__law_more_kinds) (hC := ER.e) (G_NoName := g_NoName) (k_NoName := (ER.k "NoName" (by decide)).trans (by rfl)) (G_TakenName := g_TakenName) (k_TakenName := (ER.k "TakenName" (by decide)).trans (by rfl)) (G_Unlike := g_Unlike) (k_Unlike := (ER.k "Unlike" (by decide)).trans (by rfl)) (G_NotThere := g_NotThere) (k_NotThere := (ER.k "NotThere" (by decide)).trans (by rfl)) (G_TooMany := g_TooMany) (k_TooMany := (ER.k "TooMany" (by decide)).trans (by rfl)) (G_NotKept := g_NotKept) (k_NotKept := (ER.k "NotKept" (by decide)).trans (by rfl)) (G_NothingToUndo := g_NothingToUndo) (k_NothingToUndo := (ER.k "NothingToUndo" (by decide)).trans (by rfl)) (G_NothingToRedo := g_NothingToRedo) (k_NothingToRedo := (ER.k "NothingToRedo" (by decide)).trans (by rfl))
  have c_law_kinds : CalE P w K mg base 2 "_law_kinds" (sp_kinds K (He.ga K "BadText") (He.ga K "BadRow")) := ok_kinds D__law_kinds b__law_kinds (kindsT (Z := Z) (hC := ET.e) (XT := ET.f) (N_line := n_BadText_line) (N_word := n_BadText_word) (G_BadNumber := g_BadNumber) (k_BadNumber := (ET.k "BadNumber" (by decide)).trans (by rfl)) (G_BadRow := g_BadRow) (k_BadRow := (ET.k "BadRow" (by decide)).trans (by rfl)) (G_BadTable := g_BadTable) (k_BadTable := (ET.k "BadTable" (by decide)).trans (by rfl)) (G_BadPoly := g_BadPoly) (k_BadPoly := (ET.k "BadPoly" (by decide)).trans (by rfl)) (G_BadPaper := g_BadPaper) (k_BadPaper := (ET.k "BadPaper" (by decide)).trans (by rfl)) (G_BadName := g_BadName) (k_BadName := (ET.k "BadName" (by decide)).trans (by rfl)) (G_BadText := g_BadText) (k_BadText := (ET.k "BadText" (by decide)).trans (by rfl)) (G_NoPlace := g_NoPlace) (k_NoPlace := (ET.k "NoPlace" (by decide)).trans (by rfl)) (c_law_more_kinds := more_ET)) (kindsR (Z := Z) (hC := ER.e) (XT := ER.f) (N_what := n_BadRow_what) (N_row := n_BadRow_row) (G_BadNumber := g_BadNumber) (k_BadNumber := (ER.k "BadNumber" (by decide)).trans (by rfl)) (G_BadRow := g_BadRow) (k_BadRow := (ER.k "BadRow" (by decide)).trans (by rfl)) (G_BadTable := g_BadTable) (k_BadTable := (ER.k "BadTable" (by decide)).trans (by rfl)) (G_BadPoly := g_BadPoly) (k_BadPoly := (ER.k "BadPoly" (by decide)).trans (by rfl)) (G_BadPaper := g_BadPaper) (k_BadPaper := (ER.k "BadPaper" (by decide)).trans (by rfl)) (G_BadName := g_BadName) (k_BadName := (ER.k "BadName" (by decide)).trans (by rfl)) (G_BadText := g_BadText) (k_BadText := (ER.k "BadText" (by decide)).trans (by rfl)) (G_NoPlace := g_NoPlace) (k_NoPlace := (ER.k "NoPlace" (by decide)).trans (by rfl)) (c_law_more_kinds := more_ER))
  have FL : FltC P w K mg base (He.ga K "BadText") (He.ga K "BadRow") := ⟨⟨_, _, _, D__law_fault, b__law_fault, g_FieldError, x_BadText, x_BadRow⟩, Z, ET.e, ER.e, ET.v, ER.v, fr_ValueError, c_law_kinds⟩
  have t1 := TB (He.cT K ("_law_right", none)) (List.mem_cons_self)
  have t2 := TB (He.cT K ("_law_read_fault", none)) (List.mem_cons_of_mem _ List.mem_cons_self)
  have t3 := TB (He.cT K ("law", none)) (List.mem_cons_of_mem _ (List.mem_cons_of_mem _ List.mem_cons_self))
  have n12 : (He.cT K ("_law_right", none)).2 ≠ (He.cT K ("_law_read_fault", none)).2 := fun z => by simp [lams, z] at nod
  have n13 : (He.cT K ("_law_right", none)).2 ≠ (He.cT K ("law", none)).2 := fun z => by simp [lams, z] at nod
  have n23 : (He.cT K ("_law_read_fault", none)).2 ≠ (He.cT K ("law", none)).2 := fun z => by simp [lams, z] at nod
  let TT : List (Addr × Str) := [((He.cT K ("_law_right", none)).2, ("_law_right.<locals>.<lambda>" : Str)), ((He.cT K ("_law_read_fault", none)).2, "_law_read_fault.<locals>.<lambda>"), ((He.cT K ("law", none)).2, "law.<locals>.<lambda>")]
  have hu1 : ∀ p ∈ TT, p.1 = (He.cT K ("_law_right", none)).2 → p.2 = ("_law_right.<locals>.<lambda>" : Str) := fun p hp e => by
    rcases List.mem_cons.mp hp with rfl | hp
    · rfl
    · rcases List.mem_cons.mp hp with rfl | hp
      · exact absurd e.symm n12
      · obtain rfl := List.mem_singleton.mp hp
        exact absurd e.symm n13
  have hu2 : ∀ p ∈ TT, p.1 = (He.cT K ("_law_read_fault", none)).2 → p.2 = ("_law_read_fault.<locals>.<lambda>" : Str) := fun p hp e => by
    rcases List.mem_cons.mp hp with rfl | hp
    · exact absurd e n12
    · rcases List.mem_cons.mp hp with rfl | hp
      · rfl
      · obtain rfl := List.mem_singleton.mp hp
        exact absurd e.symm n23
  have hu3 : ∀ p ∈ TT, p.1 = (He.cT K ("law", none)).2 → p.2 = ("law.<locals>.<lambda>" : Str) := fun p hp e => by
    rcases List.mem_cons.mp hp with rfl | hp
    · exact absurd e n13
    · rcases List.mem_cons.mp hp with rfl | hp
      · exact absurd e n23
      · obtain rfl := List.mem_singleton.mp hp
        rfl
  have c_law_right : CalG P w K mg base 31 "_law_right" (sp_law_right K _) := ok_law_right (Z := Z) (D := D__law_right) (hc := (lc D__law_right rfl)) (b := b__law_right) (F := FL) (c_law_drawn_value := c_law_drawn_value) (c_law_text_of := c_law_text_of) (c_law_is := c_law_is) (c_value_text := c_value_text) (c_value_of_text := c_value_of_text) (c_law_tokens_of := c_law_tokens_of) (c_law_draw := c_law_draw) (c_law_pick := c_law_pick) (c_law_read := c_law_read) (TB := t1) (hq := (by decide +kernel)) (hmT := List.mem_cons_self) (hu := hu1)
  have c_law_read_fault : CalG P w K mg base 31 "_law_read_fault" (sp_law_read_fault K _) := ok_law_read_fault (D := D__law_read_fault) (hc := (lc D__law_read_fault rfl)) (b := b__law_read_fault) (F := FL) (c_value_of_text := c_value_of_text) (TB := t2) (hq := (by decide +kernel)) (hmT := (List.mem_cons_of_mem _ List.mem_cons_self)) (hu := hu2)
  have c_law := ok_law (Z := Z) (D := D_law) (hc := (lc D_law rfl)) (F := FL) (c_law_pen := c_law_pen) (c_law_right := c_law_right) (c_law_pick := c_law_pick) (c_value_text := c_value_text) (c_law_read_fault := c_law_read_fault) (c_value_of_text := c_value_of_text) (c_law_is := c_law_is) (TB := t3) (hq := (by decide +kernel)) (hmT := (List.mem_cons_of_mem _ (List.mem_cons_of_mem _ List.mem_cons_self))) (hu := hu3)
  exact c_law
end
end FP
set_option maxHeartbeats 4000000
/-! the end of the row -/
namespace FP
open PySem PySem.Spec PyProof.Rows L2 LamX
theorem walk_GE {l : PySem.W.OpenLaw} {n k : Nat} {q : Program} {loose : List Str} {XP : (Str → Option Value) → Heap → Prop} {YP : World → Heap → Prop} {d : DefRec} {x : Str}
    (hn : l.most = some n) (hn2 : n ≤ sizeLine) (hdf : d.params.defaults = []) (hr : Room k callerA)
    (F : ∀ (w : World) (mg : Str → Option Value) (fa : Addr) (h : Heap), YP w h → h.Ns mainGlobals mg → mg d.name = some (.ref fa) → ∃ K : PySem.W.Frag, K.In h ∧ LawAtG l w K k n x mg fa h) :
    PySem.W.WalkO q loose XP YP l.row.toRowW d [] (fun f vs => PySem.call f vs) := by
  refine Att.attach_callB hn hdf fun w s0 s1 mg mb fa o pm cd doc la vs nums G Y ho hd hcd hmg hobj hints hlen hbits hg => ?_
  obtain ⟨K, KX, fd, tabs, sp, hT, nT, C, hb, hsp, hF⟩ := F w mg fa _ Y G.T.g hmg
  exact law_callG KX G.T.g G.T.b G.T.builtins G.T.nolimit hg hT nT C G.T.bmain hobj hints (Nat.le_trans hlen hn2) hr hF hb (fun HA hH hS => hsp HA la nums hlen hbits hH hS)
theorem at_law {l : PySem.W.OpenLaw} {w : World} {mg : Str → Option Value} {fa : Addr} {h : Heap} (Y : hkX.says w h) (G : h.Ns mainGlobals mg) (hmg : mg "law" = some (.ref fa)) : ∃ K : PySem.W.Frag, K.In h ∧ LawAtG l w K 32 63 "script" mg fa h := by
  obtain ⟨K, KX, c⟩ := Y
  obtain ⟨fd, hb, hF⟩ := law_says (P := l.prog) KX G c
  have e : fa = He.ga K "law" := by
    have g := He.glo_ok KX G (c.t.d.fact 42 (f := .glo "law") rfl)
    rw [hmg] at g
    injection g with g
    injection g
  subst e
  refine ⟨K, KX, fd, lams.map (He.cT K), _, fun pr hp => ?_, fun pr hp => ?_, fun pr hp => ?_, hb, fun HA la nums _ _ hH hS => ⟨la, nums, rfl, hS, ?_, fun _ => rfl⟩, fun base Kb Gb TB => hF base Kb Gb TB⟩
  · obtain ⟨d, hd, rfl⟩ := List.mem_map.mp hp
    exact c.empty d hd
  · obtain ⟨d, hd, rfl⟩ := List.mem_map.mp hp
    exact c.out d hd
  · obtain ⟨d, hd, rfl⟩ := List.mem_map.mp hp
    exact PySem.W.codeHd_of_K KX (c.hd d hd)
  · have go : ∀ d, d ∈ lams → ∀ z : Str, TabS HA (He.cT K d).2 z := fun d hd z => TabS.nil (hH _ (List.mem_map.mpr ⟨d, hd, rfl⟩))
    intro p hp
    rcases List.mem_cons.mp hp with rfl | hp
    · exact go ("_law_right", none) List.mem_cons_self _
    · rcases List.mem_cons.mp hp with rfl | hp
      · exact go ("_law_read_fault", none) (List.mem_cons_of_mem _ List.mem_cons_self) _
      · obtain rfl := List.mem_singleton.mp hp
        exact go ("law", none) (List.mem_cons_of_mem _ (List.mem_cons_of_mem _ List.mem_cons_self)) _
end FP
set_option maxHeartbeats 0
namespace FP
open PySem PySem.Spec PyProof.Rows L2 LamX
end FP
open PySem PySem.W PySem.Calls PyProof.Rows
theorem PySem.Challenge.cw_fieldpapers_k75_whole_plain_values_holds : PySem.Challenge.rw_fieldpapers_k75_whole_plain_values.Holds := by
  w_on; o_law
  refine HandSHeadRun.head_imp (r := FP.RR) (q := FP.qV) (H := FP.hkX) (ob := FP.obX) (M := 20000) (loose := FP.nmL) (d := HandSHeadRun.topDef FP.RR.prog 72) (kwd := []) FP.obX_eq FP.runX
    (by kernel_rfl) (by kernel_rfl) (by kernel_rfl) (by rfl) (by first | assumption | decide +kernel) (by decide +kernel) ⟨rfl, rfl, rfl, rfl, rfl, by decide +kernel⟩ ?hw ?hc
  case hw => w_witness2
  case hc =>
    refine FP.walk_GE (l := PySem.Challenge.rw_fieldpapers_k75_whole_plain_values) (n := 63) (k := 32) (x := "script") rfl (by decide) (by kernel_rfl) ⟨rfl, by decide, by decide⟩ fun w mg fa h Y G hmg => ?_
    refine FP.at_law Y G ?_
    rw [← hmg]
    exact congrArg mg (by kernel_rfl)
