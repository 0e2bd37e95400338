import PyProof.Rows.All
import Wide.All
import OpenK.AllK
import Wide.FinOn
import HandS.ForMost
import HandS.ForExc
import HandS.Codes
import HandS.Defaults
import HandS.CallSlots
import HandS.ExcInit
import HandS.ExcCtx
import HandS.HotCalls
import HandS.IsInst
import HandS.Gcd
import HandS.Lambda
import HandS.TupAny
import HandS.Style
import HandS.Dict
import HandS.RaiseMore
import HandS.Wide
import HandS.Head0
import HandS.Head1
import HandS.Head2
import HandS.Head3
import HandS.HeadHook4
import HandS.ExcField
import HandS.Walk
import HandS.Steps
import PyProof.Draws
import HandS.Zip0
import HandS.EndTab
import HandS.ExcIs
import PyProof.ReprRoads
import HandS.EndOwn
import PyProof.StrBlock2
import HandS.Zip
import HandS.TryOnly
import PyProof.EnumMake
import HandS.TupMul
import HandS.HeadWalk
import PySem.Challenge.RW_fieldpapers_k76_whole_books_as_texts
set_option Elab.async false
set_option linter.all false
set_option maxRecDepth 100000
namespace FP
open PySem PySem.Spec PyProof.Rows L2

section
variable {CX : CXT} {P : Program} {w : World} {K : PySem.W.Frag} {mg : Str → Option Value} {base : Heap} {N : List Str} {qual : Str} {scope : Scope} {f : Addr} {cd : Value} {A : Around} {outer : List Env} {s : Shared} {H : Hp} {E : XK}
theorem cx_K : (cxOf CX P w K mg base N qual scope f cd A outer s H E).K = K := rfl
theorem cx_w : (cxOf CX P w K mg base N qual scope f cd A outer s H E).w = w := rfl
theorem cx_prog : (cxOf CX P w K mg base N qual scope f cd A outer s H E).prog = P := rfl
end
/-- a def that may be called by its name -/
structure CalX (P : Program) (w : World) (K : PySem.W.Frag) (mg : Str → Option Value) (base : Heap) (k : Nat) (x : Str) (sp : Sp) : Prop where
  ex : ∃ (f : Addr) (fd : FuncData) (ps : List Str), FnOk P w K mg base (L2N.CX P w) k f fd ps sp ∧ mg x = some (.ref f) ∧ PySem.W.keepIn K (.ref f) = true ∧ Binds K fd ps []
/-- a method of the class at C -/
structure MetX (P : Program) (w : World) (K : PySem.W.Frag) (mg : Str → Option Value) (base : Heap) (k : Nat) (C : Addr) (m : Str) (sp : Sp) : Prop where
  ex : ∃ (f : Addr) (fd : FuncData) (ps : List Str), Cls K C ∧ Meth K C m f ∧ FnOk P w K mg base (L2N.CX P w) k f fd ps sp ∧ Binds K fd ps []
section
variable {P : Program} {w : World} {K : PySem.W.Frag} {mg : Str → Option Value} {base : Heap}
/-- a def by its body -/
theorem fnX {x qual : Str} {st : Stmt} {f : Addr} {fd : FuncData} {N ps : List Str} {k : Nat} {sp : Sp} (F : C8.Fun K x qual st f fd) (S : FnScope N ps (C8.fnScope st)) (len : ∀ vs H Q E, sp vs H Q E → vs.length = ps.length)
    (hbody : ∀ (cdv : Value) (A : Around) (outer : List Env) (s : Shared) (H : Hp) (vs : List V) (Q : VK) (E : XK), Room k (A.deeper (envOfC qual (C8.fnScope st) s.heap.objs.size f cdv)) → sp vs H Q E →
      ∃ t, PSs (cxOf (L2N.CX P w) P w K mg base N qual (C8.fnScope st) f cdv A outer s H E) (C8.fnBody st) t ∧ t { nx := fun _ H' => Q .non H', rt := Q } (start N vs) H) : FnOk P w K mg base (L2N.CX P w) (k + 1) f fd ps sp := by
  obtain ⟨oc, od, dV, kV, doc, pm, an, cdv, ct, osl, rfl, lk, hcd⟩ := F.ex
  exact fn_of lk hcd S len fun A outer s H vs Q E hr hsp => hbody cdv A outer s H vs Q E hr hsp
theorem calX {x : Str} {st : Stmt} {f : Addr} {fd : FuncData} {N ps : List Str} {k : Nat} {sp : Sp} (D : C8.Def K mg x st f fd) (b : Binds K fd ps []) (S : FnScope N ps (C8.fnScope st)) (len : ∀ vs H Q E, sp vs H Q E → vs.length = ps.length)
    (hbody : ∀ (cdv : Value) (A : Around) (outer : List Env) (s : Shared) (H : Hp) (vs : List V) (Q : VK) (E : XK), Room k (A.deeper (envOfC x (C8.fnScope st) s.heap.objs.size f cdv)) → sp vs H Q E →
      ∃ t, PSs (cxOf (L2N.CX P w) P w K mg base N x (C8.fnScope st) f cdv A outer s H E) (C8.fnBody st) t ∧ t { nx := fun _ H' => Q .non H', rt := Q } (start N vs) H) : CalX P w K mg base (k + 1) x sp :=
  ⟨f, fd, ps, fnX D.fn S len hbody, D.mgf, D.kp, b⟩
theorem CalX.mono {x : Str} {k j : Nat} {sp : Sp} (c : CalX P w K mg base k x sp) (h : k ≤ j) : CalX P w K mg base j x sp := by
  obtain ⟨f, fd, ps, F, m, kp, b⟩ := c.ex
  exact ⟨f, fd, ps, ⟨F.len, fun A outer s H args us vs Q E hr => F.run A outer s H args us vs Q E (hr.mono h)⟩, m, kp, b⟩
/-- a weaker promise -/
theorem CalX.imp {x : Str} {k : Nat} {sp sp' : Sp} (c : CalX P w K mg base k x sp) (h : ∀ vs H Q E, sp' vs H Q E → sp vs H Q E) : CalX P w K mg base k x sp' := by
  obtain ⟨f, fd, ps, F, m, kp, b⟩ := c.ex
  exact ⟨f, fd, ps, ⟨fun vs H Q E q => F.len vs H Q E (h _ _ _ _ q), fun A outer s H args us vs Q E hr e bb v q => F.run A outer s H args us vs Q E hr e bb v (h _ _ _ _ q)⟩, m, kp, b⟩
end
section
variable {X : Cx} {k j : Nat} {C : Addr} {x m : Str} {sp : Sp} {W : WX} {p pos apos : Pos} {e o : Expr} {es : List Expr} {ta : TE} {t : TA}
/-- f(e, ..) -/
theorem pe_x (c : CalX X.prog X.w X.K X.mg X.base k x sp) (hr : Room j X.A) (hk : k ≤ j) (tk : L2N.Takes X W) (hg : Gl X x) (ha : PA X (e :: es) t)
    (hdb : (x == ("__debug__" : Str)) = false := by decide) (he : starEach (e :: es) X.env = (false, eval e X.env) :: starEach es X.env := by rfl) (hpl : (backTo pos (starEach es X.env)).any (·.1) = false := by rfl) :
    PE X (.Call (.Name x p) (e :: es) [] pos) (tCallS sp (WE W) t) := by
  obtain ⟨f, fd, ps, F, hm, kp, b⟩ := c.ex
  exact pe_callS F (hr.mono hk) hg hm kp b (L2N.passAt tk) ha hdb he hpl
end
section
variable {X : Cx} {x : Str} {pos : Pos}
/-- a built-in type's name; a class's name -/
theorem pe_ty {T : String} (hg : Gl X x) (hm : X.mg x = none) (hv : bootBuiltins x = some (.type T)) (hn : x ≠ "__name__" := by decide) (hd : (x == ("__debug__" : Str)) = false := by decide) : PE X (.Name x pos) (tC (.ty T)) := pe_bltn hg hm hv rfl hn hd
theorem pe_ref {C : Addr} (hg : Gl X x) (hm : X.mg x = some (.ref C)) (hd : (x == ("__debug__" : Str)) = false := by decide) : PE X (.Name x pos) (tC (.ref C)) := pe_glob hg hm rfl hd
theorem pe_ci {i : Int} (hg : Gl X x) (hm : ∃ t, X.mg x = some (.int i t)) (hd : (x == ("__debug__" : Str)) = false := by decide) : PE X (.Name x pos) (tC (.int i)) := by
  obtain ⟨t, hm⟩ := hm
  exact pe_glob hg hm ⟨t, rfl⟩ hd
theorem pe_cs {z : Str} (hg : Gl X x) (hm : ∃ t, X.mg x = some (.str z t)) (hd : (x == ("__debug__" : Str)) = false := by decide) : PE X (.Name x pos) (tC (.str z)) := by
  obtain ⟨t, hm⟩ := hm
  exact pe_glob hg hm ⟨t, rfl⟩ hd
end
/-- a def's wish -/
theorem tk_of {X : Cx} {E : XK} {E₁ : Value → Shared → Prop} (hs : X.stack = X.env :: X.outer) (hf : X.env.frame = some X.env.locals) (hex : X.ex = [])
    (hx : X.xe = fun e s' => wpAny (model X.prog X.w) X.A (leaving X.env e) (fun _ s'' => L2N.CX X.prog X.w X.outer X.H_0 X.s_0 E e s'') E₁ s') : L2N.Takes X (fun cls d _ H => E cls d H) := L2N.takes_of hs hf hex hx
theorem tk0 {X : Cx} : L2N.Takes X (fun _ _ _ _ => False) := fun _ _ x => by
  obtain ⟨_, _, _, _, _, _, _, _, _, _, _, _, _, _, _, _, z⟩ := x
  exact z.elim
end FP
set_option maxHeartbeats 4000000
namespace FP
open PySem PySem.Spec PyProof.Rows L2
def topS (i : Nat) : Stmt := PySem.Challenge.pw_fieldpapers_k76_whole_books_as_texts.main.body.getD i (.Pass ⟨0, 0, 0, 0⟩)
def inClass (st : Stmt) (j : Nat) : Stmt := (C8.clsBody st).getD j (.Pass ⟨0, 0, 0, 0⟩)
abbrev s_wall : Stmt := topS 1
theorem sc_wall : FnScope ["k"] ["k"] (C8.fnScope s_wall) := C8.fnScope_by (by decide +kernel)
abbrev s_BadNumber___init__ : Stmt := inClass (topS 4) 0
theorem sc_BadNumber___init__ : FnScope ["self", "what", "number"] ["self", "what", "number"] (C8.fnScope s_BadNumber___init__) := C8.fnScope_by (by decide +kernel)
abbrev s_BadRow___init__ : Stmt := inClass (topS 5) 0
theorem sc_BadRow___init__ : FnScope ["self", "what", "row"] ["self", "what", "row"] (C8.fnScope s_BadRow___init__) := C8.fnScope_by (by decide +kernel)
abbrev s_BadTable___init__ : Stmt := inClass (topS 6) 0
theorem sc_BadTable___init__ : FnScope ["self", "what"] ["self", "what"] (C8.fnScope s_BadTable___init__) := C8.fnScope_by (by decide +kernel)
abbrev s_BadPoly___init__ : Stmt := inClass (topS 7) 0
theorem sc_BadPoly___init__ : FnScope ["self", "what"] ["self", "what"] (C8.fnScope s_BadPoly___init__) := C8.fnScope_by (by decide +kernel)
abbrev s_BadPaper___init__ : Stmt := inClass (topS 8) 0
theorem sc_BadPaper___init__ : FnScope ["self", "what"] ["self", "what"] (C8.fnScope s_BadPaper___init__) := C8.fnScope_by (by decide +kernel)
abbrev s_BadName___init__ : Stmt := inClass (topS 9) 0
theorem sc_BadName___init__ : FnScope ["self", "name"] ["self", "name"] (C8.fnScope s_BadName___init__) := C8.fnScope_by (by decide +kernel)
abbrev s_BadText___init__ : Stmt := inClass (topS 10) 0
theorem sc_BadText___init__ : FnScope ["self", "line", "word"] ["self", "line", "word"] (C8.fnScope s_BadText___init__) := C8.fnScope_by (by decide +kernel)
abbrev s_NoPlace___init__ : Stmt := inClass (topS 11) 0
theorem sc_NoPlace___init__ : FnScope ["self", "what", "index"] ["self", "what", "index"] (C8.fnScope s_NoPlace___init__) := C8.fnScope_by (by decide +kernel)
abbrev s_NoName___init__ : Stmt := inClass (topS 12) 0
theorem sc_NoName___init__ : FnScope ["self", "name"] ["self", "name"] (C8.fnScope s_NoName___init__) := C8.fnScope_by (by decide +kernel)
abbrev s_TakenName___init__ : Stmt := inClass (topS 13) 0
theorem sc_TakenName___init__ : FnScope ["self", "name"] ["self", "name"] (C8.fnScope s_TakenName___init__) := C8.fnScope_by (by decide +kernel)
abbrev s_Unlike___init__ : Stmt := inClass (topS 14) 0
theorem sc_Unlike___init__ : FnScope ["self", "what"] ["self", "what"] (C8.fnScope s_Unlike___init__) := C8.fnScope_by (by decide +kernel)
abbrev s_NotThere___init__ : Stmt := inClass (topS 15) 0
theorem sc_NotThere___init__ : FnScope ["self", "paper"] ["self", "paper"] (C8.fnScope s_NotThere___init__) := C8.fnScope_by (by decide +kernel)
abbrev s_TooMany___init__ : Stmt := inClass (topS 16) 0
theorem sc_TooMany___init__ : FnScope ["self", "what", "many", "limit"] ["self", "what", "many", "limit"] (C8.fnScope s_TooMany___init__) := C8.fnScope_by (by decide +kernel)
abbrev s_NotKept___init__ : Stmt := inClass (topS 17) 0
theorem sc_NotKept___init__ : FnScope ["self", "promise", "witness"] ["self", "promise", "witness"] (C8.fnScope s_NotKept___init__) := C8.fnScope_by (by decide +kernel)
abbrev s_is_integer : Stmt := topS 21
theorem sc_is_integer : FnScope ["value"] ["value"] (C8.fnScope s_is_integer) := C8.fnScope_by (by decide +kernel)
abbrev s_is_ratio : Stmt := topS 22
theorem sc_is_ratio : FnScope ["value"] ["value"] (C8.fnScope s_is_ratio) := C8.fnScope_by (by decide +kernel)
abbrev s_pair : Stmt := topS 23
theorem sc_pair : FnScope ["number"] ["number"] (C8.fnScope s_pair) := C8.fnScope_by (by decide +kernel)
abbrev s_in_lowest : Stmt := topS 24
theorem sc_in_lowest : FnScope ["top", "bottom", "by"] ["top", "bottom"] (C8.fnScope s_in_lowest) := C8.fnScope_by (by decide +kernel)
abbrev s_added : Stmt := topS 25
theorem sc_added : FnScope ["one", "other", "top", "bottom", "high", "low"] ["one", "other"] (C8.fnScope s_added) := C8.fnScope_by (by decide +kernel)
abbrev s_opposite : Stmt := topS 26
theorem sc_opposite : FnScope ["number"] ["number"] (C8.fnScope s_opposite) := C8.fnScope_by (by decide +kernel)
abbrev s_multiplied : Stmt := topS 27
theorem sc_multiplied : FnScope ["one", "other", "top", "bottom", "high", "low"] ["one", "other"] (C8.fnScope s_multiplied) := C8.fnScope_by (by decide +kernel)
abbrev s_divided : Stmt := topS 28
theorem sc_divided : FnScope ["one", "other", "top", "bottom", "high", "low"] ["one", "other"] (C8.fnScope s_divided) := C8.fnScope_by (by decide +kernel)
abbrev s_sign_of : Stmt := topS 29
theorem sc_sign_of : FnScope ["number", "top"] ["number"] (C8.fnScope s_sign_of) := C8.fnScope_by (by decide +kernel)
abbrev s_as_tuples : Stmt := topS 31
theorem sc_as_tuples : FnScope ["value", "one"] ["value"] (C8.fnScope s_as_tuples) := C8.fnScope_by (by decide +kernel)
abbrev s_is_list : Stmt := topS 32
theorem sc_is_list : FnScope ["value"] ["value"] (C8.fnScope s_is_list) := C8.fnScope_by (by decide +kernel)
abbrev s_run_of : Stmt := topS 39
theorem sc_run_of : FnScope ["text", "at", "some"] ["text", "at", "some"] (C8.fnScope s_run_of) := C8.fnScope_by (by decide +kernel)
abbrev s_tokens_of : Stmt := topS 40
theorem sc_tokens_of : FnScope ["text", "found", "at", "end"] ["text"] (C8.fnScope s_tokens_of) := C8.fnScope_by (by decide +kernel)
abbrev s_is_numeral : Stmt := topS 41
theorem sc_is_numeral : FnScope ["token", "sign"] ["token"] (C8.fnScope s_is_numeral) := C8.fnScope_by (by decide +kernel)
abbrev s_trimmed_row : Stmt := topS 42
theorem sc_trimmed_row : FnScope ["row", "many"] ["row"] (C8.fnScope s_trimmed_row) := C8.fnScope_by (by decide +kernel)
abbrev s_row_sum : Stmt := topS 43
theorem sc_row_sum : FnScope ["one", "other", "many", "first", "second", "a", "b"] ["one", "other"] (C8.fnScope s_row_sum) := C8.fnScope_by (by decide +kernel)
abbrev s_row_scaled : Stmt := topS 44
theorem sc_row_scaled : FnScope ["row", "by", "one"] ["row", "by"] (C8.fnScope s_row_scaled) := C8.fnScope_by (by decide +kernel)
abbrev s_row_product : Stmt := topS 45
theorem sc_row_product : FnScope ["one", "other", "found", "i", "a", "k", "b"] ["one", "other"] (C8.fnScope s_row_product) := C8.fnScope_by (by decide +kernel)
abbrev s_is_small : Stmt := topS 46
theorem sc_is_small : FnScope ["one", "top", "bottom", "most"] ["one"] (C8.fnScope s_is_small) := C8.fnScope_by (by decide +kernel)
abbrev s_Reader___init__ : Stmt := inClass (topS 47) 0
theorem sc_Reader___init__ : FnScope ["self", "tokens", "line"] ["self", "tokens", "line"] (C8.fnScope s_Reader___init__) := C8.fnScope_by (by decide +kernel)
abbrev s_Reader_wrong : Stmt := inClass (topS 47) 1
theorem sc_Reader_wrong : FnScope ["self"] ["self"] (C8.fnScope s_Reader_wrong) := C8.fnScope_by (by decide +kernel)
abbrev s_Reader_next_is : Stmt := inClass (topS 47) 2
theorem sc_Reader_next_is : FnScope ["self", "token"] ["self", "token"] (C8.fnScope s_Reader_next_is) := C8.fnScope_by (by decide +kernel)
abbrev s_Reader_need : Stmt := inClass (topS 47) 3
theorem sc_Reader_need : FnScope ["self", "token"] ["self", "token"] (C8.fnScope s_Reader_need) := C8.fnScope_by (by decide +kernel)
abbrev s_Reader_numeral : Stmt := inClass (topS 47) 4
theorem sc_Reader_numeral : FnScope ["self"] ["self"] (C8.fnScope s_Reader_numeral) := C8.fnScope_by (by decide +kernel)
abbrev s_Reader_integer : Stmt := inClass (topS 47) 5
theorem sc_Reader_integer : FnScope ["self", "below", "found"] ["self"] (C8.fnScope s_Reader_integer) := C8.fnScope_by (by decide +kernel)
abbrev s_Reader_end : Stmt := inClass (topS 47) 6
theorem sc_Reader_end : FnScope ["self"] ["self"] (C8.fnScope s_Reader_end) := C8.fnScope_by (by decide +kernel)
abbrev s_Reader_kept : Stmt := inClass (topS 47) 7
theorem sc_Reader_kept : FnScope ["self", "row", "one"] ["self", "row"] (C8.fnScope s_Reader_kept) := C8.fnScope_by (by decide +kernel)
abbrev s_Reader_noted : Stmt := inClass (topS 47) 8
theorem sc_Reader_noted : FnScope ["self", "what", "many", "most"] ["self", "what", "many", "most"] (C8.fnScope s_Reader_noted) := C8.fnScope_by (by decide +kernel)
abbrev s_Reader_atom : Stmt := inClass (topS 47) 9
theorem sc_Reader_atom : FnScope ["self", "found"] ["self"] (C8.fnScope s_Reader_atom) := C8.fnScope_by (by decide +kernel)
abbrev s_Reader_power : Stmt := inClass (topS 47) 10
theorem sc_Reader_power : FnScope ["self", "row", "start", "times", "found", "lap"] ["self"] (C8.fnScope s_Reader_power) := C8.fnScope_by (by decide +kernel)
abbrev s_Reader_product : Stmt := inClass (topS 47) 11
theorem sc_Reader_product : FnScope ["self", "row", "start", "by"] ["self"] (C8.fnScope s_Reader_product) := C8.fnScope_by (by decide +kernel)
abbrev s_Reader_whole_sum : Stmt := inClass (topS 47) 12
theorem sc_Reader_whole_sum : FnScope ["self", "below", "row"] ["self"] (C8.fnScope s_Reader_whole_sum) := C8.fnScope_by (by decide +kernel)
abbrev s_Reader_listed : Stmt := inClass (topS 47) 13
theorem sc_Reader_listed : FnScope ["self"] ["self"] (C8.fnScope s_Reader_listed) := C8.fnScope_by (by decide +kernel)
abbrev s_size_text : Stmt := topS 48
theorem sc_size_text : FnScope ["number", "top", "bottom"] ["number"] (C8.fnScope s_size_text) := C8.fnScope_by (by decide +kernel)
abbrev s_is_plain : Stmt := topS 49
theorem sc_is_plain : FnScope ["value", "deep", "one"] ["value", "deep"] (C8.fnScope s_is_plain) := C8.fnScope_by (by decide +kernel)
abbrev s_text_of_value : Stmt := topS 50
theorem sc_text_of_value : FnScope ["value", "one"] ["value"] (C8.fnScope s_text_of_value) := C8.fnScope_by (by decide +kernel)
abbrev s_value_text : Stmt := topS 51
theorem sc_value_text : FnScope ["value"] ["value"] (C8.fnScope s_value_text) := C8.fnScope_by (by decide +kernel)
abbrev s_ratio_by : Stmt := topS 52
theorem sc_ratio_by : FnScope ["reader", "below", "start", "top", "found"] ["reader"] (C8.fnScope s_ratio_by) := C8.fnScope_by (by decide +kernel)
abbrev s_value_by : Stmt := topS 53
theorem sc_value_by : FnScope ["reader", "found"] ["reader"] (C8.fnScope s_value_by) := C8.fnScope_by (by decide +kernel)
abbrev s_value_in : Stmt := topS 54
theorem sc_value_in : FnScope ["tokens", "at", "line", "reader", "found"] ["tokens", "at", "line"] (C8.fnScope s_value_in) := C8.fnScope_by (by decide +kernel)
abbrev s_Book___init__ : Stmt := inClass (topS 57) 0
theorem sc_Book___init__ : FnScope ["self", "polynomial", "paper", "stretches", "base", "greatest", "bound", "above", "gens", "orders", "goals", "rows", "torsion", "units", "limit", "signs"] ["self", "polynomial", "paper", "stretches", "base", "greatest", "bound", "above", "gens", "orders", "goals", "rows", "torsion", "units", "limit", "signs"] (C8.fnScope s_Book___init__) := C8.fnScope_by (by decide +kernel)
abbrev s_Book___eq__ : Stmt := inClass (topS 57) 1
theorem sc_Book___eq__ : FnScope ["self", "other"] ["self", "other"] (C8.fnScope s_Book___eq__) := C8.fnScope_by (by decide +kernel)
abbrev s_values_of : Stmt := topS 58
theorem sc_values_of : FnScope ["book", "first"] ["book"] (C8.fnScope s_values_of) := C8.fnScope_by (by decide +kernel)
abbrev s_book_by : Stmt := topS 59
theorem sc_book_by : FnScope ["values", "a", "b", "c", "d", "e", "f", "g", "h", "i", "j", "k", "l", "m", "n", "o"] ["values"] (C8.fnScope s_book_by) := C8.fnScope_by (by decide +kernel)
abbrev s_is_book : Stmt := topS 60
theorem sc_is_book : FnScope ["value", "one"] ["value"] (C8.fnScope s_is_book) := C8.fnScope_by (by decide +kernel)
abbrev s_need_book : Stmt := topS 61
theorem sc_need_book : FnScope ["book"] ["book"] (C8.fnScope s_need_book) := C8.fnScope_by (by decide +kernel)
abbrev s_book_text : Stmt := topS 62
theorem sc_book_text : FnScope ["book", "name", "value"] ["book"] (C8.fnScope s_book_text) := C8.fnScope_by (by decide +kernel)
abbrev s_value_of_line : Stmt := topS 63
theorem sc_value_of_line : FnScope ["line", "name", "number", "tokens"] ["line", "name", "number"] (C8.fnScope s_value_of_line) := C8.fnScope_by (by decide +kernel)
abbrev s_book_of_text : Stmt := topS 64
theorem sc_book_of_text : FnScope ["text", "lines", "values", "at", "name"] ["text"] (C8.fnScope s_book_of_text) := C8.fnScope_by (by decide +kernel)
abbrev s_product_of_orders : Stmt := topS 65
theorem sc_product_of_orders : FnScope ["book", "found", "order"] ["book"] (C8.fnScope s_product_of_orders) := C8.fnScope_by (by decide +kernel)
abbrev s_class_number : Stmt := topS 66
theorem sc_class_number : FnScope ["book", "one"] ["book"] (C8.fnScope s_class_number) := C8.fnScope_by (by decide +kernel)
abbrev s_places_of : Stmt := topS 67
theorem sc_places_of : FnScope ["book", "real"] ["book"] (C8.fnScope s_places_of) := C8.fnScope_by (by decide +kernel)
abbrev s_law_pen : Stmt := topS 69
theorem sc_law_pen : FnScope ["script", "fold", "cell"] ["script"] (C8.fnScope s_law_pen) := C8.fnScope_by (by decide +kernel)
abbrev s_law_draw : Stmt := topS 70
theorem sc_law_draw : FnScope ["pen", "many", "cell", "digit", "blend"] ["pen", "many"] (C8.fnScope s_law_draw) := C8.fnScope_by (by decide +kernel)
abbrev s_law_pick : Stmt := topS 71
theorem sc_law_pick : FnScope ["pen", "some"] ["pen", "some"] (C8.fnScope s_law_pick) := C8.fnScope_by (by decide +kernel)
abbrev s_law_is : Stmt := topS 72
theorem sc_law_is : FnScope ["told", "due", "at"] ["told", "due"] (C8.fnScope s_law_is) := C8.fnScope_by (by decide +kernel)
abbrev s_law_divisor : Stmt := topS 73
theorem sc_law_divisor : FnScope ["one", "other"] ["one", "other"] (C8.fnScope s_law_divisor) := C8.fnScope_by (by decide +kernel)
abbrev s_law_low : Stmt := topS 74
theorem sc_law_low : FnScope ["top", "bottom", "by"] ["top", "bottom"] (C8.fnScope s_law_low) := C8.fnScope_by (by decide +kernel)
abbrev s_law_is_ratio : Stmt := topS 75
theorem sc_law_is_ratio : FnScope ["value"] ["value"] (C8.fnScope s_law_is_ratio) := C8.fnScope_by (by decide +kernel)
abbrev s_law_is_whole : Stmt := topS 76
theorem sc_law_is_whole : FnScope ["value"] ["value"] (C8.fnScope s_law_is_whole) := C8.fnScope_by (by decide +kernel)
abbrev s_law_number : Stmt := topS 77
theorem sc_law_number : FnScope ["pen", "size"] ["pen", "size"] (C8.fnScope s_law_number) := C8.fnScope_by (by decide +kernel)
abbrev s_law_wide : Stmt := topS 78
theorem sc_law_wide : FnScope ["pen", "figures", "found", "top", "lap"] ["pen", "figures"] (C8.fnScope s_law_wide) := C8.fnScope_by (by decide +kernel)
abbrev s_law_fault : Stmt := topS 79
theorem sc_law_fault : FnScope ["call", "found", "e"] ["call"] (C8.fnScope s_law_fault) := C8.fnScope_by (by decide +kernel)
abbrev s_law_kinds : Stmt := topS 80
theorem sc_law_kinds : FnScope ["e", "found"] ["e"] (C8.fnScope s_law_kinds) := C8.fnScope_by (by decide +kernel)
abbrev s_law_more_kinds : Stmt := topS 81
theorem sc_law_more_kinds : FnScope ["e", "found"] ["e"] (C8.fnScope s_law_more_kinds) := C8.fnScope_by (by decide +kernel)
abbrev s_law_book_values : Stmt := topS 82
theorem sc_law_book_values : FnScope ["book", "first"] ["book"] (C8.fnScope s_law_book_values) := C8.fnScope_by (by decide +kernel)
abbrev s_law_names : Stmt := topS 83
theorem sc_law_names : FnScope [] [] (C8.fnScope s_law_names) := C8.fnScope_by (by decide +kernel)
abbrev s_law_drawn_value : Stmt := topS 84
theorem sc_law_drawn_value : FnScope ["pen", "deep", "way", "lap"] ["pen", "deep"] (C8.fnScope s_law_drawn_value) := C8.fnScope_by (by decide +kernel)
abbrev s_law_made : Stmt := topS 85
theorem sc_law_made : FnScope ["values", "a", "b", "c", "d", "e", "f", "g", "h", "i", "j", "k", "m", "n", "o", "p"] ["values"] (C8.fnScope s_law_made) := C8.fnScope_by (by decide +kernel)
abbrev s_law_right : Stmt := topS 86
theorem sc_law_right : FnScope ["pen", "values", "lap", "book", "lines", "name", "value", "text", "one", "at", "many", "told", "bent", "due"] ["pen"] (C8.fnScope s_law_right) := C8.fnScope_by (by decide +kernel)
abbrev s_law_place : Stmt := topS 87
theorem sc_law_place : FnScope ["line", "words", "tokens", "at", "sign", "fresh"] ["line"] (C8.fnScope s_law_place) := C8.fnScope_by (by decide +kernel)
abbrev s_law_read_fault : Stmt := topS 88
theorem sc_law_read_fault : FnScope ["text"] ["text"] (C8.fnScope s_law_read_fault) := C8.fnScope_by (by decide +kernel)
abbrev s_law_numbers_right : Stmt := topS 89
theorem sc_law_numbers_right : FnScope ["pen", "values", "lap", "orders", "real", "degree", "count", "one"] ["pen"] (C8.fnScope s_law_numbers_right) := C8.fnScope_by (by decide +kernel)
abbrev s_law_count_fault : Stmt := topS 90
theorem sc_law_count_fault : FnScope ["book"] ["book"] (C8.fnScope s_law_count_fault) := C8.fnScope_by (by decide +kernel)
abbrev s_law : Stmt := topS 91
theorem sc_law : FnScope ["script", "pen", "lap", "bad", "odd", "told"] ["script"] (C8.fnScope s_law) := C8.fnScope_by (by decide +kernel)
end FP
set_option maxHeartbeats 4000000
/-! the head's facts -/
namespace FP
open PySem PySem.Spec PyProof.Rows L2 LamX
def dG (x : Str) (st : Stmt) : He.DefD := ⟨(x, none), x, x, C8.fnArgs st, C8.fnBody st, C8.fnScope st, [], []⟩
def dM (c m q : Str) (st : Stmt) : He.DefD := ⟨(c, some m), m, q, C8.fnArgs st, C8.fnBody st, C8.fnScope st, [], []⟩
def dPl : He.DefD := ⟨("is_plain", none), "is_plain", "is_plain", C8.fnArgs s_is_plain, C8.fnBody s_is_plain, C8.fnScope s_is_plain, [.int 0], []⟩
def fns : List He.DefD := [dG "is_integer" s_is_integer,
  dG "is_ratio" s_is_ratio,
  dG "pair" s_pair,
  dG "opposite" s_opposite,
  dG "sign_of" s_sign_of,
  dG "as_tuples" s_as_tuples,
  dG "is_list" s_is_list,
  dG "run_of" s_run_of,
  dG "tokens_of" s_tokens_of,
  dG "is_numeral" s_is_numeral,
  dG "is_small" s_is_small,
  dG "size_text" s_size_text,
  dPl,
  dG "text_of_value" s_text_of_value,
  dG "value_text" s_value_text,
  dG "ratio_by" s_ratio_by,
  dG "value_by" s_value_by,
  dG "value_in" s_value_in,
  dG "values_of" s_values_of,
  dG "book_by" s_book_by,
  dG "is_book" s_is_book,
  dG "need_book" s_need_book,
  dG "book_text" s_book_text,
  dG "value_of_line" s_value_of_line,
  dG "book_of_text" s_book_of_text,
  dG "product_of_orders" s_product_of_orders,
  dG "class_number" s_class_number,
  dG "places_of" s_places_of,
  dG "_law_pen" s_law_pen,
  dG "_law_draw" s_law_draw,
  dG "_law_pick" s_law_pick,
  dG "_law_is" s_law_is,
  dG "_law_divisor" s_law_divisor,
  dG "_law_low" s_law_low,
  dG "_law_is_ratio" s_law_is_ratio,
  dG "_law_is_whole" s_law_is_whole,
  dG "_law_number" s_law_number,
  dG "_law_wide" s_law_wide,
  dG "_law_fault" s_law_fault,
  dG "_law_kinds" s_law_kinds,
  dG "_law_more_kinds" s_law_more_kinds,
  dG "_law_book_values" s_law_book_values,
  dG "_law_names" s_law_names,
  dG "_law_drawn_value" s_law_drawn_value,
  dG "_law_made" s_law_made,
  dG "_law_right" s_law_right,
  dG "_law_place" s_law_place,
  dG "_law_read_fault" s_law_read_fault,
  dG "_law_numbers_right" s_law_numbers_right,
  dG "_law_count_fault" s_law_count_fault,
  dG "law" s_law,
  dM "Reader" "__init__" "Reader.__init__" s_Reader___init__,
  dM "Reader" "wrong" "Reader.wrong" s_Reader_wrong,
  dM "Reader" "next_is" "Reader.next_is" s_Reader_next_is,
  dM "Reader" "need" "Reader.need" s_Reader_need,
  dM "Reader" "numeral" "Reader.numeral" s_Reader_numeral,
  dM "Reader" "end" "Reader.end" s_Reader_end,
  dM "Book" "__init__" "Book.__init__" s_Book___init__,
  dM "Book" "__eq__" "Book.__eq__" s_Book___eq__,
  dM "BadRow" "__init__" "BadRow.__init__" s_BadRow___init__,
  dM "BadText" "__init__" "BadText.__init__" s_BadText___init__,
  dM "BadPaper" "__init__" "BadPaper.__init__" s_BadPaper___init__]
def facts : List He.Fa := [.glo "is_integer", .glo "is_ratio", .glo "pair", .glo "opposite", .glo "sign_of", .glo "as_tuples", .glo "is_list", .glo "run_of", .glo "tokens_of", .glo "is_numeral", .glo "is_small", .glo "size_text", .glo "is_plain", .glo "text_of_value", .glo "value_text", .glo "ratio_by", .glo "value_by", .glo "value_in", .glo "values_of", .glo "book_by", .glo "is_book", .glo "need_book", .glo "book_text", .glo "value_of_line", .glo "book_of_text", .glo "product_of_orders", .glo "class_number", .glo "places_of", .glo "_law_pen", .glo "_law_draw", .glo "_law_pick", .glo "_law_is", .glo "_law_divisor", .glo "_law_low", .glo "_law_is_ratio", .glo "_law_is_whole", .glo "_law_number", .glo "_law_wide", .glo "_law_fault", .glo "_law_kinds", .glo "_law_more_kinds", .glo "_law_book_values", .glo "_law_names", .glo "_law_drawn_value", .glo "_law_made", .glo "_law_right", .glo "_law_place", .glo "_law_read_fault", .glo "_law_numbers_right", .glo "_law_count_fault", .glo "law", .glo "FieldError", .glo "BadNumber", .glo "BadRow", .glo "BadTable", .glo "BadPoly", .glo "BadPaper", .glo "BadName", .glo "BadText", .glo "NoPlace", .glo "NoName", .glo "TakenName", .glo "Unlike", .glo "NotThere", .glo "TooMany", .glo "NotKept", .glo "NothingToUndo", .glo "NothingToRedo", .glo "Reader", .glo "Book", .glo "NAMES", .free "len", .free "isinstance", .free "int", .free "str", .free "bool", .free "list", .free "tuple", .free "abs", .free "all", .free "range", .free "enumerate", .free "repr", .free "zip", .free "ValueError", .int "MOST_FIGURES" 400, .int "MOST_DEEP" 50, .str "FIGURES" "0123456789", .str "LETTERS" "abcdefghijklmnopqrstuvwxyz", .cls "Reader", .cls "Book", .noat "Reader" "tokens", .noat "Reader" "line", .noat "Reader" "at", .noat "Reader" "limit", .noat "Reader" "deep", .meth "Reader" "wrong", .meth "Reader" "next_is", .meth "Reader" "need", .meth "Reader" "numeral", .meth "Reader" "end", .mkr "Reader", .noat "BadText" "line", .noat "BadText" "word", .noat "BadRow" "what", .noat "BadRow" "row", .exm "BadText" "FieldError" true, .exm "BadPaper" "FieldError" true, .noat "BadPaper" "what", .mkr "Book", .meth "Book" "__eq__"]
def lams : List He.Defn := [("_law_read_fault", none), ("_law_count_fault", none), ("law", none)]
/-- what an own error's class must be, looked at -/
def oexB (K : PySem.W.Frag) (C : Addr) : Bool := (match K.lookup C with
  | some ⟨.type z, _, .cls cd, sl⟩ => (match cd.mro, sl.toList with
    | .ref C' :: bm, [_, _, _, _, some (.builtin n), _] => decide (z = "type") && (decide (C' = C) && (decide (n = "ValueError.__new__") && (!cd.hasDel && (cd.hasDict && PySem.HandSPX.refsVE bm))))
    | _, _ => false)
  | _ => false) && (He.eqO (PySem.W.findIn K (.ref C) "__setattr__") (some (some (.builtin "object.__setattr__"))) && (decide (PySem.W.subIn K (.ref C) (.type "BaseException") = some true) && (decide (PySem.W.typeIn K (.ref C) = some (.type "type")) && PySem.W.keepIn K (.ref C))))
def exmB (K : PySem.W.Frag) (D : Addr) : Bool := He.eqO (PySem.W.findIn K (.ref D) "__getattribute__") (some (some (.builtin "BaseException.__getattribute__"))) && (He.eqO (PySem.W.findIn K (.ref D) "__getattr__") (some none) && (decide (PySem.W.subIn K (.ref D) (.type "BaseException") = some true) && (PySem.W.hasDictIn K D &&
  (He.eqO (PySem.W.findIn K (.ref D) "__class__") (some (some (.builtin "object.__class__"))) && (He.eqO (PySem.W.specialIn K (.builtin "object.__class__") "__get__") (some (some (.builtin "getset_descriptor.__get__"))) && (decide (PySem.W.takesIn K (.builtin "object.__class__") = some true) && decide (PySem.W.mroIn K D (.type "object") = some true)))))))
def kitL : List Str := ["BadNumber", "BadRow", "BadTable", "BadPoly", "BadPaper", "BadName", "BadText", "NoPlace", "NoName", "TakenName", "Unlike", "NotThere", "TooMany", "NotKept", "NothingToUndo", "NothingToRedo"]
/-- isinstance of an error of the class x by all classes of errors -/
def kitsB (K : PySem.W.Frag) (x : Str) : Bool := kitL.all fun y => decide (PySem.W.kitOne K (.ref (He.ga K x)) (.ref (He.ga K y)) = some (y == x))
def errB (K : PySem.W.Frag) (x : Str) : Bool := oexB K (He.ga K x) && (exmB K (He.ga K x) && (xfB K (He.ga K x) && (kitsB K x && (decide (PySem.W.kitOne K (.ref (He.ga K x)) (.type "ValueError") = some true) &&
  (He.eqO (PySem.W.findIn K (.ref (He.ga K x)) "__init__") (some (some (.ref (He.ma K (He.ga K x) "__init__")))) && decide (PySem.W.typeIn K (.ref (He.ma K (He.ga K x) "__init__")) = some (.type "function")))))))
/-- an own error that is only raised -/
def errS (K : PySem.W.Frag) (x : Str) : Bool := oexB K (He.ga K x) && (He.eqO (PySem.W.findIn K (.ref (He.ga K x)) "__init__") (some (some (.ref (He.ma K (He.ga K x) "__init__")))) && decide (PySem.W.typeIn K (.ref (He.ma K (He.ga K x) "__init__")) = some (.type "function")))
def nmH : List Str := ["polynomial", "paper", "stretches", "base", "greatest", "bound", "above", "gens", "orders", "goals", "rows", "torsion", "units", "limit", "signs"]
def kindH : List String := ["NoneType", "bool", "int", "str", "list", "tuple", "dict"]
/-- the books' class -/
def bookB (K : PySem.W.Frag) : Bool := (nmH.all fun x => He.eqO (PySem.W.findIn K (.ref (He.ga K "Book")) x) (some none)) && (He.eqO (PySem.W.findIn K (.ref (He.ga K "Book")) "__class__") (some (some (.builtin "object.__class__"))) && (He.eqO (PySem.W.specialIn K (.builtin "object.__class__") "__get__") (some (some (.builtin "getset_descriptor.__get__"))) && (decide (PySem.W.takesIn K (.builtin "object.__class__") = some true) && (decide (PySem.W.mroIn K (He.ga K "Book") (.type "object") = some true) &&
  ((kindH.all fun t => decide (PySem.W.kitOne K (.type t) (.ref (He.ga K "Book")) = some false)) && (decide (PySem.W.kitOne K (.ref (He.ga K "Book")) (.ref (He.ga K "Book")) = some true) && (He.eqO (PySem.W.findIn K (.ref (He.ga K "Book")) "__ne__") (some (some (.builtin "object.__ne__"))) && decide (PySem.W.subIn K (.type "list") (.ref (He.ga K "Book")) = some false))))))))
def moreB (K : PySem.W.Frag) : Bool := He.eqO (PySem.W.nsIn K mainGlobals "gcd") (some (some (.builtin "math.gcd"))) && (errB K "BadText" && (errB K "BadPaper" && (errS K "BadRow" && (bookB K && (He.tupB K "NAMES" (nmH.map .str) && decide (lams.map fun p => (He.cT K p).2).Nodup)))))
def nmL0 : List PySem.Str := [.ofString "_wall", .ofString "__name__", .ofString "FieldError", .ofString "BadNumber", .ofString "BadRow", .ofString "BadTable", .ofString "BadPoly", .ofString "BadPaper", .ofString "BadName", .ofString "BadText", .ofString "NoPlace", .ofString "NoName", .ofString "TakenName", .ofString "Unlike", .ofString "NotThere", .ofString "TooMany", .ofString "NotKept", .ofString "NothingToUndo", .ofString "NothingToRedo", .ofString "is_integer", .ofString "is_ratio", .ofString "pair", .ofString "in_lowest", .ofString "added", .ofString "opposite", .ofString "multiplied", .ofString "divided", .ofString "sign_of", .ofString "as_tuples", .ofString "is_list", .ofString "FIGURES", .ofString "LETTERS", .ofString "MOST_FIGURES", .ofString "MOST_DEGREE", .ofString "MOST_DEEP"]
def nmL1 : List PySem.Str := [.ofString "run_of", .ofString "tokens_of", .ofString "is_numeral", .ofString "trimmed_row", .ofString "row_sum", .ofString "row_scaled", .ofString "row_product", .ofString "is_small", .ofString "Reader", .ofString "size_text", .ofString "is_plain", .ofString "text_of_value", .ofString "value_text", .ofString "ratio_by", .ofString "value_by", .ofString "value_in", .ofString "NAMES", .ofString "Book", .ofString "values_of", .ofString "book_by", .ofString "is_book", .ofString "need_book", .ofString "book_text", .ofString "value_of_line", .ofString "book_of_text", .ofString "product_of_orders", .ofString "class_number", .ofString "places_of", .ofString "_law_pen", .ofString "_law_draw", .ofString "_law_pick", .ofString "_law_is", .ofString "_law_divisor", .ofString "_law_low", .ofString "_law_is_ratio"]
def nmL2 : List PySem.Str := [.ofString "_law_is_whole", .ofString "_law_number", .ofString "_law_wide", .ofString "_law_fault", .ofString "_law_kinds", .ofString "_law_more_kinds", .ofString "_law_book_values", .ofString "_law_names", .ofString "_law_drawn_value", .ofString "_law_made", .ofString "_law_right", .ofString "_law_place", .ofString "_law_read_fault", .ofString "_law_numbers_right", .ofString "_law_count_fault"]
def nmL : List PySem.Str := nmL0 ++ nmL1 ++ nmL2
abbrev RR : PySem.W.OpenRow := PySem.W.OpenLaw.row PySem.Challenge.rw_fieldpapers_k76_whole_books_as_texts
abbrev qV : Program := PySem.W.view RR.prog [0, 91]
/-- what an object leads to: a def's code and defaults, a class's names, the values in a dict of names -/
def leads (o : Obj) : List Addr := match o.data with
  | .func u => He.refV u.code ++ He.refV u.defaults
  | .cls u => [u.ns]
  | .dict u _ => u.toList.flatMap fun z => He.refV z.val
  | _ => []
def stepY (g : Addr → Option Obj) (l : List Addr) : List Addr := l.flatMap fun a => ((g a).map leads).getD []
/-- the module's names, what they lead to, three times over; each once -/
def asY (g : Addr → Option Obj) : List Addr := mainGlobals :: (stepY g [mainGlobals] ++ (stepY g (stepY g [mainGlobals]) ++ (stepY g (stepY g (stepY g [mainGlobals])) ++ stepY g (stepY g (stepY g (stepY g [mainGlobals]))))))
def frY (g : Addr → Option Obj) : PySem.W.Frag := He.frT g (asY g)
def obsY (g : Addr → Option Obj) : He.AlX := (He.obsT facts fns [] (frY g), moreB (frY g) && He.tabsB g lams (frY g))
theorem says_Y {w : World} {h : Heap} (e : obsY h.get? = He.valX fns [] w) : He.SaysX facts fns [] lams moreB w h (frY h.get?) := by
  have both : moreB (frY h.get?) = true ∧ He.tabsB h.get? lams (frY h.get?) = true := Bool.and_eq_true_iff.mp (congrArg Prod.snd e)
  have each := List.all_eq_true.mp both.2
  have tab : ∀ p ∈ lams, ∃ o, h.get? (He.cT (frY h.get?) p).2 = some o ∧ He.emptyTab o = true := fun p hp => by
    have t := (Bool.and_eq_true_iff.mp (each p hp)).2
    generalize h.get? (He.cT (frY h.get?) p).2 = u at t ⊢
    cases u with
    | none => exact absurd t Bool.false_ne_true
    | some o => exact ⟨o, rfl, t⟩
  refine ⟨congrArg Prod.fst e, both.1, fun p hp => (Bool.and_eq_true_iff.mp (each p hp)).1, fun p hp => ?_, fun p hp => ?_⟩
  · obtain ⟨o, q, z⟩ := tab p hp
    exact He.frT_none q z
  · obtain ⟨o, q, z⟩ := tab p hp
    rw [q, He.emptyTab_eq z]
def hkX : PySem.W.Hook where
  α := He.AlX
  obs := fun s => obsY s.heap.get?
  val := fun w => He.valX fns [] w
  says := fun w h => ∃ K : PySem.W.Frag, K.In h ∧ He.SaysX facts fns [] lams moreB w h K
  of := fun _ _ e => ⟨_, He.frT_in, says_Y e⟩
  keeps := fun _ _ _ ⟨K, hK, c⟩ k => ⟨K, PySem.W.Frag.In.keeps hK k, c.t, c.more, c.hd, c.out, fun p hp => k _ _ (c.empty p hp)⟩
def obX (s : PySem.W.SharedT) : He.AlX := obsY (HandSHeadRun.getT s)
theorem obX_eq (s : PySem.W.SharedT) : obX s = hkX.obs s.abs := by
  show obsY (HandSHeadRun.getT s) = obsY s.abs.heap.get?
  rw [show HandSHeadRun.getT s = s.abs.heap.get? from funext fun a => HandSHeadRun.getT_eq s a]
set_option maxHeartbeats 0 in
theorem runX (w : World) : HandSHeadRun.RunEqI RR qV hkX obX 20000 nmL w := by
  unfold HandSHeadRun.RunEqI
  kernel_rfl
end FP
set_option maxHeartbeats 4000000
namespace FP
open PySem PySem.Spec PyProof.Rows L2
local macro_rules | `(tactic| walk_at "rd") => `(tactic| dsimp only [tVar, tC, tCmp, tIsN, tNotN, tB, tAnd, tOr, tNot, tAndV, tOrV, tNotV, tIf, tNext, tSeq, tBreak, tCont, tDrop, tRet, tRetN, tIfS, tNever, tAsg, tPar, tAug, tOp, tUn, tTest, tChain, tFld, tNil, tCons, tTup, tLst, tCB, tPart, tNoPart, tSl, tBM, tCallS, WE, tDGet, tDIn, gName, gTup, gCons, gNil, gSub, sFld, sFldAug, rI, rI0, rU, rEq, rNe, rIx, rIxL, rIxT, rIxS, rAdd, rSub, t2I, tYes, cx_K, cx_w, cx_prog])
local macro_rules | `(tactic| walk_at "rs") => `(tactic| (try simp only [L2.start, List.map_cons, List.map_nil, List.length_cons, List.length_nil, List.cons_append, List.nil_append, Nat.reduceAdd, Nat.reduceSub, Nat.zero_add, List.replicate, List.getElem?_cons_zero, List.getElem?_cons_succ, Option.some.injEq, exists_eq_left', exists_eq_left, V.int.injEq, V.str.injEq, V.bl.injEq, V.ref.injEq, List.set_cons_zero, List.set_cons_succ, exists_and_left, List.cons.injEq, and_true, true_and, wipe, if_true, if_false, Bool.not_true, Bool.not_false, Bool.false_eq_true, decide_true, decide_false]))

/-- built-in names that no text rebinds -/
structure Zb (mg : Str → Option Value) : Prop where
  len : mg "len" = none
  isinstance : mg "isinstance" = none
  int : mg "int" = none
  str : mg "str" = none
  bool : mg "bool" = none
  list : mg "list" = none
  tuple : mg "tuple" = none
  abs : mg "abs" = none
  all : mg "all" = none
  range : mg "range" = none
  enumerate : mg "enumerate" = none
  repr : mg "repr" = none

/-! ### kinds of data -/
def tyOf : PyData → String
  | .none => "NoneType"
  | .bool _ => "bool"
  | .int _ => "int"
  | .str _ => "str"
  | .list _ => "list"
  | .tuple _ => "tuple"
  | .dict _ => "dict"
/-- a value and its built-in type -/
structure Kd (K : PySem.W.Frag) (H : Hp) (v : V) (t : String) : Prop where
  ty : TyX K H v (.type t)
  kn : t ∈ ["NoneType", "bool", "int", "str", "list", "tuple", "dict"]
theorem SqT.kd {K : PySem.W.Frag} {H : Hp} {a : Addr} {xs : List V} (h : SqT K H a xs) : Kd K H (.ref a) "tuple" := by
  refine ⟨?_, by decide⟩
  rcases h with (h | ⟨o, h⟩) | ⟨o, _, _, h, c, _⟩
  · exact .base (.tup h)
  · exact .fTuple h
  · exact .kTuple h c
theorem SqL.kd {K : PySem.W.Frag} {H : Hp} {a : Addr} {xs : List V} (h : SqL K H a xs) : Kd K H (.ref a) "list" := by
  refine ⟨?_, by decide⟩
  rcases h with (h | ⟨o, h⟩) | ⟨o, _, _, h, c, _⟩
  · exact .base (.lst h)
  · exact .base (.frz h)
  · exact .kList h c
theorem Dp.kd {K : PySem.W.Frag} {H : Hp} {v : V} {d : PyData} (h : Dp K H v d) : Kd K H v (tyOf d) := by
  cases h with
  | non => exact ⟨.base .non, by decide⟩
  | bl b => exact ⟨.base (.bl b), by simp [tyOf]⟩
  | int i => exact ⟨.base (.int i), by simp [tyOf]⟩
  | str x => exact ⟨.base (.str x), by simp [tyOf]⟩
  | lst s _ => exact SqL.kd s
  | tup s _ => exact SqT.kd s
theorem Kd.dct {K : PySem.W.Frag} {H : Hp} {a : Addr} {kvs : List (Key × V)} (h : H a = some (.dK kvs)) : Kd K H (.ref a) "dict" := ⟨.base (.dK h), by decide⟩
theorem kit_int {K : PySem.W.Frag} {t : String} (h : t ∈ ["NoneType", "bool", "int", "str", "list", "tuple", "dict"]) : PySem.W.kitOne K (.type t) (.type "int") = some (t == "int" || t == "bool") := by
  simp only [List.mem_cons, List.not_mem_nil, or_false] at h
  rcases h with rfl | rfl | rfl | rfl | rfl | rfl | rfl <;> exact kit_ty (by decide +kernel)
theorem kit_bool {K : PySem.W.Frag} {t : String} (h : t ∈ ["NoneType", "bool", "int", "str", "list", "tuple", "dict"]) : PySem.W.kitOne K (.type t) (.type "bool") = some (t == "bool") := by
  simp only [List.mem_cons, List.not_mem_nil, or_false] at h
  rcases h with rfl | rfl | rfl | rfl | rfl | rfl | rfl <;> exact kit_ty (by decide +kernel)
theorem kit_str {K : PySem.W.Frag} {t : String} (h : t ∈ ["NoneType", "bool", "int", "str", "list", "tuple", "dict"]) : PySem.W.kitOne K (.type t) (.type "str") = some (t == "str") := by
  simp only [List.mem_cons, List.not_mem_nil, or_false] at h
  rcases h with rfl | rfl | rfl | rfl | rfl | rfl | rfl <;> exact kit_ty (by decide +kernel)
theorem kit_tuple {K : PySem.W.Frag} {t : String} (h : t ∈ ["NoneType", "bool", "int", "str", "list", "tuple", "dict"]) : PySem.W.kitOne K (.type t) (.type "tuple") = some (t == "tuple") := by
  simp only [List.mem_cons, List.not_mem_nil, or_false] at h
  rcases h with rfl | rfl | rfl | rfl | rfl | rfl | rfl <;> exact kit_ty (by decide +kernel)
theorem kit_list {K : PySem.W.Frag} {t : String} (h : t ∈ ["NoneType", "bool", "int", "str", "list", "tuple", "dict"]) : PySem.W.kitOne K (.type t) (.type "list") = some (t == "list") := by
  simp only [List.mem_cons, List.not_mem_nil, or_false] at h
  rcases h with rfl | rfl | rfl | rfl | rfl | rfl | rfl <;> exact kit_ty (by decide +kernel)
/-- isinstance(v, T) -/
theorem isi_int {K : PySem.W.Frag} {H : Hp} {v : V} {t : String} {Q : VK} (k : Kd K H v t) (q : Q (.bl (t == "int" || t == "bool")) H) : rIsi K [v, .ty "int"] H Q := ⟨v, _, _, _, _, rfl, .ty _, k.ty, kit_int k.kn, q⟩
theorem isi_bool {K : PySem.W.Frag} {H : Hp} {v : V} {t : String} {Q : VK} (k : Kd K H v t) (q : Q (.bl (t == "bool")) H) : rIsi K [v, .ty "bool"] H Q := ⟨v, _, _, _, _, rfl, .ty _, k.ty, kit_bool k.kn, q⟩
theorem isi_str {K : PySem.W.Frag} {H : Hp} {v : V} {t : String} {Q : VK} (k : Kd K H v t) (q : Q (.bl (t == "str")) H) : rIsi K [v, .ty "str"] H Q := ⟨v, _, _, _, _, rfl, .ty _, k.ty, kit_str k.kn, q⟩
theorem isi_tuple {K : PySem.W.Frag} {H : Hp} {v : V} {t : String} {Q : VK} (k : Kd K H v t) (q : Q (.bl (t == "tuple")) H) : rIsi K [v, .ty "tuple"] H Q := ⟨v, _, _, _, _, rfl, .ty _, k.ty, kit_tuple k.kn, q⟩
theorem kit_lt {K : PySem.W.Frag} {t : String} (h : t ∈ ["NoneType", "bool", "int", "str", "list", "tuple", "dict"]) : PySem.W.kitAny K (.type t) [.type "list", .type "tuple"] = some (t == "list" || t == "tuple") := by
  refine kitAny_cons (kit_list h) (fun e => ?_) (fun e => by rw [e]; rfl)
  rw [e]
  refine kitAny_cons (kit_tuple h) (fun e => ?_) (fun e => by rw [e]; rfl)
  rw [e]
  exact kitAny_nil
/-- isinstance(v, (list, tuple)) -/
theorem isi_lt {K : PySem.W.Frag} {H : Hp} {v : V} {t : String} {T : Addr} {Q : VK} (k : Kd K H v t) (hT : H T = some (.tup [.ty "list", .ty "tuple"])) (q : Q (.bl (t == "list" || t == "tuple")) H) : rIsiT K [v, .ref T] H Q :=
  ⟨v, T, _, _, _, _, rfl, hT, .cons (.ty _) (.cons (.ty _) .nil), k.ty, kit_lt k.kn, q⟩
theorem Kd.up {K : PySem.W.Frag} {H : Hp} {v : V} {t : String} {a : Addr} {o : HO} (k : Kd K H v t) (h : H a = none) : Kd K (upd H a o) v t := by
  refine ⟨?_, k.kn⟩
  cases k.ty with
  | base b =>
    refine .base ?_
    cases b with
    | non => exact .non
    | bl x => exact .bl x
    | int x => exact .int x
    | str x => exact .str x
    | flt x => exact .flt x
    | lst e => exact .lst (by rw [upd_ne (ne_of_none e h)]; exact e)
    | frz e => exact .frz (by rw [upd_ne (ne_of_none e h)]; exact e)
    | tup e => exact .tup (by rw [upd_ne (ne_of_none e h)]; exact e)
    | dK e => exact .dK (by rw [upd_ne (ne_of_none e h)]; exact e)
    | dT e => exact .dT (by rw [upd_ne (ne_of_none e h)]; exact e)
  | byt b => exact .byt b
  | set e => exact .set (by rw [upd_ne (ne_of_none e h)]; exact e)
  | kList e c => exact .kList e c
  | kTuple e c => exact .kTuple e c
  | kDict e c => exact .kDict e c
  | fTuple e => exact .fTuple (by rw [upd_ne (ne_of_none e h)]; exact e)
  | fDict e => exact .fDict (by rw [upd_ne (ne_of_none e h)]; exact e)

section
variable {P : Program} {w : World} {K : PySem.W.Frag} {mg : Str → Option Value} {base : Heap} {f : Addr} {fd : FuncData}

/-! ### is_integer -/
def sp_is_integer (K : PySem.W.Frag) : Sp := fun vs H Q _ => ∃ v t, vs = [v] ∧ Kd K H v t ∧ Q (.bl (t == "int")) H
theorem ok_is_integer (Z : Zb mg) (D : C8.Def K mg "is_integer" s_is_integer f fd) (b : Binds K fd ["value"] []) : CalX P w K mg base 1 "is_integer" (sp_is_integer K) := by
  refine calX D b sc_is_integer (fun vs H Q E h => by obtain ⟨v, t, rfl, _⟩ := h; rfl) fun cdv A outer s H vs Q E hr h => ?_
  obtain ⟨v, t, rfl, k, q⟩ := h
  refine ⟨_, (pss_one (ps_ret (pe_and (pe_callB call_isi rfl Z.isinstance PyProof.Rows.boot_isinstance (pa_cons (pv 0) (pa_cons (pe_ty rfl Z.int PyProof.Rows.boot_int) pa_nil))) (pe_one (pe_not (pe_callB call_isi rfl Z.isinstance PyProof.Rows.boot_isinstance (pa_cons (pv 0) (pa_cons (pe_ty rfl Z.bool PyProof.Rows.boot_bool) pa_nil)))))))), ?_⟩
  walk_at "rd"
  walk_at "rs"
  refine isi_int k ?_
  walk_at "rs"
  by_cases e : (t == "int" || t == "bool") = true
  · rw [if_pos e]
    refine isi_bool k ?_
    walk_at "rs"
    have e2 : (!(t == "bool")) = (t == "int") := by
      have kn := k.kn
      simp only [List.mem_cons, List.not_mem_nil, or_false] at kn
      rcases kn with rfl | rfl | rfl | rfl | rfl | rfl | rfl <;> first | rfl | exact absurd e (by decide)
    rw [e2]; exact q
  · rw [if_neg e]
    have e2 : (t == "int") = false := by
      cases h : (t == "int") with
      | false => rfl
      | true => rw [h] at e; exact absurd rfl e
    rw [e2] at q; exact q
end
end FP
set_option maxHeartbeats 4000000
/-! an error of an own class is made: what HandS.ExcInit says of it, and that its context is None -/
namespace FP
open PySem PySem.Spec PyProof.Rows L2
section
variable {X : Cx} {e : Expr} {es : List Expr} {ta : TA} {p pos : Pos}
theorem pmkN {CX : CXT} {x : Str} {C fI : Addr} {k : Nat} {fd : FuncData} {ps : List Str} {sp : Sp} (T : OexC X.K C)
    (iC : PySem.W.findIn X.K (.ref C) "__init__" = some (some (.ref fI)))
    (tI : PySem.W.typeIn X.K (.ref fI) = some (.type "function"))
    (F1 : FnOk X.prog X.w X.K X.mg X.base CX k fI fd ps sp) (hr : Room (k + 1) X.A)
    (hb : Binds X.K fd ps []) (hx : Passes CX X (fun _ _ _ => False)) (hg : Gl X x)
    (hm : X.mg x = some (.ref C)) (ha : PA X (e :: es) ta)
    (hdb : (x == ("__debug__" : Str)) = false := by decide)
    (he : starEach (e :: es) X.env = (false, eval e X.env) :: starEach es X.env := by rfl)
    (hpl : (backTo pos (starEach es X.env)).any (·.1) = false := by rfl) :
    L2N.PMk X (.Call (.Name x p) (e :: es) [] pos) (tMkO C sp [] ta) := by
  intro pins s σ H Q I h
  obtain ⟨nm, q, N, bs, bm, sn, sub, ab, col, dd, k0, k1, k2, k3, k5, cC, cm⟩ := T.cls
  refine wpAny_Call_Name_kw (ld_glob I hg hm ?_ hdb)
  refine PySem.W.callWith_K (h₀ := X.base) I.ok.mod.kin T.kC
    (thn (ha.run pos pins s σ H _ I h) fun us s1 ⟨vs, H1, I1, rv, lv, q1⟩ => ⟨I1.kIn, ?_⟩) he hpl
  change wpAny _ _ (call (.ref C) us) _ _ _
  obtain ⟨hp, g, dr, tk, os⟩ := s1
  have up1 : hp.objs.size ≤ hp.objs.size + 1 := by omega
  have fresh1 : H1 (hp.objs.size + 1) = none := I1.hok.fresh up1
  have told := q1 _ fresh1
  have stay : ∀ b o, hp.get? b = some o → ((hp.push (PySem.W.kdv_tup us)).push
    (PySem.HandSPX.excO C hp.objs.size)).get? b = some o :=
    fun b o z => Heap.get?_push_of_some _ (Heap.get?_push_of_some _ z)
  have there : ((hp.push (PySem.W.kdv_tup us)).push
    (PySem.HandSPX.excO C hp.objs.size)).get? (hp.objs.size + 1) = some (PySem.HandSPX.excO C hp.objs.size) := by
    heap_get
  have J : Inv X pins σ (upd H1 (hp.objs.size + 1) (exo (hp.objs.size + 1) C none)) ⟨((hp.push (PySem.W.kdv_tup us)).push
    (PySem.HandSPX.excO C hp.objs.size)), g, dr, tk, os⟩ :=
    I1.laid (t' := tk) (h' := ((hp.push (PySem.W.kdv_tup us)).push
    (PySem.HandSPX.excO C hp.objs.size))) stay up1 (exo_ok there)
  have rel : Vals (V.ref (hp.objs.size + 1) :: (vs ++ [])) (Value.ref (hp.objs.size + 1) :: (us ++ [])) :=
    .cons rfl (rv.append .nil)
  have len1 : (Value.ref (hp.objs.size + 1) :: us ++ []).length = ps.length :=
    (show _ = _ from rel.length).symm.trans (F1.len _ _ _ _ told)
  have bb := hb _ (Value.ref (hp.objs.size + 1) :: us) J.kIn len1
  rw [List.cons_append] at bb
  have few : us.length ≤ sizeLine := by
    have z := Paired.length rv
    rw [sizeLine_eq]; omega
  refine wpAny_call (PySem.HandSPX.call_own F.excBase_ValueError (fun Y => PySem.HandSPX.refsVE_contains Y bm cm)
    (I1.kIn _ _ cC) (PySem.W.looks_findIn I1.kIn iC) (fun self => PySem.W.bind_fn I1.kIn self tI) few
    (codeAny_mono (F1.run _ X.stack _ _ ⟨Value.ref (hp.objs.size + 1) :: us, []⟩
      (Value.ref (hp.objs.size + 1) :: (us ++ [])) _ _ (fun _ _ _ => False) (hr.make C us []) (J.env0.make C us [])
      bb rel told) fun r s' back => ?_))
  cases r with
  | error er => exact hx pins σ _ _ er s' J back
  | ok fl =>
    cases fl with
    | ret u =>
      obtain ⟨v, H2, o2, b2, u2, ok2, rv2, ev, d, fs, ea, ed, fr, q2⟩ := back
      subst ev
      obtain ⟨h2, g2, d2, t2, os'⟩ := s'
      obtain ⟨t0, G, JG, kG, ge, oe, na⟩ := mk_end0 (d2 := d2) (t2 := t2) I1 up1 stay u2 ok2 o2 b2 ea ed fr
      refine ⟨rv2, _, _, _, ⟨G, g2, d2, t2, os'⟩, _, .ref C, some d, rfl, JG, kG, ge, oe, ⟨rfl, rfl, ?_⟩, rfl, rfl, na, rfl, b2,
        raises_own T.exC T.tyC, q2⟩
      intro ws z
      cases z
      rfl
    | next => exact False.elim back
    | brk => exact False.elim back
    | cont => exact False.elim back
end
end FP
set_option maxHeartbeats 4000000
namespace FP
open PySem PySem.Spec PyProof.Rows L2
local macro_rules | `(tactic| walk_at "rd") => `(tactic| dsimp only [tVar, tC, tCmp, tIsN, tNotN, tB, tAnd, tOr, tNot, tAndV, tOrV, tNotV, tIf, tNext, tSeq, tBreak, tCont, tDrop, tRet, tRetN, tIfS, tNever, tAsg, tPar, tAug, tOp, tUn, tTest, tChain, tFld, tNil, tCons, tTup, tLst, tCB, iList, iTup, iStr, tLc, tM0, tM1, tPart, tNoPart, tSl, tBM, tCallS, tCallSD, WE, tDGet, tDIn, gName, gTup, gCons, gNil, gSub, sFld, sFldAug, rI, rI0, rU, rEq, rNe, rAdd, rSub, t2I, tYes, cx_K, cx_w, cx_prog])
local macro_rules | `(tactic| walk_at "rs") => `(tactic| (try simp only [L2.start, List.map_cons, List.map_nil, List.length_cons, List.length_nil, List.cons_append, List.nil_append, Nat.reduceAdd, Nat.reduceSub, Nat.zero_add, List.replicate, List.getElem?_cons_zero, List.getElem?_cons_succ, Option.some.injEq, exists_eq_left', exists_eq_left, V.int.injEq, V.str.injEq, V.bl.injEq, V.ref.injEq, List.set_cons_zero, List.set_cons_succ, exists_and_left, List.cons.injEq, and_true, true_and, wipe, if_true, if_false, Bool.not_true, Bool.not_false, Bool.false_eq_true, decide_true, decide_false]))
local macro_rules | `(tactic| walk_at "r") => `(tactic| (walk_at "rd"; walk_at "rs"))
local macro_rules | `(tactic| walk_at "T") => `(tactic| (rw [if_pos (by first | assumption | rfl | decide | exact decide_eq_true (by assumption) | (simp [tyOf]; done) | (simp; omega) | omega)]; walk_at "rs"))
local macro_rules | `(tactic| walk_at "F") => `(tactic| (rw [if_neg (by first | assumption | decide | (simp [tyOf]; done) | (simp; omega) | (simp; assumption) | omega)]; walk_at "rs"))
/-! ### ratios among data -/
def ratioOf : PyData → Option (Int × Int)
  | .int i => some (i, 1)
  | .tuple [.int t, .int b] => if 1 < b ∧ Nat.gcd t.natAbs b.natAbs = 1 then some (t, b) else none
  | _ => none
theorem ratio_pair (i j : Int) : ratioOf (.tuple [.int i, .int j]) = if 1 < j ∧ Nat.gcd i.natAbs j.natAbs = 1 then some (i, j) else none := rfl
theorem ratio_some {d : PyData} {t b : Int} (h : ratioOf d = some (t, b)) : (d = .int t ∧ b = 1) ∨ (d = .tuple [.int t, .int b] ∧ 1 < b ∧ Nat.gcd t.natAbs b.natAbs = 1) := by
  unfold ratioOf at h
  split at h
  · cases h; exact .inl ⟨rfl, rfl⟩
  · split at h
    · rename_i c; cases h; exact .inr ⟨rfl, c⟩
    · cases h
  · cases h
theorem DpAll.length {K : PySem.W.Frag} {H : Hp} : ∀ {xs : List V} {ds : List PyData}, DpAll K H xs ds → xs.length = ds.length
  | _, _, .nil => rfl
  | _, _, .cons _ t => congrArg Nat.succ (DpAll.length t)
theorem DpAll.get {K : PySem.W.Frag} {H : Hp} : ∀ {xs : List V} {ds : List PyData} {i : Nat} {d : PyData}, DpAll K H xs ds → ds[i]? = some d → ∃ v, xs[i]? = some v ∧ Dp K H v d
  | _, _, _, _, .nil, h => by simp at h
  | _, _, 0, _, .cons h _, e => by simp at e; subst e; exact ⟨_, rfl, h⟩
  | _, _, i + 1, _, .cons _ t, e => by
    obtain ⟨v, h1, h2⟩ := DpAll.get (i := i) t (by simpa using e)
    exact ⟨v, by simpa using h1, h2⟩
theorem DpAll.append {K : PySem.W.Frag} {H : Hp} : ∀ {xs ys : List V} {ds es : List PyData}, DpAll K H xs ds → DpAll K H ys es → DpAll K H (xs ++ ys) (ds ++ es)
  | _, _, _, _, .nil, h => h
  | _, _, _, _, .cons a t, h => .cons a (DpAll.append t h)
theorem SqT.same {K : PySem.W.Frag} {H H' : Hp} {a : Addr} {xs : List V} (e : Same H H') (h : SqT K H a xs) : SqT K H' a xs := by
  rcases h with (h | ⟨o, h⟩) | h
  · exact .inl (.inl (e _ _ h))
  · exact .inl (.inr ⟨o, e _ _ h⟩)
  · exact .inr h
/-- what changes of the objects of S leave: all else is kept -/
def But (S : Addr → Prop) (H H' : Hp) : Prop := ∀ b o, ¬ S b → H b = some o → H' b = some o
theorem But.refl (S : Addr → Prop) (H : Hp) : But S H H := fun _ _ _ h => h
theorem But.trans {S : Addr → Prop} {H H1 H2 : Hp} (a : But S H H1) (b : But S H1 H2) : But S H H2 := fun c o n h => b c o n (a c o n h)
theorem Same.but {S : Addr → Prop} {H H' : Hp} (e : Same H H') : But S H H' := fun c o _ h => e c o h
theorem But.upd {S : Addr → Prop} {x : Addr} {H : Hp} {o : HO} (s : S x) : But S H (upd H x o) := fun c u n h => by rw [upd_ne (fun e => n (by rw [e]; exact s))]; exact h
theorem same_new {H : Hp} {p : Addr} (h : H p = none) (o : HO) : Same H (upd H p o) := fun b u q => by rw [upd_ne (ne_of_none q h)]; exact q
/-- no tuple is among S -/
def NoTup (H : Hp) (S : Addr → Prop) : Prop := ∀ x xs, S x → ¬ Rd H x (.tup xs)
theorem SqT.but {K : PySem.W.Frag} {S : Addr → Prop} {H H' : Hp} {a : Addr} {xs : List V} (z : NoTup H S) (e : But S H H') (h : SqT K H a xs) : SqT K H' a xs := by
  rcases h with h | h
  · have n : ¬ S a := fun s => z a xs s h
    rcases h with h | ⟨o, h⟩
    · exact .inl (.inl (e _ _ n h))
    · exact .inl (.inr ⟨o, e _ _ n h⟩)
  · exact .inr h
theorem SqL.but {K : PySem.W.Frag} {S : Addr → Prop} {H H' : Hp} {a : Addr} {xs : List V} (z : ¬ S a) (e : But S H H') (h : SqL K H a xs) : SqL K H' a xs := by
  rcases h with h | h
  · rcases h with h | ⟨o, h⟩
    · exact .inl (.inl (e _ _ z h))
    · exact .inl (.inr ⟨o, e _ _ z h⟩)
  · exact .inr h
/-- a list of the heap, an instance, a dict: no tuple -/
theorem noTup1 {H : Hp} {x : Addr} {o : HO} (h : H x = some o) (n1 : ∀ xs, o ≠ .tup xs) (n2 : ∀ ob u, o ≠ .frz ob u) : NoTup H (· = x) := by
  rintro y xs rfl (t | ⟨ob, t⟩)
  · rw [h] at t; cases t; exact n1 _ rfl
  · rw [h] at t; cases t; exact n2 _ _ rfl
/-- data without lists -/
inductive Nol : PyData → Prop
  | non : Nol .none
  | bl (b : Bool) : Nol (.bool b)
  | int (i : Int) : Nol (.int i)
  | str (x : Str) : Nol (.str x)
  | tup {ds : List PyData} : (∀ d, d ∈ ds → Nol d) → Nol (.tuple ds)
mutual
theorem Dp.but {K : PySem.W.Frag} {S : Addr → Prop} {H H' : Hp} (z : NoTup H S) (e : But S H H') : ∀ {v : V} {d : PyData}, Nol d → Dp K H v d → Dp K H' v d
  | _, _, _, .non => .non
  | _, _, _, .bl b => .bl b
  | _, _, _, .int i => .int i
  | _, _, _, .str x => .str x
  | _, _, n, .lst s t => nomatch n
  | _, _, n, .tup s t => .tup (SqT.but z e s) (DpAll.but z e (fun d h => match n with | .tup g => g d h) t)
theorem DpAll.but {K : PySem.W.Frag} {S : Addr → Prop} {H H' : Hp} (z : NoTup H S) (e : But S H H') : ∀ {vs : List V} {ds : List PyData}, (∀ d, d ∈ ds → Nol d) → DpAll K H vs ds → DpAll K H' vs ds
  | _, _, _, .nil => .nil
  | _, _, n, .cons a t => .cons (Dp.but z e (n _ List.mem_cons_self) a) (DpAll.but z e (fun d h => n d (List.mem_cons_of_mem _ h)) t)
end
mutual
theorem Dp.imp {K : PySem.W.Frag} {H H' : Hp} (hL : ∀ a xs, SqL K H a xs → SqL K H' a xs) (hT : ∀ a xs, SqT K H a xs → SqT K H' a xs) : ∀ {v : V} {d : PyData}, Dp K H v d → Dp K H' v d
  | _, _, .non => .non
  | _, _, .bl b => .bl b
  | _, _, .int i => .int i
  | _, _, .str x => .str x
  | _, _, .lst s t => .lst (hL _ _ s) (DpAll.imp hL hT t)
  | _, _, .tup s t => .tup (hT _ _ s) (DpAll.imp hL hT t)
theorem DpAll.imp {K : PySem.W.Frag} {H H' : Hp} (hL : ∀ a xs, SqL K H a xs → SqL K H' a xs) (hT : ∀ a xs, SqT K H a xs → SqT K H' a xs) : ∀ {vs : List V} {ds : List PyData}, DpAll K H vs ds → DpAll K H' vs ds
  | _, _, .nil => .nil
  | _, _, .cons a t => .cons (Dp.imp hL hT a) (DpAll.imp hL hT t)
end
theorem Dp.same {K : PySem.W.Frag} {H H' : Hp} {v : V} {d : PyData} (e : Same H H') (h : Dp K H v d) : Dp K H' v d := Dp.imp (fun _ _ => e.seq) (fun _ _ => SqT.same e) h
theorem DpAll.same {K : PySem.W.Frag} {H H' : Hp} {v : List V} {d : List PyData} (e : Same H H') (h : DpAll K H v d) : DpAll K H' v d := DpAll.imp (fun _ _ => e.seq) (fun _ _ => SqT.same e) h
/-- a pair of ints as data -/
theorem Dp.pair {K : PySem.W.Frag} {H : Hp} {v : V} {t b : Int} (h : Dp K H v (.tuple [.int t, .int b])) : ∃ a, v = .ref a ∧ SqT K H a [.int t, .int b] := by
  cases h with
  | tup s t =>
    cases t with
    | cons a t =>
      cases t with
      | cons b t =>
        cases t
        cases a
        cases b
        exact ⟨_, rfl, s⟩
theorem Dp.of_pair {K : PySem.W.Frag} {H : Hp} {a : Addr} {t b : Int} (h : SqT K H a [.int t, .int b]) : Dp K H (.ref a) (.tuple [.int t, .int b]) := .tup h (.cons (.int t) (.cons (.int b) .nil))
theorem Dp.tupI {K : PySem.W.Frag} {H : Hp} {v : V} {ds : List PyData} (h : Dp K H v (.tuple ds)) : ∃ a xs, v = .ref a ∧ SqT K H a xs ∧ DpAll K H xs ds := by
  cases h with
  | tup s t => exact ⟨_, _, rfl, s, t⟩
theorem Dp.lstI {K : PySem.W.Frag} {H : Hp} {v : V} {ds : List PyData} (h : Dp K H v (.list ds)) : ∃ a xs, v = .ref a ∧ SqL K H a xs ∧ DpAll K H xs ds := by
  cases h with
  | lst s t => exact ⟨_, _, rfl, s, t⟩
theorem Dp.intI {K : PySem.W.Frag} {H : Hp} {v : V} {i : Int} (h : Dp K H v (.int i)) : v = .int i := by cases h; rfl
theorem Dp.strI {K : PySem.W.Frag} {H : Hp} {v : V} {i : Str} (h : Dp K H v (.str i)) : v = .str i := by cases h; rfl
theorem ty_int {d : PyData} : (tyOf d == "int") = true ↔ ∃ i, d = .int i := by
  cases d <;> simp [tyOf]
theorem ty_tuple {d : PyData} : (tyOf d == "tuple") = true ↔ ∃ i, d = .tuple i := by
  cases d <;> simp [tyOf]
theorem op_pow2 {X : Cx} : OpR X (binaryOp .Pow) (rI (fun i j => 0 ≤ j ∧ (Builtin.Int.intBits i : Int) * j ≤ 2 ^ 27) fun i j => .int (i ^ j.toNat)) := opI fun _ _ _ _ _ _ _ hc q => PyProof.Rows.pow_int hc.1 hc.2 q

theorem ixT {K : PySem.W.Frag} {H : Hp} {a : Addr} {xs : List V} {i : Int} {v : V} {Q : VK} (h : SqT K H a xs) (e : atI xs i = some v) (q : Q v H) : rIxT K (.ref a) (.int i) H Q := ⟨a, xs, i, v, rfl, rfl, h, e, q⟩
theorem ixL {K : PySem.W.Frag} {H : Hp} {a : Addr} {xs : List V} {i : Int} {v : V} {Q : VK} (h : SqL K H a xs) (e : atI xs i = some v) (q : Q v H) : rIxL K (.ref a) (.int i) H Q := ⟨a, xs, i, v, rfl, rfl, h, e, q⟩
theorem lenT {K : PySem.W.Frag} {H : Hp} {a : Addr} {xs : List V} {R : Nat → Prop} (h : SqT K H a xs) (q : R xs.length) : ∃ n, LenV K (.ref a) H n ∧ R n := ⟨_, .inr ⟨xs, h, rfl⟩, q⟩
theorem lenL {K : PySem.W.Frag} {H : Hp} {a : Addr} {xs : List V} {R : Nat → Prop} (h : SqL K H a xs) (q : R xs.length) : ∃ n, LenV K (.ref a) H n ∧ R n := ⟨_, .inl ⟨xs, h, rfl⟩, q⟩
theorem eqI {i j : Int} {H : Hp} {Q : VK} (q : Q (.bl (decide (i = j))) H) : rEq (.int i) (.int j) H Q := ⟨rfl, by simpa using q⟩
section
variable {P : Program} {w : World} {K : PySem.W.Frag} {mg : Str → Option Value} {base : Heap} {f : Addr} {fd : FuncData}
/-! ### is_ratio -/
def sp_is_ratio (K : PySem.W.Frag) : Sp := fun vs H Q _ => ∃ v, vs = [v] ∧ ((∃ d, Dp K H v d ∧ Q (.bl (ratioOf d).isSome) H) ∨ (∃ t, Kd K H v t ∧ (t == "tuple") = false ∧ Q (.bl (t == "int")) H))
theorem ok_is_ratio (Z : Zb mg) (G_gcd : mg "gcd" = some (.builtin "math.gcd")) (D : C8.Def K mg "is_ratio" s_is_ratio f fd) (b : Binds K fd ["value"] []) (c_is_integer : CalX P w K mg base 1 "is_integer" (sp_is_integer K)) : CalX P w K mg base 2 "is_ratio" (sp_is_ratio K) := by
  refine calX D b sc_is_ratio (fun vs H Q E h => by obtain ⟨v, rfl, _⟩ := h; rfl) fun cdv A outer s H vs Q E hr h => ?_
  obtain ⟨v, rfl, h⟩ := h
  refine ⟨_, (pss_cons (ps_if (pt_not (pt_val (pe_callB call_isi rfl Z.isinstance PyProof.Rows.boot_isinstance (pa_cons (pv 0) (pa_cons (pe_ty rfl Z.tuple PyProof.Rows.boot_tuple) pa_nil))))) (pss_one (ps_ret (pe_x c_is_integer hr (by decide) tk0 rfl (pa_cons (pv 0) pa_nil)))) pss_nil)
    (pss_cons (ps_if (PW.pt (pw_or (pt_cmpR op_ne (pe_callB call_len rfl Z.len PySem.boot_len (pa_cons (pv 0) pa_nil)) pe_int (nomark _)) (pw_or (pt_not (pt_val (pe_x c_is_integer hr (by decide) tk0 rfl (pa_cons (pe_ix ix_tup (pv 0) pe_int (fun _ _ => rfl)) pa_nil)))) (pw_or1 (pt_not (pt_val (pe_x c_is_integer hr (by decide) tk0 rfl (pa_cons (pe_ix ix_tup (pv 0) pe_int (fun _ _ => rfl)) pa_nil)))))))) (pss_one (ps_ret pe_bl)) pss_nil)
    (pss_one (ps_ret (pe_and (pe_cmpR op_gt (pe_ix ix_tup (pv 0) pe_int (fun _ _ => rfl)) pe_int (nomark _)) (pe_one (pe_cmpR op_eq (pe_callBfun cr_gcd rfl G_gcd (pa_cons (pe_ix ix_tup (pv 0) pe_int (fun _ _ => rfl)) (pa_cons (pe_ix ix_tup (pv 0) pe_int (fun _ _ => rfl)) pa_nil))) pe_int (nomark _)))))))), ?_⟩
  walk_at "r"
  rcases h with ⟨d, hd, q⟩ | ⟨t, k, nt, q⟩
  · refine isi_tuple (Dp.kd hd) ?_
    walk_at "rs"
    by_cases ht : (tyOf d == "tuple") = true
    · obtain ⟨ds, rfl⟩ := ty_tuple.mp ht
      obtain ⟨a, xs, rfl, hs, al⟩ := Dp.tupI hd
      rw [ht]
      walk_at "rs"
      refine lenT hs ⟨rfl, ?_⟩
      have hl := DpAll.length al
      match xs, ds, al, hl, hs, q with
      | [x, y], [d, e], .cons hx (.cons hy _), _, hs, q =>
        walk_at "F"
        refine ixT hs rfl ⟨_, _, rfl, Dp.kd hx, ?_⟩
        walk_at "rs"
        by_cases hd : (tyOf d == "int") = true
        · rw [hd]
          walk_at "rs"
          obtain ⟨i, rfl⟩ := ty_int.mp hd
          cases hx
          refine ixT hs rfl ⟨_, _, rfl, Dp.kd hy, ?_⟩
          walk_at "rs"
          by_cases he : (tyOf e == "int") = true
          · rw [he]
            walk_at "rs"
            obtain ⟨j, rfl⟩ := ty_int.mp he
            cases hy
            refine ixT hs rfl ⟨_, rfl, ?_⟩
            by_cases hj : 1 < j
            · walk_at "T"
              refine ixT hs rfl (ixT hs rfl ⟨_, _, rfl, rfl, ?_⟩)
              have e : decide (V.int ((Nat.gcd i.natAbs j.natAbs : Nat) : Int) = V.int 1) = (ratioOf (.tuple [.int i, .int j])).isSome := by
                rw [ratio_pair]
                by_cases g : Nat.gcd i.natAbs j.natAbs = 1
                · rw [if_pos ⟨hj, g⟩, g]; rfl
                · rw [if_neg (fun z => g z.2)]
                  refine decide_eq_false fun z => g ?_
                  injection z with z
                  exact Int.ofNat_inj.mp z
              rw [e]; exact q
            · walk_at "F"
              have e : (ratioOf (.tuple [.int i, .int j])).isSome = false := by
                rw [ratio_pair, if_neg (fun z => hj z.1)]; rfl
              rw [e] at q; exact q
          · rw [Bool.eq_false_iff.mpr he]
            walk_at "rs"
            have e : (ratioOf (.tuple [.int i, e])).isSome = false := by
              cases e <;> first | rfl | exact absurd rfl he
            rw [e] at q; exact q
        · rw [Bool.eq_false_iff.mpr hd]
          walk_at "rs"
          have e : (ratioOf (.tuple [d, e])).isSome = false := by
            cases d <;> first | rfl | exact absurd rfl hd
          rw [e] at q; exact q
      | [], [], _, _, _, q => walk_at "T"; exact q
      | [_], [e], _, _, _, q =>
        walk_at "T"
        have e : (ratioOf (.tuple [e])).isSome = false := by cases e <;> rfl
        rw [e] at q; exact q
      | _ :: _ :: _ :: r, a :: b :: c :: r', _, _, _, q =>
        rw [if_pos (by simp; omega)]
        have e : (ratioOf (.tuple (a :: b :: c :: r'))).isSome = false := by cases a <;> first | rfl | (cases b <;> rfl)
        rw [e] at q; walk_at "rs"; exact q
    · rw [Bool.eq_false_iff.mpr ht]
      walk_at "rs"
      refine ⟨_, _, rfl, Dp.kd hd, ?_⟩
      have e : (ratioOf d).isSome = (tyOf d == "int") := by
        cases d <;> first | rfl | exact absurd rfl ht
      rw [e] at q; exact q
  · refine isi_tuple k ?_
    rw [nt]
    walk_at "rs"
    exact ⟨_, _, rfl, k, q⟩
/-! ### pair -/
def sp_pair (K : PySem.W.Frag) : Sp := fun vs H Q _ => ∃ v d t b, vs = [v] ∧ Dp K H v d ∧ ratioOf d = some (t, b) ∧ ∀ a H', Same H H' → SqT K H' a [.int t, .int b] → Q (.ref a) H'
theorem ok_pair (Z : Zb mg) (D : C8.Def K mg "pair" s_pair f fd) (b : Binds K fd ["number"] []) : CalX P w K mg base 1 "pair" (sp_pair K) := by
  refine calX D b sc_pair (fun vs H Q E h => by obtain ⟨v, d, t, b, rfl, _⟩ := h; rfl) fun cdv A outer s H vs Q E hr h => ?_
  obtain ⟨v, d, t, b, rfl, hd, hr', q⟩ := h
  refine ⟨_, (pss_one (ps_ret (pe_ifExp (pt_val (pe_callB call_isi rfl Z.isinstance PyProof.Rows.boot_isinstance (pa_cons (pv 0) (pa_cons (pe_ty rfl Z.int PyProof.Rows.boot_int) pa_nil)))) (pe_tup (pa_cons (pv 0) (pa_cons pe_int pa_nil))) (pv 0)))), ?_⟩
  walk_at "r"
  refine isi_int (Dp.kd hd) ?_
  walk_at "rs"
  rcases ratio_some hr' with ⟨rfl, rfl⟩ | ⟨rfl, _⟩
  · cases hd
    walk_at "T"
    refine ⟨by show 2 ≤ sizeLine; decide, fun p hp => q p _ (same_new hp _) (.inl (.inl upd_same))⟩
  · obtain ⟨a, rfl, s⟩ := Dp.pair hd
    walk_at "F"
    exact q a H (Same.refl H) s
/-! ### opposite -/
def oppD : PyData → PyData
  | .int i => .int (-i)
  | .tuple [.int t, .int b] => .tuple [.int (-t), .int b]
  | d => d
def sp_opposite (K : PySem.W.Frag) : Sp := fun vs H Q _ => ∃ v d, vs = [v] ∧ Dp K H v d ∧ (ratioOf d).isSome = true ∧ ∀ v' H', Same H H' → Dp K H' v' (oppD d) → Q v' H'
theorem ok_opposite (Z : Zb mg) (D : C8.Def K mg "opposite" s_opposite f fd) (b : Binds K fd ["number"] []) : CalX P w K mg base 1 "opposite" (sp_opposite K) := by
  refine calX D b sc_opposite (fun vs H Q E h => by obtain ⟨v, d, rfl, _⟩ := h; rfl) fun cdv A outer s H vs Q E hr h => ?_
  obtain ⟨v, d, rfl, hd, hr', q⟩ := h
  refine ⟨_, (pss_one (ps_ret (pe_ifExp (pt_val (pe_callB call_isi rfl Z.isinstance PyProof.Rows.boot_isinstance (pa_cons (pv 0) (pa_cons (pe_ty rfl Z.int PyProof.Rows.boot_int) pa_nil)))) (pe_un un_neg (pv 0)) (pe_tup (pa_cons (pe_un un_neg (pe_ix ix_tup (pv 0) pe_int (fun _ _ => rfl))) (pa_cons (pe_ix ix_tup (pv 0) pe_int (fun _ _ => rfl)) pa_nil)))))), ?_⟩
  walk_at "r"
  refine isi_int (Dp.kd hd) ?_
  walk_at "rs"
  obtain ⟨⟨t, b⟩, hr'⟩ := Option.isSome_iff_exists.mp hr'
  rcases ratio_some hr' with ⟨rfl, rfl⟩ | ⟨rfl, _⟩
  · cases hd
    walk_at "T"
    exact q _ _ (Same.refl H) (.int _)
  · obtain ⟨a, rfl, s⟩ := Dp.pair hd
    walk_at "F"
    refine ixT s rfl ⟨_, rfl, ixT s rfl ⟨by show 2 ≤ sizeLine; decide, fun p hp => q _ _ (same_new hp _) (Dp.of_pair (.inl (.inl upd_same)))⟩⟩
/-! ### sign_of -/
def sgn (t : Int) : Int := if 0 < t then 1 else if t < 0 then -1 else 0
def sp_sign_of (K : PySem.W.Frag) : Sp := fun vs H Q _ => ∃ v d t b, vs = [v] ∧ Dp K H v d ∧ ratioOf d = some (t, b) ∧ Q (.int (sgn t)) H
theorem ok_sign_of (Z : Zb mg) (D : C8.Def K mg "sign_of" s_sign_of f fd) (b : Binds K fd ["number"] []) : CalX P w K mg base 1 "sign_of" (sp_sign_of K) := by
  refine calX D b sc_sign_of (fun vs H Q E h => by obtain ⟨v, d, t, b, rfl, _⟩ := h; rfl) fun cdv A outer s H vs Q E hr h => ?_
  obtain ⟨v, d, t, b, rfl, hd, hr', q⟩ := h
  have nd := sc_sign_of.nd
  refine ⟨_, (pss_cons (ps_set (i := 1) nd rfl (Or.inl rfl) (pe_ifExp (pt_val (pe_callB call_isi rfl Z.isinstance PyProof.Rows.boot_isinstance (pa_cons (pv 0) (pa_cons (pe_ty rfl Z.int PyProof.Rows.boot_int) pa_nil)))) (pv 0) (pe_ix ix_tup (pv 0) pe_int (fun _ _ => rfl))))
    (pss_one (ps_ret (pe_ifExp (pt_cmpR op_gt (pv 1) pe_int (nomark _)) pe_int (pe_ifExp (pt_cmpR op_lt (pv 1) pe_int (nomark _)) (pe_un un_neg pe_int) pe_int))))), ?_⟩
  walk_at "r"
  refine isi_int (Dp.kd hd) ?_
  have fin : if decide (0 < t) = true then Q (V.int 1) H else if decide (t < 0) = true then Q (V.int (-1)) H else Q (V.int 0) H := by
    unfold sgn at q
    by_cases h1 : 0 < t
    · rw [if_pos h1] at q; walk_at "T"; exact q
    · rw [if_neg h1] at q; walk_at "F"
      by_cases h2 : t < 0
      · rw [if_pos h2] at q; walk_at "T"; exact q
      · rw [if_neg h2] at q; walk_at "F"; exact q
  walk_at "rs"
  rcases ratio_some hr' with ⟨rfl, rfl⟩ | ⟨rfl, _⟩
  · cases hd
    walk_at "T"
    exact fin
  · obtain ⟨a, rfl, s⟩ := Dp.pair hd
    walk_at "F"
    refine ixT s rfl ?_
    walk_at "rs"
    exact fin
end
end FP
set_option maxHeartbeats 4000000
namespace FP
open PySem PySem.Spec PyProof.Rows L2
local macro_rules | `(tactic| walk_at "rd") => `(tactic| dsimp only [tVar, tC, tCmp, tIsN, tNotN, tB, tAnd, tOr, tNot, tAndV, tOrV, tNotV, tIf, tNext, tSeq, tBreak, tCont, tDrop, tRet, tRetN, tIfS, tNever, tAsg, tPar, tAug, tOp, tUn, tTest, tChain, tFld, tNil, tCons, tTup, tLst, tCB, iList, iTup, iStr, tLc, tM0, tM1, tPart, tNoPart, tSl, tBM, tCallS, tCallSD, WE, tDGet, tDIn, gName, gTup, gCons, gNil, gSub, sFld, sFldAug, rI, rI0, rU, rEq, rNe, rAdd, rSub, t2I, tYes, cx_K, cx_w, cx_prog])
local macro_rules | `(tactic| walk_at "rs") => `(tactic| (try simp only [L2.start, List.map_cons, List.map_nil, List.length_cons, List.length_nil, List.cons_append, List.nil_append, Nat.reduceAdd, Nat.reduceSub, Nat.zero_add, List.replicate, List.getElem?_cons_zero, List.getElem?_cons_succ, Option.some.injEq, exists_eq_left', exists_eq_left, V.int.injEq, V.str.injEq, V.bl.injEq, V.ref.injEq, List.set_cons_zero, List.set_cons_succ, exists_and_left, List.cons.injEq, and_true, true_and, wipe, if_true, if_false, Bool.not_true, Bool.not_false, Bool.false_eq_true, decide_true, decide_false]))
local macro_rules | `(tactic| walk_at "r") => `(tactic| (walk_at "rd"; walk_at "rs"))
local macro_rules | `(tactic| walk_at "T") => `(tactic| (rw [if_pos (by first | assumption | rfl | decide | exact decide_eq_true (by assumption) | (simp [tyOf]; done) | (simp; omega) | omega)]; walk_at "rs"))
local macro_rules | `(tactic| walk_at "F") => `(tactic| (rw [if_neg (by first | assumption | decide | (simp [tyOf]; done) | (simp; omega) | (simp; assumption) | omega)]; walk_at "rs"))
/-! ### errors of own classes with two fields -/
def spInit2 (C : Addr) (f1 f2 : Str) : Sp := fun vs H Q _ => ∃ (a : Addr) (v1 v2 : V), vs = [.ref a, v1, v2] ∧ H a = some (exo a C none) ∧
  ∀ dx, H dx = none → dx ≠ a → Q .non (upd (upd (upd H dx (exd dx [(f1, v1)])) a (exo a C (some dx))) dx (exd dx [(f2, v2), (f1, v1)]))
theorem upd_ne_same {H : Hp} {a dx : Addr} {o u : HO} (ne : dx ≠ a) : upd (upd H dx o) a u dx = some o := by rw [upd_ne ne, upd_same]
structure ErrX (P : Program) (w : World) (K : PySem.W.Frag) (mg : Str → Option Value) (base : Heap) (x : Str) (C : Addr) (f1 f2 : Str) : Prop where
  T : OexC K C
  nm : mg x = some (.ref C)
  ini : ∃ (fI : Addr) (fd : FuncData) (ps : List Str), PySem.W.findIn K (.ref C) "__init__" = some (some (.ref fI)) ∧ PySem.W.typeIn K (.ref fI) = some (.type "function") ∧ FnOk P w K mg base (L2N.CX P w) 1 fI fd ps (spInit2 C f1 f2) ∧ Binds K fd ps []
theorem xd_heap {H : Hp} {a dx : Addr} {o1 o2 o3 o4 o : HO} (na : H a = none) (ne : dx ≠ a) : upd (del (upd (upd (upd (upd H a o1) dx o2) a o3) dx o4) a) dx o = upd H dx o := by
  funext b
  by_cases h : b = dx
  · subst h; rw [upd_same, upd_same]
  · rw [upd_ne h, upd_ne h]
    by_cases h2 : b = a
    · subst h2; rw [del_same, na]
    · rw [del_ne h2, upd_ne h, upd_ne h2, upd_ne h, upd_ne h2]
/-- a reading that may be weakened -/
def tMo (t : TE) : TE := fun σ H Q => ∃ Q0 : VK, t σ H Q0 ∧ ∀ x H1, Q0 x H1 → Q x H1
theorem pe_mo {X : Cx} {e : Expr} {t : TE} (h : PE X e t) : PE X e (tMo t) := ⟨fun pins s σ H Q I ⟨Q0, q, m⟩ =>
  thn (h.run pins s σ H Q0 I q) fun u s' ⟨v, H', I', r, z⟩ => ⟨v, H', I', r, m v H' z⟩⟩
section
variable {X : Cx} {x : Str} {C : Addr} {f1 f2 : Str} {W : WX} {e1 e2 : Expr} {t1 t2 : TE} {p pos pos' : Pos} {k : Nat}
/-- raise x(e1, e2) -/
theorem ps_raiseX (R : ErrX X.prog X.w X.K X.mg X.base x C f1 f2) (hc : X.calm = true) (hr : Room k X.A) (hk : 2 ≤ k) (tk : L2N.Takes X W) (hg : Gl X x) (h1 : PE X e1 t1) (h2 : PE X e2 t2)
    (hdb : (x == ("__debug__" : Str)) = false := by decide) (s1 : starEach [e2] X.env = (false, eval e2 X.env) :: starEach [] X.env := by rfl)
    (s2 : starEach [e1, e2] X.env = (false, eval e1 X.env) :: starEach [e2] X.env := by rfl) (hpl : (backTo pos (starEach [e2] X.env)).any (·.1) = false := by rfl) :
    PS X (.Raise (some (.Call (.Name x p) [e1, e2] [] pos)) none pos') (fun _ σ H => t1 σ H fun v1 H1 => t2 σ H1 fun v2 H2 => ∀ d, H2 d = none → W (.ref C) (some d) σ (upd H2 d (.xd [(f2, v2), (f1, v1)]))) := by
  obtain ⟨fI, fd, ps, i1, i2, F, b⟩ := R.ini
  have hx : Passes (L2N.CX X.prog X.w) X (fun _ _ _ => False) := fun _ _ _ _ _ _ _ h => by
    obtain ⟨_, _, _, _, _, _, _, _, _, _, _, _, z⟩ := h
    exact z.elim
  have m := pmkN (p := p) (pos := pos) R.T i1 i2 F (hr.mono hk) b hx hg R.nm (pa_cons (pe_mo h1) (pa_cons (pe_mo h2) pa_nil s1) s2) hdb s2 hpl
  refine ⟨fun pins s σ H D I h => ?_⟩
  refine (L2N.ps_raise (pos := pos') hc tk m).run pins s σ H D I ?_
  refine ⟨_, h, fun v1 H1 q1 => ⟨_, q1, fun v2 H2 q2 => ⟨(show 2 ≤ 1000 by decide), fun a na => ?_⟩⟩⟩
  refine ⟨a, v1, v2, rfl, upd_same, fun dx nd ne => ⟨rfl, dx, [(f2, v2), (f1, v1)], ?_, upd_same, ?_, ?_⟩⟩
  · rw [upd_ne (Ne.symm ne), upd_same]
  · rw [upd_ne ne] at nd; exact nd
  · rw [xd_heap na ne]
    rw [upd_ne ne] at nd
    exact q2 dx nd
end
section
variable {P : Program} {w : World} {K : PySem.W.Frag} {mg : Str → Option Value} {base : Heap} {f : Addr} {fd : FuncData}
theorem init_BadText {C : Addr} (F : C8.Fun K "__init__" "BadText.__init__" s_BadText___init__ f fd) (T : OexC K C) (n1 : PySem.W.findIn K (.ref C) "line" = some none) (n2 : PySem.W.findIn K (.ref C) "word" = some none) :
    FnOk P w K mg base (L2N.CX P w) 1 f fd ["self", "line", "word"] (spInit2 C "line" "word") := by
  refine fnX F sc_BadText___init__ (fun vs H Q E h => by obtain ⟨a, v1, v2, rfl, _⟩ := h; rfl) fun cdv A outer s H vs Q E hr h => ?_
  obtain ⟨a, v1, v2, rfl, ha, q⟩ := h
  refine ⟨_, pss_cons (ps_ost (pv 0) (pv 1)) (pss_one (ps_ost (pv 0) (pv 2))), ?_⟩
  refine ⟨_, rfl, _, rfl, a, C, rfl, T, n1, .inl ⟨ha, fun dx nd ne => ?_⟩⟩
  refine ⟨_, rfl, _, rfl, a, C, rfl, T, n2, .inr ⟨dx, _, upd_same, upd_ne_same ne, (by show 1 ≤ 900; decide), q dx nd ne⟩⟩

theorem init_BadRow {C : Addr} (F : C8.Fun K "__init__" "BadRow.__init__" s_BadRow___init__ f fd) (T : OexC K C) (n1 : PySem.W.findIn K (.ref C) "what" = some none) (n2 : PySem.W.findIn K (.ref C) "row" = some none) :
    FnOk P w K mg base (L2N.CX P w) 1 f fd ["self", "what", "row"] (spInit2 C "what" "row") := by
  refine fnX F sc_BadRow___init__ (fun vs H Q E h => by obtain ⟨a, v1, v2, rfl, _⟩ := h; rfl) fun cdv A outer s H vs Q E hr h => ?_
  obtain ⟨a, v1, v2, rfl, ha, q⟩ := h
  refine ⟨_, pss_cons (ps_ost (pv 0) (pv 1)) (pss_one (ps_ost (pv 0) (pv 2))), ?_⟩
  refine ⟨_, rfl, _, rfl, a, C, rfl, T, n1, .inl ⟨ha, fun dx nd ne => ?_⟩⟩
  refine ⟨_, rfl, _, rfl, a, C, rfl, T, n2, .inr ⟨dx, _, upd_same, upd_ne_same ne, (by show 1 ≤ 900; decide), q dx nd ne⟩⟩

end
end FP
set_option maxHeartbeats 4000000
namespace FP
open PySem PySem.Spec PyProof.Rows L2
local macro_rules | `(tactic| walk_at "rd") => `(tactic| dsimp only [tVar, tC, tCmp, tIsN, tNotN, tB, tAnd, tOr, tNot, tAndV, tOrV, tNotV, tIf, tNext, tSeq, tBreak, tCont, tDrop, tRet, tRetN, tIfS, tNever, tAsg, tPar, tAug, tOp, tUn, tTest, tChain, tFld, tNil, tCons, tTup, tLst, tCB, iList, iTup, iStr, tLc, tM0, tM1, tPart, tNoPart, tSl, tBM, tCallS, tCallSD, WE, tDGet, tDIn, gName, gTup, gCons, gNil, gSub, sFld, sFldAug, rI, rI0, rU, rEq, rNe, rAdd, rSub, t2I, tYes, cx_K, cx_w, cx_prog])
local macro_rules | `(tactic| walk_at "rs") => `(tactic| (try simp only [L2.start, List.map_cons, List.map_nil, List.length_cons, List.length_nil, List.cons_append, List.nil_append, Nat.reduceAdd, Nat.reduceSub, Nat.zero_add, List.replicate, List.getElem?_cons_zero, List.getElem?_cons_succ, Option.some.injEq, exists_eq_left', exists_eq_left, V.int.injEq, V.str.injEq, V.bl.injEq, V.ref.injEq, List.set_cons_zero, List.set_cons_succ, exists_and_left, List.cons.injEq, and_true, true_and, wipe, if_true, if_false, Bool.not_true, Bool.not_false, Bool.false_eq_true, decide_true, decide_false]))
local macro_rules | `(tactic| walk_at "r") => `(tactic| (walk_at "rd"; walk_at "rs"))
local macro_rules | `(tactic| walk_at "T") => `(tactic| (rw [if_pos (by first | assumption | rfl | decide | exact decide_eq_true (by assumption) | (simp [tyOf]; done) | (simp; omega) | omega)]; walk_at "rs"))
local macro_rules | `(tactic| walk_at "F") => `(tactic| (rw [if_neg (by first | assumption | decide | (simp [tyOf]; done) | (simp; omega) | (simp; assumption) | omega)]; walk_at "rs"))
theorem PI_or {X : Cx} {tg l : Expr} {w1 w2 : TI} (h1 : PI X tg l w1) (h2 : PI X tg l w2) : PI X tg l (fun σ H R => w1 σ H R ∨ w2 σ H R) :=
  ⟨fun pins s σ H R I h => h.elim (h1.run pins s σ H R I) (h2.run pins s σ H R I)⟩
theorem pi_seq {X : Cx} {tg l : Expr} {tl : TE} (h : PE X l tl) : PI X tg l (fun σ H R => iList X.K tl σ H R ∨ iTup X.K tl σ H R) := PI_or (pi_list h) (pi_tup h)
theorem sz {n : Nat} (h : n ≤ 1000000) : n ≤ sizeLine := by rw [sizeLine_eq]; omega
theorem szL {n : Nat} (h : n < 1000000) : n < sizeLine := by rw [sizeLine_eq]; omega
/-- what stood ahead of a new list's place is kept through all that is done to that list -/
theorem Same.of_but {H H2 : Hp} {D : Addr} {o : HO} (n : H D = none) (e : But (· = D) (upd H D o) H2) : Same H H2 := fun b u h =>
  e b u (fun z => by rw [z, n] at h; cases h) (by rw [upd_ne (fun z => by rw [z, n] at h; cases h)]; exact h)
section
variable {P : Program} {w : World} {K : PySem.W.Frag} {mg : Str → Option Value} {base : Heap} {f : Addr} {fd : FuncData}
/-! ### is_list -/
def sp_is_list (K : PySem.W.Frag) : Sp := fun vs H Q _ => ∃ v t, vs = [v] ∧ Kd K H v t ∧ ∀ H', Same H H' → Q (.bl (t == "list" || t == "tuple")) H'
theorem ok_is_list (Z : Zb mg) (D : C8.Def K mg "is_list" s_is_list f fd) (b : Binds K fd ["value"] []) : CalX P w K mg base 1 "is_list" (sp_is_list K) := by
  refine calX D b sc_is_list (fun vs H Q E h => by obtain ⟨v, t, rfl, _⟩ := h; rfl) fun cdv A outer s H vs Q E hr h => ?_
  obtain ⟨v, t, rfl, k, q⟩ := h
  refine ⟨_, (pss_one (ps_ret (pe_callB call_isiT rfl Z.isinstance PyProof.Rows.boot_isinstance (pa_cons (pv 0) (pa_cons (pe_tup (pa_cons (pe_ty rfl Z.list PyProof.Rows.boot_list) (pa_cons (pe_ty rfl Z.tuple PyProof.Rows.boot_tuple) pa_nil))) pa_nil))))), ?_⟩
  walk_at "r"
  exact ⟨sz (by decide), fun p hp => isi_lt (Kd.up k hp) upd_same (q _ (same_new hp _))⟩
/-! ### is_small -/
@[irreducible] def M400 : Int := 10 ^ 400
def smallB (t b : Int) : Bool := decide ((t.natAbs : Int) < M400) && decide (b < M400)
theorem abs_if (i : Int) : (if i < 0 then -i else i) = (i.natAbs : Int) := by split <;> omega
def sp_is_small (K : PySem.W.Frag) : Sp := fun vs H Q _ => ∃ v d t b, vs = [v] ∧ Dp K H v d ∧ ratioOf d = some (t, b) ∧ ∀ H', Same H H' → Q (.bl (smallB t b)) H'
theorem ok_is_small (Z : Zb mg) (D : C8.Def K mg "is_small" s_is_small f fd) (b : Binds K fd ["one"] []) (c_pair : CalX P w K mg base 1 "pair" (sp_pair K)) : CalX P w K mg base 2 "is_small" (sp_is_small K) := by
  refine calX D b sc_is_small (fun vs H Q E h => by obtain ⟨v, d, t, b, rfl, _⟩ := h; rfl) fun cdv A outer s H vs Q E hr h => ?_
  obtain ⟨v, d, t, b, rfl, hd, hr', q⟩ := h
  have nd := sc_is_small.nd
  refine ⟨_, (pss_cons (ps_asg (pe_x c_pair hr (by decide) tk0 rfl (pa_cons (pv 0) pa_nil)) (pg_tup rfl (pgs_cons (pg_name (i := 1) nd rfl (Or.inl rfl)) (pgs_cons (pg_name (i := 2) nd rfl (Or.inl rfl)) pgs_nil))))
    (pss_cons (ps_set (i := 3) nd rfl (Or.inl rfl) (pe_op op_pow2 (pe_op op_pow2 pe_int pe_int) pe_int))
    (pss_one (ps_ret (pe_and (pe_cmpR op_lt (pe_callB call_abs rfl Z.abs PyProof.Rows.boot_abs (pa_cons (pv 1) pa_nil)) (pv 3) (nomark _)) (pe_one (pe_cmpR op_lt (pv 2) (pv 3) (nomark _)))))))), ?_⟩
  walk_at "r"
  refine ⟨v, d, t, b, rfl, hd, hr', fun a H1 e1 s1 => ?_⟩
  walk_at "rs"
  refine ⟨_, s1, rfl, _, _, rfl, _, _, rfl, rfl, ⟨by decide, by decide +kernel⟩, ⟨by decide, by decide +kernel⟩, t, rfl, ?_⟩
  have e400 : ((10 : Int) ^ (50 : Int).toNat) ^ (8 : Int).toNat = M400 := by unfold M400; decide +kernel
  rw [e400, abs_if]
  have z := q _ e1
  unfold smallB at z
  by_cases h : (t.natAbs : Int) < M400
  · rw [if_pos (decide_eq_true h)]
    rw [decide_eq_true h] at z
    exact ⟨b, rfl, z⟩
  · rw [if_neg (fun y => h (of_decide_eq_true y))]
    rw [decide_eq_false h] at z
    exact z
/-! ### size_text -/
@[irreducible] def N400 : Nat := 10 ^ 400
theorem M_N : M400 = (N400 : Int) := by unfold M400 N400; decide +kernel
theorem N_log : N400 < 2 ^ 1900 := by unfold N400; decide +kernel
theorem small_top {t b : Int} (h : smallB t b = true) : t.natAbs < N400 := by
  unfold smallB at h
  rw [Bool.and_eq_true, decide_eq_true_eq, M_N] at h
  exact Int.ofNat_lt.mp h.1
theorem small_bot {t b : Int} (h : smallB t b = true) (h0 : 0 < b) : b.natAbs < N400 := by
  unfold smallB at h
  rw [Bool.and_eq_true, decide_eq_true_eq, decide_eq_true_eq, M_N] at h
  have := h.2
  omega
theorem numL_400 {n : Nat} (h : n < N400) : (TL.numL n).length ≤ 400 := TL.numL_len (by decide) (by unfold N400 at h; exact h)
theorem slash : (Str.ofString "/") = SX.S [47] := rfl
theorem log2_lt {n : Int} (h : n.natAbs < N400) : n.natAbs.log2 < 1920 := Nat.lt_of_lt_of_le (PySem.Flt.log2_lt_of (by decide : 0 < 1900) (Nat.lt_trans h N_log)) (by decide)
theorem ratio_pos {d : PyData} {t b : Int} (h : ratioOf d = some (t, b)) : 0 < b := by
  rcases ratio_some h with ⟨_, h⟩ | ⟨_, h, _⟩ <;> omega
def sizeL (t b : Int) : List Nat := if b = 1 then TL.numL t.natAbs else TL.numL t.natAbs ++ 47 :: TL.numL b.natAbs
def sp_size_text (K : PySem.W.Frag) : Sp := fun vs H Q _ => ∃ v d t b, vs = [v] ∧ Dp K H v d ∧ ratioOf d = some (t, b) ∧ smallB t b = true ∧ ∀ H', Same H H' → Q (.str (SX.S (sizeL t b))) H'
theorem ok_size_text (Z : Zb mg) (D : C8.Def K mg "size_text" s_size_text f fd) (b : Binds K fd ["number"] []) (c_pair : CalX P w K mg base 1 "pair" (sp_pair K)) : CalX P w K mg base 2 "size_text" (sp_size_text K) := by
  refine calX D b sc_size_text (fun vs H Q E h => by obtain ⟨v, d, t, b, rfl, _⟩ := h; rfl) fun cdv A outer s H vs Q E hr h => ?_
  obtain ⟨v, d, t, b, rfl, hd, hr', sm, q⟩ := h
  have nd := sc_size_text.nd
  refine ⟨_, (pss_cons (ps_asg (pe_x c_pair hr (by decide) tk0 rfl (pa_cons (pv 0) pa_nil)) (pg_tup rfl (pgs_cons (pg_name (i := 1) nd rfl (Or.inl rfl)) (pgs_cons (pg_name (i := 2) nd rfl (Or.inl rfl)) pgs_nil))))
    (pss_one (ps_ret (pe_ifExp (pt_cmpR op_eq (pv 2) pe_int (nomark _)) (pe_callTy call_str_int rfl Z.str PyProof.Rows.boot_str (pa_cons (pe_callB call_abs rfl Z.abs PyProof.Rows.boot_abs (pa_cons (pv 1) pa_nil)) pa_nil)) (pe_op op_add_str (pe_op op_add_str (pe_callTy call_str_int rfl Z.str PyProof.Rows.boot_str (pa_cons (pe_callB call_abs rfl Z.abs PyProof.Rows.boot_abs (pa_cons (pv 1) pa_nil)) pa_nil)) pe_str) (pe_callTy call_str_int rfl Z.str PyProof.Rows.boot_str (pa_cons (pv 2) pa_nil))))))), ?_⟩
  walk_at "r"
  refine ⟨v, d, t, b, rfl, hd, hr', fun a H1 e1 s1 => ?_⟩
  walk_at "rs"
  refine ⟨_, s1, rfl, _, _, rfl, _, _, rfl, rfl, rfl, ?_⟩
  have zq := q _ e1
  have b0 := ratio_pos hr'
  have ht := small_top sm
  have hb := small_bot sm b0
  walk_at "rs"
  rw [abs_if, Int.natAbs_natCast, SX.num_S]
  have lt : t.natAbs.log2 < 1920 := log2_lt ht
  by_cases h1 : b = 1
  · subst h1
    rw [if_pos (decide_eq_true rfl)]
    unfold sizeL at zq
    rw [if_pos rfl] at zq
    exact ⟨lt, zq⟩
  · rw [if_neg (fun y => h1 (of_decide_eq_true y))]
    have eb : b = ((b.natAbs : Nat) : Int) := by omega
    have h2 := numL_400 ht
    have h3 := numL_400 hb
    have tb : Str.ofString (toString b) = SX.S (TL.numL b.natAbs) := by
      have := SX.num_S b.natAbs
      rw [← eb] at this
      exact this
    rw [slash, SX.S_cat, tb, SX.S_cat, SX.S_len, SX.S_len, SX.S_len, SX.S_len, List.length_append]
    refine ⟨lt, ?_, log2_lt hb, ?_, ?_⟩
    · exact sz (by show _ + 1 ≤ _; omega)
    · exact sz (by show _ + 1 + _ ≤ _; omega)
    · unfold sizeL at zq
      rw [if_neg h1] at zq
      rw [List.append_assoc]
      exact zq
end
end FP
set_option maxHeartbeats 4000000
namespace FP
open PySem PySem.Spec PyProof.Rows L2
local macro_rules | `(tactic| walk_at "rd") => `(tactic| dsimp only [tVar, tC, tCmp, tIsN, tNotN, tB, tAnd, tOr, tNot, tAndV, tOrV, tNotV, tIf, tNext, tSeq, tBreak, tCont, tDrop, tRet, tRetN, tIfS, tNever, tAsg, tPar, tAug, tOp, tUn, tTest, tChain, tFld, tNil, tCons, tTup, tLst, tCB, iList, iTup, iStr, tLc, tM0, tM1, tPart, tNoPart, tSl, tBM, tCallS, tCallSD, WE, tDGet, tDIn, gName, gTup, gCons, gNil, gSub, sFld, sFldAug, rI, rI0, rU, rEq, rNe, rAdd, rSub, t2I, tYes, cx_K, cx_w, cx_prog])
local macro_rules | `(tactic| walk_at "rs") => `(tactic| (try simp only [L2.start, List.map_cons, List.map_nil, List.length_cons, List.length_nil, List.cons_append, List.nil_append, Nat.reduceAdd, Nat.reduceSub, Nat.zero_add, List.replicate, List.getElem?_cons_zero, List.getElem?_cons_succ, Option.some.injEq, exists_eq_left', exists_eq_left, V.int.injEq, V.str.injEq, V.bl.injEq, V.ref.injEq, List.set_cons_zero, List.set_cons_succ, exists_and_left, List.cons.injEq, and_true, true_and, wipe, if_true, if_false, Bool.not_true, Bool.not_false, Bool.false_eq_true, decide_true, decide_false]))
local macro_rules | `(tactic| walk_at "r") => `(tactic| (walk_at "rd"; walk_at "rs"))
local macro_rules | `(tactic| walk_at "T") => `(tactic| (rw [if_pos (by first | assumption | rfl | decide | exact decide_eq_true (by assumption) | (simp [tyOf]; done) | (simp; omega) | omega)]; walk_at "rs"))
local macro_rules | `(tactic| walk_at "F") => `(tactic| (rw [if_neg (by first | assumption | decide | (simp [tyOf]; done) | (simp; omega) | (simp; assumption) | omega)]; walk_at "rs"))
/-! ### data of bounded depth and width -/
def leaf (d : PyData) : Prop := (∀ ds, d ≠ .list ds) ∧ (∀ ds, d ≠ .tuple ds)
def fine : Nat → PyData → Prop
  | 0, d => leaf d
  | n + 1, d => leaf d ∨ ∃ ds, (d = .list ds ∨ d = .tuple ds) ∧ ds.length ≤ 100 ∧ ∀ e, e ∈ ds → fine n e
def asTup : Nat → PyData → PyData
  | 0, d => d
  | n + 1, .list ds => .tuple (ds.map (asTup n))
  | n + 1, .tuple ds => .tuple (ds.map (asTup n))
  | _ + 1, d => d

/-! ### a comprehension's list -/
theorem comp_acc {J : It} {xs : List V} {G : Hp → Prop} {H1 : Hp} {D : Addr} {Rend : Hp → Prop} (w : Walk J xs.length G (YAt xs)) (small : xs.length < sizeLine) (nD : H1 D = none) (B : V → Hp → VK → Prop) (R : Nat → V → Hp → Prop)
    (hG : ∀ H, But (· = D) (upd H1 D (.lst [])) H → G H)
    (hup : ∀ i v H H' acc, H D = some (.lst acc) → But (· = D) H H' → R i v H → R i v H')
    (hs : ∀ i x H Q, xs[i]? = some x → But (· = D) (upd H1 D (.lst [])) H → (∀ y H', Same H H' → R i y H' → Q y H') → B x H Q)
    (hd : ∀ H ys, But (· = D) (upd H1 D (.lst [])) H → H D = some (.lst ys) → ys.length = xs.length → (∀ i y, ys[i]? = some y → R i y H) → Rend H) :
    ∃ W : Nat → Nat → Hp → Prop, (∃ m, W 0 m (upd H1 D (.lst []))) ∧ ∀ i m H, W i m H →
      (J.stop i H ∧ Rend H) ∨ (J.go i H ∧ ∃ Nx : Hp → Prop, (∀ H', Nx H' → ∃ m', m' < m ∧ W (i + 1) m' H') ∧ ∀ x H', J.yld i H x H' →
        B x H' fun y H4 => ∃ acc, H4 D = some (.lst acc) ∧ acc.length < sizeLine ∧ Nx (upd H4 D (.lst (acc ++ [y])))) := by
  refine ⟨fun i m H => m = xs.length - i ∧ i ≤ xs.length ∧ But (· = D) (upd H1 D (.lst [])) H ∧ ∃ ys, H D = some (.lst ys) ∧ ys.length = i ∧ ∀ k y, ys[k]? = some y → R k y H, ⟨xs.length, by simp, Nat.zero_le _, But.refl _ _, [], upd_same, rfl, fun k y h => by simp at h⟩, ?_⟩
  rintro i m H ⟨rfl, hi, e, ys, hD, hl, hR⟩
  have q := hG H e
  by_cases hlt : i < xs.length
  · refine .inr ⟨w.goes i H hlt q, fun H' => But (· = D) (upd H1 D (.lst [])) H' ∧ ∃ ys, H' D = some (.lst ys) ∧ ys.length = i + 1 ∧ ∀ k y, ys[k]? = some y → R k y H', fun H' p' => ⟨xs.length - (i + 1), by omega, rfl, hlt, p'⟩, fun x H' y => ?_⟩
    obtain ⟨rfl, hy⟩ := w.yields i H x H' hlt q y
    refine hs i x H' _ hy e fun v H4 e4 r => ⟨ys, e4 _ _ hD, by omega, ?_, ys ++ [v], upd_same, by simp [hl], ?_⟩
    · exact e.trans ((Same.but e4).trans (But.upd rfl))
    · intro k y hk
      by_cases hk1 : k < ys.length
      · rw [List.getElem?_append_left hk1] at hk
        exact hup k y H' _ ys hD ((Same.but e4).trans (But.upd rfl)) (hR k y hk)
      · rw [List.getElem?_append_right (by omega)] at hk
        have : k = ys.length := by
          have := List.getElem?_eq_some_iff.mp hk
          obtain ⟨h, _⟩ := this
          simp at h; omega
        subst this
        simp at hk
        subst hk
        rw [hl]
        exact hup i v H4 _ ys (e4 _ _ hD) (But.upd rfl) r
  · have e1 : i = xs.length := by omega
    subst e1
    exact .inl ⟨w.stops H q, hd H ys e hD hl hR⟩
theorem DpAll.of_get {K : PySem.W.Frag} {H : Hp} : ∀ {xs : List V} {ds : List PyData}, xs.length = ds.length → (∀ (i : Nat) v d, xs[i]? = some v → ds[i]? = some d → Dp K H v d) → DpAll K H xs ds
  | [], [], _, _ => .nil
  | [], _ :: _, h, _ => by simp at h
  | _ :: _, [], h, _ => by simp at h
  | v :: vs, d :: ds, h, g => .cons (g 0 v d rfl rfl) (DpAll.of_get (by simpa using h) fun i v d h1 h2 => g (i + 1) v d (by simpa using h1) (by simpa using h2))
theorem DpAll.getV {K : PySem.W.Frag} {H : Hp} : ∀ {xs : List V} {ds : List PyData} {i : Nat} {v : V}, DpAll K H xs ds → xs[i]? = some v → ∃ d, ds[i]? = some d ∧ Dp K H v d
  | _, _, _, _, .nil, h => by simp at h
  | _, _, 0, _, .cons h _, e => by simp at e; subst e; exact ⟨_, rfl, h⟩
  | _, _, i + 1, _, .cons _ t, e => by
    obtain ⟨v, h1, h2⟩ := DpAll.getV (i := i) t (by simpa using e)
    exact ⟨v, by simpa using h1, h2⟩
/-- the list that is made: neither a tuple nor frozen -/
theorem noTupD {H : Hp} {D : Addr} {acc : List V} (h : H D = some (.lst acc)) : NoTup H (· = D) := noTup1 h (fun _ => by simp) (fun _ _ => by simp)
/-- no dict within -/
theorem Dp.nol_leaf {K : PySem.W.Frag} {H : Hp} {v : V} {d : PyData} (h : Dp K H v d) (l : leaf d) : Nol d := by
  cases h with
  | non => exact .non
  | bl b => exact .bl b
  | int i => exact .int i
  | str x => exact .str x
  | lst _ _ => exact absurd rfl (l.1 _)
  | tup _ _ => exact absurd rfl (l.2 _)
section
variable {P : Program} {w : World} {K : PySem.W.Frag} {mg : Str → Option Value} {base : Heap} {f : Addr} {fd : FuncData}
/-! ### as_tuples -/
def sp_as_tuples (K : PySem.W.Frag) (n : Nat) : Sp := fun vs H Q _ => ∃ v d, vs = [v] ∧ Dp K H v d ∧ fine n d ∧ ∀ v' H', Same H H' → Dp K H' v' (asTup n d) → Nol (asTup n d) → Q v' H'
theorem as_comp {J : It} {xs : List V} {ds : List PyData} {G : Hp → Prop} {H1 : Hp} {n : Nat} {Q : VK} {D : Addr} (w : Walk J xs.length G (YAt xs)) (nD : H1 D = none) (hG : ∀ H', But (· = D) (upd H1 D (.lst [])) H' → G H') (al : DpAll K H1 xs ds) (hw : ds.length ≤ 100) (hin : ∀ e, e ∈ ds → fine n e) (E : V → XK)
    (q : ∀ v' H', Same H1 H' → Dp K H' v' (.tuple (ds.map (asTup n))) → Nol (.tuple (ds.map (asTup n))) → Q v' H') :
    ∃ W : Nat → Nat → Hp → Prop, (∃ m, W 0 m (upd H1 D (.lst []))) ∧ ∀ i m H, W i m H →
      (J.stop i H ∧ ∃ x, (SqL K H D x ∧ ∀ (l : Addr), H l = none → Q (V.ref l) (upd H l (HO.tup x))) ∨ SqT K H D x ∧ Q (V.ref D) H) ∨ (J.go i H ∧ ∃ Nx : Hp → Prop, (∀ H', Nx H' → ∃ m', m' < m ∧ W (i + 1) m' H') ∧ ∀ x H', J.yld i H x H' →
        sp_as_tuples K n [x] H' (fun y H4 => ∃ acc, H4 D = some (.lst acc) ∧ acc.length < sizeLine ∧ Nx (upd H4 D (.lst (acc ++ [y])))) (E x)) := by
  have hl := DpAll.length al
  refine comp_acc (B := fun x H Q => sp_as_tuples K n [x] H Q (E x)) w (szL (by omega)) nD (fun i v H => ∃ d, ds[i]? = some d ∧ Dp K H v (asTup n d) ∧ Nol (asTup n d)) hG ?_ ?_ ?_
  · rintro i v H1 H2 acc hD e2 ⟨d, hd, dp, nl⟩
    exact ⟨d, hd, Dp.but (noTupD hD) e2 nl dp, nl⟩
  · intro i x H2 Q1 hx e2 q1
    obtain ⟨d, hd, dp⟩ := DpAll.getV al hx
    exact ⟨x, d, rfl, Dp.same (Same.of_but nD e2) dp, hin d (List.mem_of_getElem? hd), fun v' H' e dp' nl => q1 v' H' e ⟨d, hd, dp', nl⟩⟩
  · intro H2 ys e2 hD hl2 hR
    refine ⟨ys, .inl ⟨.inl (.inl hD), fun l nl => ?_⟩⟩
    have e3 := same_new nl (.tup ys)
    refine q (.ref l) _ ((Same.of_but nD e2).trans e3) (.tup (.inl (.inl upd_same)) (DpAll.of_get (by simp; omega) fun i v d hv hd => ?_)) (.tup fun d hd => ?_)
    · obtain ⟨d', hd', dp, nl⟩ := hR i v hv
      rw [List.getElem?_map, hd'] at hd
      cases hd
      exact Dp.same e3 dp
    · obtain ⟨e, he, rfl⟩ := List.mem_map.mp hd
      obtain ⟨i, hi⟩ := List.getElem?_of_mem he
      have hi2 : i < ys.length := by
        have := (List.getElem?_eq_some_iff.mp hi).1
        omega
      obtain ⟨d', hd', dp, nl⟩ := hR i _ (List.getElem?_eq_getElem hi2)
      rw [hi] at hd'
      cases hd'
      exact nl
theorem ok_as_tuples (Z : Zb mg) (D : C8.Def K mg "as_tuples" s_as_tuples f fd) (b : Binds K fd ["value"] []) {n : Nat} (c_as_tuples : 0 < n → CalX P w K mg base n "as_tuples" (sp_as_tuples K (n - 1))) : CalX P w K mg base (n + 1) "as_tuples" (sp_as_tuples K n) := by
  have nd := sc_as_tuples.nd
  match n, c_as_tuples with
  | 0, _ =>
    refine calX D b sc_as_tuples (fun vs H Q E h => by obtain ⟨v, d, rfl, _⟩ := h; rfl) fun cdv A outer s H vs Q E hr h => ?_
    obtain ⟨v, d, rfl, hd, fd, q⟩ := h
    refine ⟨_, pss_cons (ps_if (pt_val (pe_callB call_isiT rfl Z.isinstance PyProof.Rows.boot_isinstance (pa_cons (pv 0) (pa_cons (pe_tup (pa_cons (pe_ty rfl Z.list PyProof.Rows.boot_list) (pa_cons (pe_ty rfl Z.tuple PyProof.Rows.boot_tuple) pa_nil))) pa_nil)))) pss_never pss_nil) (pss_one (ps_ret (pv 0))), ?_⟩
    walk_at "r"
    refine ⟨sz (by decide), fun p hp => isi_lt (Kd.up (Dp.kd hd) hp) upd_same ?_⟩
    have e : (tyOf d == "list" || tyOf d == "tuple") = false := by
      cases d <;> first | rfl | exact absurd rfl (fd.1 _) | exact absurd rfl (fd.2 _)
    rw [e]
    walk_at "rs"
    exact q v _ (same_new hp _) (Dp.same (same_new hp _) hd) (Dp.nol_leaf hd fd)
  | n + 1, c =>
    have c_as_tuples : CalX P w K mg base (n + 1) "as_tuples" (sp_as_tuples K n) := c (Nat.succ_pos _)
    refine calX D b sc_as_tuples (fun vs H Q E h => by obtain ⟨v, d, rfl, _⟩ := h; rfl) fun cdv A outer s H vs Q E hr h => ?_
    obtain ⟨v, d, rfl, hd, fd, q⟩ := h
    have hk := Nat.le_refl (n + 1)
    refine ⟨_, (pss_cons (ps_if (pt_val (pe_callB call_isiT rfl Z.isinstance PyProof.Rows.boot_isinstance (pa_cons (pv 0) (pa_cons (pe_tup (pa_cons (pe_ty rfl Z.list PyProof.Rows.boot_list) (pa_cons (pe_ty rfl Z.tuple PyProof.Rows.boot_tuple) pa_nil))) pa_nil)))) (pss_one (ps_ret (pe_callTy call_tuple_of rfl Z.tuple PyProof.Rows.boot_tuple (pa_cons (pe_lc (own := [("one", 1)]) rfl nd (pi_seq (pv 0)) (blkOk_by (N := ["value", "one"]) (sc := C8.fnScope s_as_tuples) (by decide +kernel)) (fun _ _ _ _ _ => (pg_name (i := 1) nd rfl (Or.inl rfl))) (fun _ _ _ _ _ => pts_nil) (fun _ _ _ _ _ => (pe_x c_as_tuples hr hk tk0 rfl (pa_cons (pv 1) pa_nil)))) pa_nil)))) pss_nil)
    (pss_one (ps_ret (pv 0)))), ?_⟩
    walk_at "r"
    refine ⟨sz (by decide), fun p hp => isi_lt (Kd.up (Dp.kd hd) hp) upd_same ?_⟩
    have e0 := same_new hp (.tup [.ty "list", .ty "tuple"])
    have hd0 := Dp.same e0 hd
    rcases fd with fd | ⟨ds, hds, hw, hin⟩
    · have e : (tyOf d == "list" || tyOf d == "tuple") = false := by
        cases d <;> first | rfl | exact absurd rfl (fd.1 _) | exact absurd rfl (fd.2 _)
      rw [e]
      walk_at "rs"
      have e2 : asTup (n + 1) d = d := by cases d <;> first | rfl | exact absurd rfl (fd.1 _) | exact absurd rfl (fd.2 _)
      exact q v _ e0 (by rw [e2]; exact hd0) (by rw [e2]; exact Dp.nol_leaf hd fd)
    · have e : (tyOf d == "list" || tyOf d == "tuple") = true := by
        rcases hds with rfl | rfl <;> rfl
      rw [e]
      walk_at "rs"
      rcases hds with rfl | rfl
      · obtain ⟨a, xs, rfl, hq, al⟩ := Dp.lstI hd0
        refine .inl ⟨a, rfl, ⟨xs, hq⟩, fun D nD => ?_⟩
        exact as_comp walk_list nD (fun H' e => (Same.of_but nD e).seq hq) al hw hin _ fun v' H' e' d' n' => q v' H' (e0.trans e') d' n'
      · obtain ⟨a, xs, rfl, hq, al⟩ := Dp.tupI hd0
        refine .inr ⟨a, rfl, ⟨xs, hq⟩, fun D nD => ?_⟩
        exact as_comp walk_tup nD (fun H' e => SqT.same (Same.of_but nD e) hq) al hw hin _ fun v' H' e' d' n' => q v' H' (e0.trans e') d' n'
end
end FP
set_option maxHeartbeats 4000000
namespace FP
open PySem PySem.Spec PyProof.Rows L2
local macro_rules | `(tactic| walk_at "rd") => `(tactic| dsimp only [tVar, tC, tCmp, tIsN, tNotN, tB, tAnd, tOr, tNot, tAndV, tOrV, tNotV, tIf, tNext, tSeq, tBreak, tCont, tDrop, tRet, tRetN, tIfS, tNever, tAsg, tPar, tAug, tOp, tUn, tTest, tChain, tFld, tNil, tCons, tTup, tLst, tCB, iList, iTup, iStr, tLc, tM0, tM1, tPart, tNoPart, tSl, tBM, tCallS, tCallSD, WE, tDGet, tDIn, gName, gTup, gCons, gNil, gSub, sFld, sFldAug, rI, rI0, rU, rEq, rNe, rAdd, rSub, t2I, tYes, cx_K, cx_w, cx_prog])
local macro_rules | `(tactic| walk_at "rs") => `(tactic| (try simp only [L2.start, List.map_cons, List.map_nil, List.length_cons, List.length_nil, List.cons_append, List.nil_append, Nat.reduceAdd, Nat.reduceSub, Nat.zero_add, List.replicate, List.getElem?_cons_zero, List.getElem?_cons_succ, Option.some.injEq, exists_eq_left', exists_eq_left, V.int.injEq, V.str.injEq, V.bl.injEq, V.ref.injEq, List.set_cons_zero, List.set_cons_succ, exists_and_left, List.cons.injEq, and_true, true_and, wipe, if_true, if_false, Bool.not_true, Bool.not_false, Bool.false_eq_true, decide_true, decide_false]))
local macro_rules | `(tactic| walk_at "r") => `(tactic| (walk_at "rd"; walk_at "rs"))
local macro_rules | `(tactic| walk_at "T") => `(tactic| (rw [if_pos (by first | assumption | rfl | decide | exact decide_eq_true (by assumption) | (simp [tyOf]; done) | (simp; omega) | omega)]; walk_at "rs"))
local macro_rules | `(tactic| walk_at "F") => `(tactic| (rw [if_neg (by first | assumption | decide | (simp [tyOf]; done) | (simp; omega) | (simp; assumption) | omega)]; walk_at "rs"))
section
variable {P : Program} {w : World} {K : PySem.W.Frag} {mg : Str → Option Value} {base : Heap} {f : Addr} {fd : FuncData}
theorem CalX.none {x : Str} {st : Stmt} {ps : List Str} (D : C8.Def K mg x st f fd) (b : Binds K fd ps []) (k : Nat) : CalX P w K mg base k x (fun _ _ _ _ => False) :=
  ⟨f, fd, ps, ⟨fun _ _ _ _ h => h.elim, fun _ _ _ _ _ _ _ _ _ _ _ _ _ h => h.elim⟩, D.mgf, D.kp, b⟩
structure CalD (P : Program) (w : World) (K : PySem.W.Frag) (mg : Str → Option Value) (base : Heap) (k : Nat) (x : Str) (dvs : List V) (sp : Sp) : Prop where
  ex : ∃ (f : Addr) (fd : FuncData) (ps : List Str) (ds : List Value), FnOk P w K mg base (L2N.CX P w) k f fd ps sp ∧ mg x = some (.ref f) ∧ PySem.W.keepIn K (.ref f) = true ∧ Binds K fd ps [] ∧ Vals dvs ds ∧ Binds K fd ps ds
theorem CalD.cal {k : Nat} {x : Str} {dvs : List V} {sp : Sp} (c : CalD P w K mg base k x dvs sp) : CalX P w K mg base k x sp := by
  obtain ⟨f, fd, ps, ds, F, m, kp, b, _, _⟩ := c.ex
  exact ⟨f, fd, ps, F, m, kp, b⟩
end
section
variable {X : Cx} {k j : Nat} {x : Str} {dvs : List V} {sp : Sp} {W : WX} {p pos : Pos} {e : Expr} {es : List Expr} {t : TA}
theorem pe_xD (c : CalD X.prog X.w X.K X.mg X.base k x dvs sp) (hr : Room j X.A) (hk : k ≤ j) (tk : L2N.Takes X W) (hg : Gl X x) (ha : PA X (e :: es) t)
    (hdb : (x == ("__debug__" : Str)) = false := by decide) (he : starEach (e :: es) X.env = (false, eval e X.env) :: starEach es X.env := by rfl) (hpl : (backTo pos (starEach es X.env)).any (·.1) = false := by rfl) :
    PE X (.Call (.Name x p) (e :: es) [] pos) (tCallSD sp dvs (WE W) t) := by
  obtain ⟨f, fd, ps, ds, F, hm, kp, _, d, b⟩ := c.ex
  exact pe_callSD F (hr.mono hk) hg hm kp b d (L2N.passAt tk) ha hdb he hpl
end
/-- a comprehension of truth values -/
theorem comp_bl {J : It} {xs : List V} {G : Hp → Prop} {H1 : Hp} {D : Addr} {Rend : Hp → Prop} (w : Walk J xs.length G (YAt xs)) (small : xs.length < sizeLine) (nD : H1 D = none) (B : V → Hp → VK → Prop) (bs : List Bool) (hl : bs.length = xs.length)
    (hG : ∀ H, But (· = D) (upd H1 D (.lst [])) H → G H)
    (hs : ∀ (i : Nat) x b H Q, xs[i]? = some x → bs[i]? = some b → Same H1 H → (∀ H', Same H H' → Q (.bl b) H') → B x H Q)
    (hd : ∀ H, Same H1 H → H D = some (.lst (bs.map V.bl)) → Rend H) :
    ∃ W : Nat → Nat → Hp → Prop, (∃ m, W 0 m (upd H1 D (.lst []))) ∧ ∀ i m H, W i m H →
      (J.stop i H ∧ Rend H) ∨ (J.go i H ∧ ∃ Nx : Hp → Prop, (∀ H', Nx H' → ∃ m', m' < m ∧ W (i + 1) m' H') ∧ ∀ x H', J.yld i H x H' →
        B x H' fun y H4 => ∃ acc, H4 D = some (.lst acc) ∧ acc.length < sizeLine ∧ Nx (upd H4 D (.lst (acc ++ [y])))) := by
  refine comp_acc w small nD B (fun i v H => ∃ b, bs[i]? = some b ∧ v = .bl b) hG (fun i v H H' acc _ _ h => h) ?_ ?_
  · intro i x H Q hx e q
    have hi : i < bs.length := by
      have := (List.getElem?_eq_some_iff.mp hx).1
      omega
    exact hs i x bs[i] H Q hx (List.getElem?_eq_getElem hi) (Same.of_but nD e) fun H' e' => q _ H' e' ⟨_, List.getElem?_eq_getElem hi, rfl⟩
  · intro H ys e hD hl2 hR
    refine hd H (Same.of_but nD e) ?_
    rw [hD]
    congr 2
    refine List.ext_getElem? fun i => ?_
    rw [List.getElem?_map]
    by_cases hi : i < ys.length
    · obtain ⟨b, h1, h2⟩ := hR i _ (List.getElem?_eq_getElem hi)
      rw [List.getElem?_eq_getElem hi, h1, h2]; rfl
    · rw [List.getElem?_eq_none (by omega), List.getElem?_eq_none (by omega)]; rfl
/-! ### is_plain -/
def plB : Nat → PyData → Bool
  | n, d => match ratioOf d with
    | some (t, b) => smallB t b
    | none => match n, d with
      | n + 1, .list ds => ds.all (plB n)
      | n + 1, .tuple ds => ds.all (plB n)
      | _, _ => false
theorem plB_ratio {n : Nat} {d : PyData} {t b : Int} (h : ratioOf d = some (t, b)) : plB n d = smallB t b := by
  unfold plB; rw [h]
theorem plB_leaf {n : Nat} {d : PyData} (h : ratioOf d = none) (l : leaf d) : plB n d = false := by
  unfold plB; rw [h]
  cases n <;> cases d <;> first | rfl | exact absurd rfl (l.1 _) | exact absurd rfl (l.2 _)
theorem plB_seq {n : Nat} {d : PyData} {ds : List PyData} (h : ratioOf d = none) (l : d = .list ds ∨ d = .tuple ds) : plB (n + 1) d = ds.all (plB n) := by
  rcases l with rfl | rfl
  · rfl
  · rw [plB.eq_def]
    show (match ratioOf (PyData.tuple ds) with | some (t, b) => smallB t b | none => _) = _
    rw [h]
section
variable {P : Program} {w : World} {K : PySem.W.Frag} {mg : Str → Option Value} {base : Heap} {f : Addr} {fd : FuncData}
def sp_is_plain (K : PySem.W.Frag) (n : Nat) : Sp := fun vs H Q _ => ∃ v k, vs = [v, .int k] ∧ 0 ≤ k ∧ k + n ≤ 50 ∧ ((∃ d, Dp K H v d ∧ fine n d ∧ ∀ H', Same H H' → Q (.bl (plB n d)) H') ∨ (∃ t, Kd K H v t ∧ (t == "tuple") = false ∧ (t == "list") = false ∧ (t == "int") = false ∧ ∀ H', Same H H' → Q (.bl false) H'))
theorem fn_is_plain (Z : Zb mg) (D : C8.Def K mg "is_plain" s_is_plain f fd) {n : Nat} (G_MOST_DEEP : ∃ t, mg "MOST_DEEP" = some (.int 50 t)) (c_is_ratio : CalX P w K mg base 2 "is_ratio" (sp_is_ratio K)) (c_is_small : CalX P w K mg base 2 "is_small" (sp_is_small K)) (c_is_list : CalX P w K mg base 1 "is_list" (sp_is_list K)) (c_is_plain : CalX P w K mg base (n + 2) "is_plain" (fun vs H Q E => 0 < n ∧ sp_is_plain K (n - 1) vs H Q E)) : FnOk P w K mg base (L2N.CX P w) (n + 3) f fd ["value", "deep"] (sp_is_plain K n) := by
  have nd := sc_is_plain.nd
  refine fnX D.fn sc_is_plain (fun vs H Q E h => by obtain ⟨v, k, rfl, _⟩ := h; rfl) fun cdv A outer s H vs Q E hr h => ?_
  obtain ⟨v, k, rfl, k0, kn, h⟩ := h
  refine ⟨_, (pss_cons (ps_if (pt_val (pe_x c_is_ratio hr (by(omega)) tk0 rfl (pa_cons (pv 0) pa_nil))) (pss_one (ps_ret (pe_x c_is_small hr (by(omega)) tk0 rfl (pa_cons (pv 0) pa_nil)))) pss_nil)
    (pss_one (ps_ret (pe_and (pe_x c_is_list hr (by(omega)) tk0 rfl (pa_cons (pv 0) pa_nil)) (pe_and (pe_cmpR op_lt (pv 1) (pe_ci rfl G_MOST_DEEP) (nomark _)) (pe_one (pe_callB (cr_all rfl) rfl Z.all PyProof.Rows.boot_all (pa_cons (pe_lc (own := [("one", 2)]) rfl nd (pi_seq (pv 0)) (blkOk_by (N := ["value", "deep", "one"]) (sc := C8.fnScope s_is_plain) (by decide +kernel)) (fun _ _ _ _ _ => (pg_name (i := 2) nd rfl (Or.inl rfl))) (fun _ _ _ _ _ => pts_nil) (fun _ _ _ _ _ => (pe_x c_is_plain hr (by(omega)) tk0 rfl (pa_cons (pv 2) (pa_cons (pe_op op_add (pv 1) pe_int) pa_nil))))) pa_nil)))))))), ?_⟩
  walk_at "r"
  rcases h with ⟨d, hd, fd, q⟩ | ⟨t, kd, n1, n2, n3, q⟩
  · refine ⟨v, rfl, .inl ⟨d, hd, ?_⟩⟩
    cases hr' : ratioOf d with
    | some tb =>
      obtain ⟨t, b⟩ := tb
      rw [plB_ratio hr'] at q
      refine ⟨true, rfl, ?_⟩
      walk_at "T"
      exact ⟨v, d, t, b, rfl, hd, hr', q⟩
    | none =>
      refine ⟨false, rfl, ?_⟩
      walk_at "F"
      refine ⟨v, _, rfl, Dp.kd hd, fun H1 e1 => ?_⟩
      walk_at "rs"
      by_cases hl : leaf d
      · have e : (tyOf d == "list" || tyOf d == "tuple") = false := by
          cases d <;> first | rfl | exact absurd rfl (hl.1 _) | exact absurd rfl (hl.2 _)
        rw [plB_leaf hr' hl] at q
        rw [e]
        walk_at "F"
        exact q _ e1
      · obtain ⟨n, ds, rfl, hds, hw, hin⟩ : ∃ n' ds, n = n' + 1 ∧ (d = .list ds ∨ d = .tuple ds) ∧ ds.length ≤ 100 ∧ ∀ e, e ∈ ds → fine n' e := by
          cases n with
          | zero => exact absurd fd hl
          | succ n =>
            rcases fd with h | ⟨ds, h1, h2, h3⟩
            · exact absurd h hl
            · exact ⟨n, ds, rfl, h1, h2, h3⟩
        have e : (tyOf d == "list" || tyOf d == "tuple") = true := by
          rcases hds with rfl | rfl <;> rfl
        rw [plB_seq hr' hds] at q
        rw [e]
        walk_at "T"
        rw [if_pos (decide_eq_true (show k < 50 by omega))]
        have bs_ok : ∀ (xs : List V), DpAll K H xs ds → ∀ (i : Nat) x b H' (Q : VK) E, xs[i]? = some x → (ds.map (plB n))[i]? = some b → Same H1 H' → (∀ H'', Same H' H'' → Q (.bl b) H'') → (0 < n + 1 ∧ sp_is_plain K (n + 1 - 1) [x, .int (k + 1)] H' Q E) := by
          intro xs al i x b H' Q E hx hb e' q'
          obtain ⟨d, hd, dp⟩ := DpAll.getV al hx
          rw [List.getElem?_map, hd] at hb
          cases hb
          exact ⟨Nat.succ_pos _, x, _, rfl, by omega, by show k + 1 + ((n : Nat) : Int) ≤ 50; omega, .inl ⟨d, Dp.same (e1.trans e') dp, hin d (List.mem_of_getElem? hd), q'⟩⟩
        have fin : ∀ (D : Addr), H1 D = none → ∀ H', Same H1 H' → H' D = some (.lst ((ds.map (plB n)).map V.bl)) → rAll K [.ref D] H' Q := by
          intro D nD H' e' hD
          refine ⟨D, _, rfl, .inl (.inl hD), ?_⟩
          have z := q _ (e1.trans e')
          rw [List.all_map]
          exact z
        rcases hds with rfl | rfl
        · obtain ⟨a, xs, rfl, hq, al⟩ := Dp.lstI hd
          have hl := DpAll.length al
          exact .inl ⟨a, rfl, ⟨xs, e1.seq hq⟩, fun D nD => comp_bl walk_list (szL (by omega)) nD (B := fun x H Q => 0 < n + 1 ∧ sp_is_plain K (n + 1 - 1) [x, .int (k + 1)] H Q _) (ds.map (plB n)) (by simp [hl]) (fun H' e => (Same.of_but nD e).seq (e1.seq hq)) (fun i x b H' Q hx hb e' q' => bs_ok xs al i x b H' Q _ hx hb e' q') (fin D nD)⟩
        · obtain ⟨a, xs, rfl, hq, al⟩ := Dp.tupI hd
          have hl := DpAll.length al
          exact .inr ⟨a, rfl, ⟨xs, SqT.same e1 hq⟩, fun D nD => comp_bl walk_tup (szL (by omega)) nD (B := fun x H Q => 0 < n + 1 ∧ sp_is_plain K (n + 1 - 1) [x, .int (k + 1)] H Q _) (ds.map (plB n)) (by simp [hl]) (fun H' e => SqT.same (Same.of_but nD e) (SqT.same e1 hq)) (fun i x b H' Q hx hb e' q' => bs_ok xs al i x b H' Q _ hx hb e' q') (fin D nD)⟩
  · refine ⟨v, rfl, .inr ⟨t, kd, n1, ?_⟩⟩
    rw [n3]
    refine ⟨false, rfl, ?_⟩
    walk_at "F"
    refine ⟨v, _, rfl, kd, fun H1 e1 => ?_⟩
    walk_at "rs"
    rw [n1, n2]
    walk_at "F"
    exact q _ e1
/-- by induction on the nesting -/
theorem ok_is_plain (Z : Zb mg) (D : C8.Def K mg "is_plain" s_is_plain f fd) (b2 : Binds K fd ["value", "deep"] []) {ds : List Value} (hd : Vals [.int 0] ds) (b1 : Binds K fd ["value", "deep"] ds) (G_MOST_DEEP : ∃ t, mg "MOST_DEEP" = some (.int 50 t)) (c_is_ratio : CalX P w K mg base 2 "is_ratio" (sp_is_ratio K)) (c_is_small : CalX P w K mg base 2 "is_small" (sp_is_small K)) (c_is_list : CalX P w K mg base 1 "is_list" (sp_is_list K)) :
    ∀ n, CalD P w K mg base (n + 3) "is_plain" [.int 0] (sp_is_plain K n)
  | 0 => ⟨f, fd, _, ds, fn_is_plain Z D G_MOST_DEEP c_is_ratio c_is_small c_is_list ((CalX.none D b2 _).imp fun _ _ _ _ h => absurd h.1 (Nat.lt_irrefl 0)), D.mgf, D.kp, b2, hd, b1⟩
  | n + 1 => ⟨f, fd, _, ds, fn_is_plain Z D G_MOST_DEEP c_is_ratio c_is_small c_is_list ((ok_is_plain Z D b2 hd b1 G_MOST_DEEP c_is_ratio c_is_small c_is_list n).cal.imp fun _ _ _ _ h => h.2), D.mgf, D.kp, b2, hd, b1⟩
end
end FP
set_option maxHeartbeats 4000000
namespace FP
open PySem PySem.Spec PyProof.Rows L2
local macro_rules | `(tactic| walk_at "rd") => `(tactic| dsimp only [tVar, tC, tCmp, tIsN, tNotN, tB, tAnd, tOr, tNot, tAndV, tOrV, tNotV, tIf, tNext, tSeq, tBreak, tCont, tDrop, tRet, tRetN, tIfS, tNever, tAsg, tPar, tAug, tOp, tUn, tTest, tChain, tFld, tNil, tCons, tTup, tLst, tCB, iList, iTup, iStr, tLc, tM0, tM1, tPart, tNoPart, tSl, tBM, tCallS, tCallSD, WE, tDGet, tDIn, gName, gTup, gCons, gNil, gSub, sFld, sFldAug, rI, rI0, rU, rEq, rNe, rAdd, rSub, t2I, tYes, cx_K, cx_w, cx_prog])
local macro_rules | `(tactic| walk_at "rs") => `(tactic| (try simp only [L2.start, List.map_cons, List.map_nil, List.length_cons, List.length_nil, List.cons_append, List.nil_append, Nat.reduceAdd, Nat.reduceSub, Nat.zero_add, List.replicate, List.getElem?_cons_zero, List.getElem?_cons_succ, Option.some.injEq, exists_eq_left', exists_eq_left, V.int.injEq, V.str.injEq, V.bl.injEq, V.ref.injEq, List.set_cons_zero, List.set_cons_succ, exists_and_left, List.cons.injEq, and_true, true_and, wipe, if_true, if_false, Bool.not_true, Bool.not_false, Bool.false_eq_true, decide_true, decide_false]))
local macro_rules | `(tactic| walk_at "r") => `(tactic| (walk_at "rd"; walk_at "rs"))
local macro_rules | `(tactic| walk_at "T") => `(tactic| (rw [if_pos (by first | assumption | rfl | decide | exact decide_eq_true (by assumption) | (simp [tyOf]; done) | (simp; omega) | omega)]; walk_at "rs"))
local macro_rules | `(tactic| walk_at "F") => `(tactic| (rw [if_neg (by first | assumption | decide | (simp [tyOf]; done) | (simp; omega) | (simp; assumption) | omega)]; walk_at "rs"))
/-! ### the text of data -/
def textV : Nat → PyData → List Nat
  | n, d => match ratioOf d with
    | some (t, b) => (if t < 0 then [45] else []) ++ sizeL t b
    | none => match n, d with
      | n + 1, .tuple [e] => 40 :: (textV n e ++ [44, 41])
      | n + 1, .tuple ds => 40 :: (TL.joinL [44, 32] (ds.map (textV n)) ++ [41])
      | _, _ => []
/-- tuples, ratios at the leaves -/
inductive Tw : Nat → PyData → Prop
  | rat {n : Nat} {d : PyData} {t b : Int} : ratioOf d = some (t, b) → smallB t b = true → Tw n d
  | tup {n : Nat} {ds : List PyData} : ratioOf (.tuple ds) = none → (∀ d, d ∈ ds → Tw n d) → ds.length ≤ 100 → Tw (n + 1) (.tuple ds)
theorem textV_rat {n : Nat} {d : PyData} {t b : Int} (h : ratioOf d = some (t, b)) : textV n d = (if t < 0 then [45] else []) ++ sizeL t b := by
  unfold textV; rw [h]
theorem textV_one {n : Nat} {e : PyData} : textV (n + 1) (.tuple [e]) = 40 :: (textV n e ++ [44, 41]) := by
  have h : ratioOf (.tuple [e]) = none := by cases e <;> rfl
  rw [textV.eq_def]
  show (match ratioOf (.tuple [e]) with | some (t, b) => _ | none => _) = _
  rw [h]
theorem textV_tup {n : Nat} {ds : List PyData} (h : ratioOf (.tuple ds) = none) (hl : ds.length ≠ 1) : textV (n + 1) (.tuple ds) = 40 :: (TL.joinL [44, 32] (ds.map (textV n)) ++ [41]) := by
  rw [textV.eq_def]
  show (match ratioOf (.tuple ds) with | some (t, b) => _ | none => _) = _
  rw [h]
  match ds, hl with
  | [], _ => rfl
  | [_], h => exact absurd rfl h
  | _ :: _ :: _, _ => rfl
theorem joinL_len (S : List Nat) : ∀ ps : List (List Nat), (ps.map (·.length)).sum ≤ (TL.joinL S ps).length
  | [] => Nat.le_refl _
  | [p] => by show p.length + 0 ≤ _; exact Nat.le_refl _
  | p :: q :: r => by
    have h := joinL_len S (q :: r)
    show p.length + ((q :: r).map (·.length)).sum ≤ (p ++ (S ++ TL.joinL S (q :: r))).length
    rw [List.length_append, List.length_append]
    omega
theorem le_sum {p : Nat} : ∀ {ps : List Nat}, p ∈ ps → p ≤ ps.sum
  | _ :: ps, .head _ => by simp
  | _ :: ps, .tail _ h => by have := le_sum h; simp; omega
theorem l_open : (Str.ofString "(") = SX.S [40] := rfl
theorem l_close : (Str.ofString ")") = SX.S [41] := rfl
theorem l_close1 : (Str.ofString ",)") = SX.S [44, 41] := rfl
theorem l_cs : (Str.ofString ", ") = SX.S [44, 32] := rfl
theorem l_minus : (Str.ofString "-") = SX.S [45] := rfl
theorem l_empty : (Str.ofString "") = SX.S [] := rfl
theorem S_cat (a b : List Nat) : SX.S a ++ SX.S b = SX.S (a ++ b) := SX.S_cat a b
theorem S_len (a : List Nat) : (SX.S a).length = a.length := SX.S_len a
theorem sizeL_len {t b : Int} (h : smallB t b = true) (b0 : 0 < b) : (sizeL t b).length ≤ 801 := by
  have h1 := numL_400 (small_top h)
  have h2 := numL_400 (small_bot h b0)
  unfold sizeL
  split
  · omega
  · rw [List.length_append, List.length_cons]; omega
section
variable {P : Program} {w : World} {K : PySem.W.Frag} {mg : Str → Option Value} {base : Heap} {f : Addr} {fd : FuncData}
def sp_text_of_value (K : PySem.W.Frag) (n : Nat) : Sp := fun vs H Q _ => ∃ v d, vs = [v] ∧ Dp K H v d ∧ Tw n d ∧ (textV n d).length ≤ 100000 ∧ ∀ H', Same H H' → Q (.str (SX.S (textV n d))) H'
theorem fn_text_of_value (Z : Zb mg) (D : C8.Def K mg "text_of_value" s_text_of_value f fd) (b : Binds K fd ["value"] []) {n : Nat} (c_is_ratio : CalX P w K mg base 2 "is_ratio" (sp_is_ratio K)) (c_sign_of : CalX P w K mg base 1 "sign_of" (sp_sign_of K)) (c_size_text : CalX P w K mg base 2 "size_text" (sp_size_text K)) (c_text_of_value : CalX P w K mg base (n + 2) "text_of_value" (fun vs H Q E => 0 < n ∧ sp_text_of_value K (n - 1) vs H Q E)) : CalX P w K mg base (n + 3) "text_of_value" (sp_text_of_value K n) := by
  have nd := sc_text_of_value.nd
  refine calX D b sc_text_of_value (fun vs H Q E h => by obtain ⟨v, d, rfl, _⟩ := h; rfl) fun cdv A outer s H vs Q E hr h => ?_
  obtain ⟨v, d, rfl, hd, tw, hlen, q⟩ := h
  refine ⟨_, (pss_cons (ps_if (pt_val (pe_x c_is_ratio hr (by(omega)) tk0 rfl (pa_cons (pv 0) pa_nil))) (pss_one (ps_ret (pe_op op_add_str (pe_ifExp (pt_cmpR op_lt (pe_x c_sign_of hr (by(omega)) tk0 rfl (pa_cons (pv 0) pa_nil)) pe_int (nomark _)) pe_str pe_str) (pe_x c_size_text hr (by(omega)) tk0 rfl (pa_cons (pv 0) pa_nil))))) pss_nil)
    (pss_cons (ps_if (pt_cmpR op_eq (pe_callB call_len rfl Z.len PySem.boot_len (pa_cons (pv 0) pa_nil)) pe_int (nomark _)) (pss_one (ps_ret (pe_op op_add_str (pe_op op_add_str pe_str (pe_x c_text_of_value hr (by(omega)) tk0 rfl (pa_cons (pe_ix ix_tup (pv 0) pe_int (fun _ _ => rfl)) pa_nil))) pe_str))) pss_nil)
    (pss_one (ps_ret (pe_op op_add_str (pe_op op_add_str pe_str (pe_join pe_str (pe_lc (own := [("one", 1)]) rfl nd (pi_seq (pv 0)) (blkOk_by (N := ["value", "one"]) (sc := C8.fnScope s_text_of_value) (by decide +kernel)) (fun _ _ _ _ _ => (pg_name (i := 1) nd rfl (Or.inl rfl))) (fun _ _ _ _ _ => pts_nil) (fun _ _ _ _ _ => (pe_x c_text_of_value hr (by(omega)) tk0 rfl (pa_cons (pv 1) pa_nil)))))) pe_str))))), ?_⟩
  walk_at "r"
  refine ⟨v, rfl, .inl ⟨d, hd, ?_⟩⟩
  cases tw with
  | @rat _ _ t b hr' sm =>
    rw [hr']
    rw [textV_rat hr'] at q hlen
    refine ⟨true, rfl, ?_⟩
    walk_at "T"
    refine ⟨v, d, t, b, rfl, hd, hr', ?_⟩
    walk_at "rs"
    have hs := sizeL_len sm (ratio_pos hr')
    by_cases h0 : t < 0
    · rw [if_pos h0] at q
      have e : sgn t < 0 := by unfold sgn; rw [if_neg (by omega), if_pos h0]; decide
      rw [if_pos (decide_eq_true e)]
      refine ⟨v, d, t, b, rfl, hd, hr', sm, fun H' e' => ⟨_, rfl, ?_, ?_⟩⟩
      · exact sz (by show 1 + (SX.S (sizeL t b)).length ≤ _; rw [S_len]; omega)
      · rw [l_minus, S_cat]; exact q _ e'
    · rw [if_neg h0] at q
      have e : ¬ sgn t < 0 := by unfold sgn; split; decide; omega
      rw [if_neg (fun z => e (of_decide_eq_true z))]
      refine ⟨v, d, t, b, rfl, hd, hr', sm, fun H' e' => ⟨_, rfl, ?_, ?_⟩⟩
      · exact sz (by show 0 + (SX.S (sizeL t b)).length ≤ _; rw [S_len]; omega)
      · rw [l_empty, S_cat]; exact q _ e'
  | @tup n ds nr hin hw =>
    rw [nr]
    refine ⟨false, rfl, ?_⟩
    walk_at "F"
    obtain ⟨a, xs, rfl, hq, al⟩ := Dp.tupI hd
    have hl := DpAll.length al
    refine lenT hq ?_
    walk_at "rs"
    refine ⟨rfl, ?_⟩
    by_cases h1 : ds.length = 1
    · obtain ⟨e, rfl⟩ := List.length_eq_one_iff.mp h1
      cases al with
      | @cons x _ _ _ hx al2 =>
        cases al2
        walk_at "T"
        rw [textV_one] at q hlen
        have hlen2 : (textV n e).length ≤ 100000 := by simp at hlen; omega
        refine ixT hq rfl ⟨Nat.succ_pos _, x, e, rfl, hx, hin e (List.mem_singleton.mpr rfl), hlen2, fun H' e' => ⟨_, rfl, ?_, ?_, ?_⟩⟩
        · exact sz (by show 1 + (SX.S (textV n e)).length ≤ _; rw [S_len]; omega)
        · rw [l_open, S_cat]; exact sz (by show (SX.S _).length + 2 ≤ _; rw [S_len]; show (textV n e).length + 1 + 2 ≤ _; omega)
        · rw [l_open, l_close1, S_cat, S_cat]; exact q _ e'
    · rw [if_neg (fun z => h1 (by have := of_decide_eq_true z; omega))]
      rw [textV_tup nr h1] at q hlen
      have hsub := joinL_len [44, 32] (ds.map (textV n))
      have hlen2 : (TL.joinL [44, 32] (ds.map (textV n))).length ≤ 100000 := by
        simp only [List.length_cons, List.length_append] at hlen; omega
      refine ⟨⟨_, rfl⟩, .inr ⟨⟨xs, hq⟩, fun D nD => ?_⟩⟩
      refine comp_acc walk_tup (szL (by omega)) nD (B := fun x H Q => 0 < n + 1 ∧ sp_text_of_value K (n + 1 - 1) [x] H Q _) (fun i v _ => ∃ d, ds[i]? = some d ∧ v = .str (SX.S (textV n d))) (fun H' e => SqT.same (Same.of_but nD e) hq) (fun i v H H' acc _ _ h => h) ?_ ?_
      · intro i x H2 Q1 hx e2 q1
        obtain ⟨d, hd, dp⟩ := DpAll.getV al hx
        have hm := List.mem_of_getElem? hd
        refine ⟨Nat.succ_pos _, x, d, rfl, Dp.same (Same.of_but nD e2) dp, hin d hm, ?_, fun H' e' => q1 _ H' e' ⟨d, hd, rfl⟩⟩
        have := le_sum (List.mem_map_of_mem (f := (·.length)) (List.mem_map_of_mem (f := textV n) hm))
        show (textV n d).length ≤ _
        omega
      · intro H2 ys e2 hD hl2 hR
        have eys : ys = ((ds.map (textV n)).map SX.S).map V.str := by
          refine List.ext_getElem? fun i => ?_
          rw [List.getElem?_map, List.getElem?_map, List.getElem?_map]
          by_cases hi : i < ys.length
          · obtain ⟨d, h1, h2⟩ := hR i _ (List.getElem?_eq_getElem hi)
            rw [List.getElem?_eq_getElem hi, h1, h2]; rfl
          · rw [List.getElem?_eq_none (by omega), List.getElem?_eq_none (by omega)]; rfl
        rw [eys] at hD
        refine ⟨(ds.map (textV n)).map SX.S, .inl (.inl (.inl hD)), ?_, ?_⟩
        · rw [SX.lens]
          have : (Str.ofString ", ").length = 2 := rfl
          rw [this, List.length_map, List.length_map]
          omega
        · rw [l_cs, SX.join_S, l_open, l_close, S_cat, S_cat]
          refine ⟨sz ?_, sz ?_, q _ (Same.of_but nD e2)⟩
          · show 1 + (SX.S _).length ≤ _; rw [S_len]; omega
          · show (SX.S _).length + 1 ≤ _; rw [S_len]; simp only [List.length_append]; show 1 + _ + 1 ≤ _; omega
theorem ok_text_of_value (Z : Zb mg) (D : C8.Def K mg "text_of_value" s_text_of_value f fd) (b : Binds K fd ["value"] []) (c_is_ratio : CalX P w K mg base 2 "is_ratio" (sp_is_ratio K)) (c_sign_of : CalX P w K mg base 1 "sign_of" (sp_sign_of K)) (c_size_text : CalX P w K mg base 2 "size_text" (sp_size_text K)) :
    ∀ n, CalX P w K mg base (n + 3) "text_of_value" (sp_text_of_value K n)
  | 0 => fn_text_of_value Z D b c_is_ratio c_sign_of c_size_text ((CalX.none D b _).imp fun _ _ _ _ h => absurd h.1 (Nat.lt_irrefl 0))
  | n + 1 => fn_text_of_value Z D b c_is_ratio c_sign_of c_size_text ((ok_text_of_value Z D b c_is_ratio c_sign_of c_size_text n).imp fun _ _ _ _ h => h.2)
end
end FP
set_option maxHeartbeats 4000000
namespace FP
open PySem PySem.Spec PyProof.Rows L2
local macro_rules | `(tactic| walk_at "rd") => `(tactic| dsimp only [tVar, tC, tCmp, tIsN, tNotN, tB, tAnd, tOr, tNot, tAndV, tOrV, tNotV, tIf, tNext, tSeq, tBreak, tCont, tDrop, tRet, tRetN, tIfS, tNever, tAsg, tPar, tAug, tOp, tUn, tTest, tChain, tFld, tNil, tCons, tTup, tLst, tCB, iList, iTup, iStr, tLc, tM0, tM1, tPart, tNoPart, tSl, tBM, tCallS, tCallSD, WE, tDGet, tDIn, gName, gTup, gCons, gNil, gSub, sFld, sFldAug, rI, rI0, rU, rEq, rNe, rAdd, rSub, t2I, tYes, cx_K, cx_w, cx_prog])
local macro_rules | `(tactic| walk_at "rs") => `(tactic| (try simp only [L2.start, List.map_cons, List.map_nil, List.length_cons, List.length_nil, List.cons_append, List.nil_append, Nat.reduceAdd, Nat.reduceSub, Nat.zero_add, List.replicate, List.getElem?_cons_zero, List.getElem?_cons_succ, Option.some.injEq, exists_eq_left', exists_eq_left, V.int.injEq, V.str.injEq, V.bl.injEq, V.ref.injEq, List.set_cons_zero, List.set_cons_succ, exists_and_left, List.cons.injEq, and_true, true_and, wipe, if_true, if_false, Bool.not_true, Bool.not_false, Bool.false_eq_true, decide_true, decide_false]))
local macro_rules | `(tactic| walk_at "r") => `(tactic| (walk_at "rd"; walk_at "rs"))
local macro_rules | `(tactic| walk_at "T") => `(tactic| (rw [if_pos (by first | assumption | rfl | decide | exact decide_eq_true (by assumption) | (simp [tyOf]; done) | (simp; omega) | omega)]; walk_at "rs"))
local macro_rules | `(tactic| walk_at "F") => `(tactic| (rw [if_neg (by first | assumption | decide | (simp [tyOf]; done) | (simp; omega) | (simp; assumption) | omega)]; walk_at "rs"))
section
variable {P : Program} {w : World} {K : PySem.W.Frag} {mg : Str → Option Value} {base : Heap} {N : List Str} {qual : Str} {sc : Scope} {f : Addr} {cd : Value} {A : Around} {outer : List Env} {s : Shared} {H : Hp} {E : XK}
theorem tkw : L2N.Takes (cxOf (L2N.CX P w) P w K mg base N qual sc f cd A outer s H E) (fun cls d _ H => E cls d H) := tk_of rfl rfl rfl rfl
end
section
variable {P : Program} {w : World} {K : PySem.W.Frag} {mg : Str → Option Value} {base : Heap} {f : Addr} {fd : FuncData}
/-- no data to be written: no whole number, no list, no tuple -/
def Odd (K : PySem.W.Frag) (H : Hp) (v : V) : Prop := ∃ t, Kd K H v t ∧ (t == "tuple") = false ∧ (t == "list") = false ∧ (t == "int") = false
def sp_value_text (K : PySem.W.Frag) (C : Addr) (n : Nat) : Sp := fun vs H Q E => ∃ v, vs = [v] ∧
  ((∃ d, Dp K H v d ∧ fine n d ∧ plB n d = true ∧ Tw n (asTup n d) ∧ (textV n (asTup n d)).length ≤ 100000 ∧ ∀ H', Same H H' → Q (.str (SX.S (textV n (asTup n d)))) H') ∨
   (((∃ d, Dp K H v d ∧ fine n d ∧ plB n d = false) ∨ Odd K H v) ∧ ∀ H' dd, Same H H' → H' dd = some (.xd [("row", v), ("what", .str "value")]) → E (.ref C) (some dd) H'))
theorem ok_value_text (D : C8.Def K mg "value_text" s_value_text f fd) (b : Binds K fd ["value"] []) {n : Nat} (hn : n ≤ 50) {C : Addr} (R_BadRow : ErrX P w K mg base "BadRow" C "what" "row") (c_is_plain : CalD P w K mg base (n + 3) "is_plain" [.int 0] (sp_is_plain K n)) (c_as_tuples : CalX P w K mg base (n + 1) "as_tuples" (sp_as_tuples K n)) (c_text_of_value : CalX P w K mg base (n + 3) "text_of_value" (sp_text_of_value K n)) : CalX P w K mg base (n + 4) "value_text" (sp_value_text K C n) := by
  refine calX D b sc_value_text (fun vs H Q E h => by obtain ⟨v, rfl, _⟩ := h; rfl) fun cdv A outer s H vs Q E hr h => ?_
  obtain ⟨v, rfl, h⟩ := h
  have hk := Nat.le_refl (n + 3)
  refine ⟨_, pss_cons (ps_if (pt_not (pt_val (pe_xD c_is_plain hr hk tkw rfl (pa_cons (pv 0) pa_nil)))) (pss_one (ps_raiseX R_BadRow rfl hr (by omega) tkw rfl pe_str (pv 0))) pss_nil)
    (pss_one (ps_ret (pe_x c_text_of_value hr hk tkw rfl (pa_cons (pe_x c_as_tuples hr (by omega) tkw rfl (pa_cons (pv 0) pa_nil)) pa_nil)))), ?_⟩
  walk_at "r"
  rcases h with ⟨d, hd, fd, pl, tw, hl, q⟩ | ⟨h, q⟩
  · refine ⟨v, 0, rfl, by decide, by omega, .inl ⟨d, hd, fd, fun H1 e1 => ?_⟩⟩
    rw [pl]
    walk_at "rs"
    refine ⟨v, d, rfl, Dp.same e1 hd, fd, fun v' H' e' hd' nl => ⟨v', _, rfl, hd', tw, hl, fun H2 e2 => q _ ((e1.trans e').trans e2)⟩⟩
  · have fin : ∀ H1, Same H H1 → ∀ dd, H1 dd = none → E (.ref C) (some dd) (upd H1 dd (.xd [("row", v), ("what", .str "value")])) := fun H1 e1 dd nd => q _ _ (e1.trans (same_new nd _)) upd_same
    refine ⟨v, 0, rfl, by decide, by omega, ?_⟩
    rcases h with ⟨d, hd, fd, pl⟩ | ⟨t, k, n1, n2, n3⟩
    · refine .inl ⟨d, hd, fd, fun H1 e1 => ?_⟩
      rw [pl]
      refine ⟨false, rfl, ?_⟩
      walk_at "rs"
      exact fin H1 e1
    · refine .inr ⟨t, k, n1, n2, n3, fun H1 e1 => ?_⟩
      refine ⟨false, rfl, ?_⟩
      walk_at "rs"
      exact fin H1 e1
end
end FP
set_option maxHeartbeats 4000000
namespace FP
open PySem PySem.Spec PyProof.Rows L2
local macro_rules | `(tactic| walk_at "rd") => `(tactic| dsimp only [tVar, tC, tCmp, tIsN, tNotN, tB, tAnd, tOr, tNot, tAndV, tOrV, tNotV, tIf, tNext, tSeq, tBreak, tCont, tDrop, tRet, tRetN, tIfS, tNever, tAsg, tPar, tAug, tOp, tUn, tTest, tChain, tFld, tNil, tCons, tTup, tLst, tCB, iList, iTup, iStr, tLc, tM0, tM1, tPart, tNoPart, tSl, tBM, tCallS, tCallSD, WE, tDGet, tDIn, gName, gTup, gCons, gNil, gSub, sFld, sFldAug, rI, rI0, rU, rEq, rNe, rAdd, rSub, t2I, tYes, cx_K, cx_w, cx_prog])
local macro_rules | `(tactic| walk_at "rs") => `(tactic| (try simp only [L2.start, List.map_cons, List.map_nil, List.length_cons, List.length_nil, List.cons_append, List.nil_append, Nat.reduceAdd, Nat.reduceSub, Nat.zero_add, List.replicate, List.getElem?_cons_zero, List.getElem?_cons_succ, Option.some.injEq, exists_eq_left', exists_eq_left, V.int.injEq, V.str.injEq, V.bl.injEq, V.ref.injEq, List.set_cons_zero, List.set_cons_succ, exists_and_left, List.cons.injEq, and_true, true_and, wipe, if_true, if_false, Bool.not_true, Bool.not_false, Bool.false_eq_true, decide_true, decide_false]))
local macro_rules | `(tactic| walk_at "r") => `(tactic| (walk_at "rd"; walk_at "rs"))
local macro_rules | `(tactic| walk_at "T") => `(tactic| (rw [if_pos (by first | assumption | rfl | decide | exact decide_eq_true (by assumption) | (simp [tyOf]; done) | (simp; omega) | omega)]; walk_at "rs"))
local macro_rules | `(tactic| walk_at "F") => `(tactic| (rw [if_neg (by first | assumption | decide | (simp [tyOf]; done) | (simp; omega) | (simp; assumption) | omega)]; walk_at "rs"))
theorem ixS {l : List Nat} {i : Int} {c : Nat} {H : Hp} {Q : VK} (hl : l.length ≤ 1000000) (e : atI l i = some c) (q : Q (.str (SX.S [c])) H) : rIxS (.str (SX.S l)) (.int i) H Q :=
  ⟨SX.S l, i, c, rfl, rfl, sz (by rw [S_len]; exact hl), e, q⟩
theorem inS {l : List Nat} {c : Nat} {H : Hp} {Q : VK} (q : Q (.bl (decide (c ∈ l))) H) : rInS (.str (SX.S [c])) (.str (SX.S l)) H Q := ⟨c, SX.S l, rfl, rfl, q⟩
theorem lenS {K : PySem.W.Frag} {l : List Nat} {H : Hp} {R : Nat → Prop} (hl : l.length ≤ 1000000) (q : R l.length) : ∃ n, LenV K (.str (SX.S l)) H n ∧ R n := ⟨l.length, ⟨sz (by rw [S_len]; exact hl), (S_len l).symm⟩, q⟩
section
variable {P : Program} {w : World} {K : PySem.W.Frag} {mg : Str → Option Value} {base : Heap} {f : Addr} {fd : FuncData}
/-! ### run_of -/
def sp_run_of : Sp := fun vs H Q _ => ∃ (p wd r F : List Nat), vs = [.str (SX.S (p ++ (wd ++ r))), .int (p.length : Nat), .str (SX.S F)] ∧ (p ++ (wd ++ r)).length ≤ 500000 ∧ (∀ c, c ∈ wd → c ∈ F) ∧ (∀ c, r.head? = some c → c ∉ F) ∧ Q (.int ((p.length + wd.length : Nat) : Int)) H
theorem ok_run_of (Z : Zb mg) (D : C8.Def K mg "run_of" s_run_of f fd) (b : Binds K fd ["text", "at", "some"] []) : CalX P w K mg base 1 "run_of" sp_run_of := by
  have nd := sc_run_of.nd
  refine calX D b sc_run_of (fun vs H Q E h => by obtain ⟨p, wd, r, F, rfl, _⟩ := h; rfl) fun cdv A outer s H vs Q E hr h => ?_
  obtain ⟨p, wd, r, F, rfl, hlen, h1, h2, q⟩ := h
  refine ⟨_, (pss_cons (ps_while (L2.passes_of rfl) (PW.pt (pw_and (pt_cmpR op_lt (pv 1) (pe_callB call_len rfl Z.len PySem.boot_len (pa_cons (pv 0) pa_nil)) (nomark _)) (pw_and1 (pt_cmpR op_inS (pe_ix ix_str (pv 0) (pv 1) (fun _ _ => rfl)) (pv 2) (by with_unfolding_all rfl))))) (pss_one (ps_aug (i := 1) nd rfl (Or.inl rfl) pe_int ip_add)))
    (pss_one (ps_ret (pv 1)))), ?_⟩
  walk_at "r"
  refine ⟨fun m σ H' => ∃ k, m = wd.length - k ∧ k ≤ wd.length ∧ H' = H ∧ σ = [some (.str (SX.S (p ++ (wd ++ r)))), some (.int ((p.length + k : Nat) : Int)), some (.str (SX.S F))], ⟨wd.length, 0, rfl, Nat.zero_le _, rfl, rfl⟩, ?_⟩
  rintro m σ H' ⟨k, rfl, hk, rfl, rfl⟩
  walk_at "r"
  refine lenS (by omega) ?_
  have hl : (p ++ (wd ++ r)).length = p.length + wd.length + r.length := by simp [Nat.add_assoc]
  by_cases hk2 : k < wd.length
  · rw [if_pos (decide_eq_true (by omega))]
    have hc : (p ++ (wd ++ r))[p.length + k]? = some wd[k] := by
      rw [List.getElem?_append_right (by omega), Nat.add_sub_cancel_left, List.getElem?_append_left hk2, List.getElem?_eq_getElem hk2]
    refine ixS (by omega) (atI_nat hc) (inS ?_)
    rw [decide_eq_true (h1 _ (List.getElem_mem hk2))]
    refine ⟨true, rfl, ?_⟩
    walk_at "T"
    refine ⟨_, fun _ _ h => h, ?_⟩
    refine ⟨_, _, rfl, rfl, wd.length - (k + 1), by omega, k + 1, rfl, hk2, rfl, rfl⟩
  · have ek : k = wd.length := by omega
    subst ek
    cases r with
    | nil =>
      have hl2 : ([] : List Nat).length = 0 := rfl
      rw [if_neg (fun z => by have := of_decide_eq_true z; omega)]
      exact q
    | cons c r =>
      have hl2 : (c :: r).length = r.length + 1 := rfl
      rw [if_pos (decide_eq_true (by omega))]
      have hc : (p ++ (wd ++ c :: r))[p.length + wd.length]? = some c := by
        rw [List.getElem?_append_right (by omega), Nat.add_sub_cancel_left, List.getElem?_append_right (Nat.le_refl _)]; simp
      refine ixS (by omega) (atI_nat hc) (inS ?_)
      rw [decide_eq_false (h2 c rfl)]
      refine ⟨false, rfl, ?_⟩
      walk_at "F"
      exact q
/-! ### tokens_of -/
def figL : List Nat := [48, 49, 50, 51, 52, 53, 54, 55, 56, 57]
def letL : List Nat := [97, 98, 99, 100, 101, 102, 103, 104, 105, 106, 107, 108, 109, 110, 111, 112, 113, 114, 115, 116, 117, 118, 119, 120, 121, 122]
theorem fig_S : (Str.ofString "0123456789") = SX.S figL := rfl
theorem let_S : (Str.ofString "abcdefghijklmnopqrstuvwxyz") = SX.S letL := rfl
/-- a text's tokens -/
inductive Toks : List Nat → List (List Nat) → Prop
  | nil : Toks [] []
  | sp {r : List Nat} {ts : List (List Nat)} : Toks r ts → Toks (32 :: r) ts
  | one {c : Nat} {r : List Nat} {ts : List (List Nat)} : c ≠ 32 → c ∉ figL → c ∉ letL → Toks r ts → Toks (c :: r) ([c] :: ts)
  | fig {c : Nat} {w r : List Nat} {ts : List (List Nat)} : (∀ x, x ∈ c :: w → x ∈ figL) → (∀ x, r.head? = some x → x ∉ figL) → Toks r ts → Toks (c :: (w ++ r)) ((c :: w) :: ts)
  | ltr {c : Nat} {w r : List Nat} {ts : List (List Nat)} : (∀ x, x ∈ c :: w → x ∈ letL) → (∀ x, r.head? = some x → x ∉ letL) → Toks r ts → Toks (c :: (w ++ r)) ((c :: w) :: ts)
theorem Toks.len : ∀ {t : List Nat} {ts : List (List Nat)}, Toks t ts → ts.length ≤ t.length
  | _, _, .nil => Nat.le_refl _
  | _, _, .sp h => Nat.le_succ_of_le h.len
  | _, _, .one _ _ _ h => Nat.succ_le_succ h.len
  | _, _, .fig _ _ h => by have := h.len; simp; omega
  | _, _, .ltr _ _ h => by have := h.len; simp; omega
def sp_tokens_of (K : PySem.W.Frag) (C : Addr) : Sp := fun vs H Q E => (∃ t ts, vs = [.str (SX.S t)] ∧ t.length ≤ 100000 ∧ Toks t ts ∧ ∀ D H', Same H H' → H' D = some (.lst (ts.map fun x => V.str (SX.S x))) → Q (.ref D) H') ∨
  (∃ v k, vs = [v] ∧ Kd K H v k ∧ (k == "str") = false ∧ ∀ H' dd, Same H H' → H' dd = some (.xd [("word", .int 0), ("line", .int 0)]) → E (.ref C) (some dd) H')
theorem eqSd {a b : List Nat} : decide (V.str (SX.S a) = V.str (SX.S b)) = decide (a = b) := by
  by_cases h : a = b
  · subst h; rw [decide_eq_true rfl, decide_eq_true rfl]
  · rw [decide_eq_false h, decide_eq_false]
    intro z; injection z with z
    exact h (SX.S_inj z)
theorem cut_S (p w r : List Nat) {j : Int} (hj : j = ((p.length + w.length : Nat) : Int)) : cutS (SX.S (p ++ (w ++ r))) (some ((p.length : Nat) : Int)) (some j) = SX.S w := by
  subst hj
  unfold cutS
  rw [HT.sIx_nat, HT.sIx_nat, S_len]
  have hl : (p ++ (w ++ r)).length = p.length + w.length + r.length := by simp [Nat.add_assoc]
  rw [Nat.min_eq_left (by omega), Nat.min_eq_left (by omega), Nat.add_sub_cancel_left]
  show (⟨(((p ++ (w ++ r)).drop p.length).take w.length).toArray⟩ : Str) = _
  rw [List.drop_left, List.take_left]
theorem l_blank : (Str.ofString " ") = SX.S [32] := rfl
theorem at_here (p : List Nat) (c : Nat) (r : List Nat) : atI (p ++ c :: r) ((p.length : Nat) : Int) = some c := atI_nat (by simp)
theorem let_fig {c : Nat} : c ∈ letL → c ∉ figL := by
  intro h z
  have h2 : ∀ c ∈ letL, c ∉ figL := by decide
  exact h2 c h z
theorem tyL {K : PySem.W.Frag} {H : Hp} {D : Addr} {xs : List V} (h : H D = some (.lst xs)) : tyV K "list" (.ref D) H := .inl ⟨rfl, xs, .inl (.inl h)⟩
def tkI (t : List Nat) (ts : List (List Nat)) (D : Addr) (H : Hp) (m : Nat) (σ : L2.St) (H' : Hp) : Prop := ∃ (p rest : List Nat) (ts1 ts2 : List (List Nat)) (e : Option V), m = rest.length ∧ t = p ++ rest ∧ Toks rest ts2 ∧ ts = ts1 ++ ts2 ∧ But (· = D) (upd H D (.lst [])) H' ∧ H' D = some (.lst (ts1.map fun x => V.str (SX.S x))) ∧ σ = [some (.str (SX.S t)), some (.ref D), some (.int (p.length : Nat)), e]
theorem ok_tokens_of (Z : Zb mg) (D : C8.Def K mg "tokens_of" s_tokens_of f fd) (b : Binds K fd ["text"] []) {C : Addr} (R_BadText : ErrX P w K mg base "BadText" C "line" "word") (G_FIGURES : ∃ t, mg "FIGURES" = some (.str "0123456789" t)) (G_LETTERS : ∃ t, mg "LETTERS" = some (.str "abcdefghijklmnopqrstuvwxyz" t)) (c_run_of : CalX P w K mg base 1 "run_of" sp_run_of) : CalX P w K mg base 3 "tokens_of" (sp_tokens_of K C) := by
  have nd := sc_tokens_of.nd
  refine calX D b sc_tokens_of (fun vs H Q E h => by rcases h with ⟨t, ts, rfl, _⟩ | ⟨v, k, rfl, _⟩ <;> rfl) fun cdv A outer s H vs Q E hr h => ?_
  refine ⟨_, (pss_cons (ps_if (pt_not (pt_val (pe_callB call_isi rfl Z.isinstance PyProof.Rows.boot_isinstance (pa_cons (pv 0) (pa_cons (pe_ty rfl Z.str PyProof.Rows.boot_str) pa_nil))))) (pss_one (ps_raiseX R_BadText rfl hr (by decide) tkw rfl pe_int pe_int)) pss_nil)
    (pss_cons (ps_par (i := 1) (j := 2) rfl nd rfl rfl (by decide) rfl rfl (pa_cons (pe_lst pa_nil) (pa_cons pe_int pa_nil)) (by rfl))
    (pss_cons (ps_while (L2.passes_of rfl) (pt_cmpR op_lt (pv 2) (pe_callB call_len rfl Z.len PySem.boot_len (pa_cons (pv 0) pa_nil)) (nomark _)) (pss_one (ps_if (pt_cmpR op_eq (pe_ix ix_str (pv 0) (pv 2) (fun _ _ => rfl)) pe_str (nomark _)) (pss_one (ps_aug (i := 2) nd rfl (Or.inl rfl) pe_int ip_add)) (pss_cons (ps_set (i := 3) nd rfl (Or.inl rfl) (pe_op op_add (pv 2) pe_int))
    (pss_cons (ps_if (pt_cmpR op_inS (pe_ix ix_str (pv 0) (pv 2) (fun _ _ => rfl)) (pe_cs rfl G_FIGURES) (by with_unfolding_all rfl)) (pss_one (ps_set (i := 3) nd rfl (Or.inl rfl) (pe_x c_run_of hr (by decide) tk0 rfl (pa_cons (pv 0) (pa_cons (pv 2) (pa_cons (pe_cs rfl G_FIGURES) pa_nil)))))) (pss_one (ps_if (pt_cmpR op_inS (pe_ix ix_str (pv 0) (pv 2) (fun _ _ => rfl)) (pe_cs rfl G_LETTERS) (by with_unfolding_all rfl)) (pss_one (ps_set (i := 3) nd rfl (Or.inl rfl) (pe_x c_run_of hr (by decide) tk0 rfl (pa_cons (pv 0) (pa_cons (pv 2) (pa_cons (pe_cs rfl G_LETTERS) pa_nil)))))) pss_nil)))
    (pss_cons (ps_expr (pe_bm PySem.F.plainAttrs_list PySem.F.slot_list_append PySem.F.type_list_append mt_append (pv 1) (pa_cons (pe_slice sl_str (pv 0) (po_some (pv 2)) (po_some (pv 3))) pa_nil)))
    (pss_one (ps_set (i := 2) nd rfl (Or.inl rfl) (pv 3)))))))))
    (pss_one (ps_ret (pv 1)))))), ?_⟩
  walk_at "r"
  rcases h with ⟨t, ts, rfl, hlen, tk, q⟩ | ⟨v, k, rfl, kd, nk, q⟩
  · walk_at "rs"
    refine isi_str (t := "str") ⟨.base (.str _), by decide⟩ ?_
    walk_at "rs"
    rw [if_neg (by decide)]
    refine ⟨sz (by decide), fun D nD => ⟨_, _, ⟨rfl, rfl⟩, ?_⟩⟩
    have nT : ∀ {H' : Hp} {xs : List V}, H' D = some (.lst xs) → NoTup H' (· = D) := fun h => noTupD h
    refine ⟨tkI t ts D H, ⟨t.length, [], t, [], ts, none, rfl, rfl, tk, rfl, But.refl _ _, upd_same, rfl⟩, ?_⟩
    rintro m σ H' ⟨p, rest, ts1, ts2, e, rfl, et, tk2, ets, ke, hD, rfl⟩
    have hl : t.length = p.length + rest.length := by rw [et, List.length_append]
    have nl : (ts1.map fun x => V.str (SX.S x)).length < sizeLine := szL (by have := Toks.len tk; rw [ets, List.length_append] at this; rw [List.length_map]; omega)
    -- what a token's turn does
    have put : ∀ (w r : List Nat) (ts3 : List (List Nat)) (j : Int) (e' : Option V), w ≠ [] → rest = w ++ r → ts2 = w :: ts3 → Toks r ts3 → j = ((p.length + w.length : Nat) : Int) →
        rSlS (V.str (SX.S t)) (some ((p.length : Nat) : Int)) (some j) H' fun x H1 => rAppend (V.ref D) [x] H1 fun _ H1 => ∃ m', m' < rest.length ∧ tkI t ts D H m' [some (V.str (SX.S t)), some (V.ref D), some (V.int j), e'] H1 := by
      intro w r ts3 j e' hw hr ht tk3 hj
      have := List.length_pos_iff.mpr hw
      refine ⟨_, rfl, sz (by rw [S_len]; omega), ?_⟩
      have ec : cutS (SX.S t) (some ((p.length : Nat) : Int)) (some j) = SX.S w := by rw [et, hr]; exact cut_S p w r hj
      rw [ec]
      refine ⟨D, _, _, rfl, rfl, hD, nl, r.length, by rw [hr, List.length_append]; omega, p ++ w, r, ts1 ++ [w], ts3, e', rfl, by rw [et, hr, List.append_assoc], tk3, by rw [ets, ht, List.append_assoc]; rfl, ke.trans (But.upd rfl), by rw [upd_same, List.map_append]; rfl, by rw [hj, List.length_append]⟩
    walk_at "r"
    refine lenS (by omega) ?_
    cases tk2 with
    | nil =>
      rw [if_neg (fun z => by have := of_decide_eq_true z; simp at hl; omega)]
      refine q D H' (Same.of_but nD ke) ?_
      rw [hD, ets, List.append_nil]
    | @sp r _ tk3 =>
      rw [if_pos (decide_eq_true (by simp at hl; omega))]
      refine ⟨_, fun _ _ h => h, ?_⟩
      refine ixS (by omega) (by rw [et]; exact at_here p _ r) ?_
      rw [l_blank]
      refine ⟨rfl, ?_⟩
      rw [eqSd, decide_eq_true rfl]
      walk_at "T"
      exact ⟨_, _, rfl, rfl, r.length, by simp, p ++ [32], r, ts1, ts2, e, rfl, by rw [et, List.append_assoc]; rfl, tk3, ets, ke, hD, by simp⟩
    | @one c r ts3 c1 c2 c3 tk3 =>
      rw [if_pos (decide_eq_true (by simp at hl; omega))]
      refine ⟨_, fun _ _ h => h, ?_⟩
      refine ixS (by omega) (by rw [et]; exact at_here p _ r) ?_
      rw [l_blank]
      refine ⟨rfl, ?_⟩
      rw [eqSd, decide_eq_false (fun z => c1 (List.cons.inj z).1)]
      walk_at "F"
      refine ixS (by omega) (by rw [et]; exact at_here p _ r) ?_
      rw [fig_S]
      refine inS ?_
      rw [decide_eq_false c2]
      refine ⟨false, rfl, ?_⟩
      walk_at "F"
      refine ixS (by omega) (by rw [et]; exact at_here p _ r) ?_
      rw [let_S]
      refine inS ?_
      rw [decide_eq_false c3]
      refine ⟨false, rfl, ?_⟩
      walk_at "F"
      refine ⟨tyL hD, ?_⟩
      exact put [c] r ts3 _ _ (by simp) rfl rfl tk3 (by simp)
    | @fig c w r ts3 h1 h2 tk3 =>
      have hc := h1 c List.mem_cons_self
      rw [if_pos (decide_eq_true (by simp at hl; omega))]
      refine ⟨_, fun _ _ h => h, ?_⟩
      refine ixS (by omega) (by rw [et]; exact at_here p _ _) ?_
      rw [l_blank]
      refine ⟨rfl, ?_⟩
      rw [eqSd, decide_eq_false (fun z => by rw [(List.cons.inj z).1] at hc; exact absurd hc (by decide))]
      walk_at "F"
      refine ixS (by omega) (by rw [et]; exact at_here p _ _) ?_
      rw [fig_S]
      refine inS ?_
      rw [decide_eq_true hc]
      refine ⟨true, rfl, ?_⟩
      walk_at "T"
      refine ⟨p, c :: w, r, figL, by rw [et]; rfl, by rw [List.cons_append, ← et]; omega, h1, h2, ?_⟩
      refine ⟨tyL hD, _, rfl, ?_⟩
      exact put (c :: w) r ts3 _ _ (by simp) rfl rfl tk3 rfl
    | @ltr c w r ts3 h1 h2 tk3 =>
      have hc := h1 c List.mem_cons_self
      rw [if_pos (decide_eq_true (by simp at hl; omega))]
      refine ⟨_, fun _ _ h => h, ?_⟩
      refine ixS (by omega) (by rw [et]; exact at_here p _ _) ?_
      rw [l_blank]
      refine ⟨rfl, ?_⟩
      rw [eqSd, decide_eq_false (fun z => by rw [(List.cons.inj z).1] at hc; exact absurd hc (by decide))]
      walk_at "F"
      refine ixS (by omega) (by rw [et]; exact at_here p _ _) ?_
      rw [fig_S]
      refine inS ?_
      rw [decide_eq_false (fun z => let_fig hc z)]
      refine ⟨false, rfl, ?_⟩
      walk_at "F"
      refine ixS (by omega) (by rw [et]; exact at_here p _ _) ?_
      rw [let_S]
      refine inS ?_
      rw [decide_eq_true hc]
      refine ⟨true, rfl, ?_⟩
      walk_at "T"
      refine ⟨p, c :: w, r, letL, by rw [et]; rfl, by rw [List.cons_append, ← et]; omega, h1, h2, ?_⟩
      refine ⟨tyL hD, _, rfl, ?_⟩
      exact put (c :: w) r ts3 _ _ (by simp) rfl rfl tk3 rfl
  · walk_at "rs"
    refine isi_str kd ?_
    rw [nk]
    walk_at "rs"
    exact fun dd nd => q _ _ (same_new nd _) upd_same
end
end FP
set_option maxHeartbeats 4000000
namespace FP
open PySem PySem.Spec PyProof.Rows L2
local macro_rules | `(tactic| walk_at "rd") => `(tactic| dsimp only [tVar, tC, tCmp, tIsN, tNotN, tB, tAnd, tOr, tNot, tAndV, tOrV, tNotV, tIf, tNext, tSeq, tBreak, tCont, tDrop, tRet, tRetN, tIfS, tNever, tAsg, tPar, tAug, tOp, tUn, tTest, tChain, tFld, tNil, tCons, tTup, tLst, tCB, iList, iTup, iStr, tLc, tM0, tM1, tPart, tNoPart, tSl, tBM, tCallS, tCallSD, WE, tDGet, tDIn, gName, gTup, gCons, gNil, gSub, sFld, sFldAug, rI, rI0, rU, rEq, rNe, rAdd, rSub, t2I, tYes, cx_K, cx_w, cx_prog])
local macro_rules | `(tactic| walk_at "rs") => `(tactic| (try simp only [L2.start, List.map_cons, List.map_nil, List.length_cons, List.length_nil, List.cons_append, List.nil_append, Nat.reduceAdd, Nat.reduceSub, Nat.zero_add, List.replicate, List.getElem?_cons_zero, List.getElem?_cons_succ, Option.some.injEq, exists_eq_left', exists_eq_left, V.int.injEq, V.str.injEq, V.bl.injEq, V.ref.injEq, List.set_cons_zero, List.set_cons_succ, exists_and_left, List.cons.injEq, and_true, true_and, wipe, if_true, if_false, Bool.not_true, Bool.not_false, Bool.false_eq_true, decide_true, decide_false]))
local macro_rules | `(tactic| walk_at "r") => `(tactic| (walk_at "rd"; walk_at "rs"))
local macro_rules | `(tactic| walk_at "T") => `(tactic| (rw [if_pos (by first | assumption | rfl | decide | exact decide_eq_true (by assumption) | (simp [tyOf]; done) | (simp; omega) | omega)]; walk_at "rs"))
local macro_rules | `(tactic| walk_at "F") => `(tactic| (rw [if_neg (by first | assumption | decide | (simp [tyOf]; done) | (simp; omega) | (simp; assumption) | omega)]; walk_at "rs"))
section
variable {P : Program} {w : World} {K : PySem.W.Frag} {mg : Str → Option Value} {base : Heap} {f : Addr} {fd : FuncData}
def isNum (l : List Nat) : Bool := decide (l ≠ []) && decide (l.length ≤ 400) && l.all (fun c => decide (c ∈ figL)) && (decide (l = [48]) || decide (l.head? ≠ some 48))
def sp_is_numeral : Sp := fun vs H Q _ => ∃ l, vs = [.str (SX.S l)] ∧ l.length ≤ 100000 ∧ ∀ H', Same H H' → Q (.bl (isNum l)) H'
theorem eqSs {a b : List Nat} : decide (SX.S a = SX.S b) = decide (a = b) := by
  by_cases h : a = b
  · subst h; rw [decide_eq_true rfl, decide_eq_true rfl]
  · rw [decide_eq_false h, decide_eq_false (fun z => h (SX.S_inj z))]
theorem l_zero : (Str.ofString "0") = SX.S [48] := rfl
theorem walk_S {l : List Nat} : Walk (Its (SX.S l)) (l.map fun c => V.str (SX.S [c])).length (fun _ => True) (YAt (l.map fun c => V.str (SX.S [c]))) := by
  have w : Walk (Its (SX.S l)) l.length (fun _ => True) (fun i H v H' => H' = H ∧ ∃ c, (SX.S l).cps[i]? = some c ∧ v = .str ⟨#[c]⟩) := walk_str
  rw [List.length_map]
  refine w.mono (fun _ h => h) fun i H x H' hi _ y => ?_
  obtain ⟨e, c, h1, h2⟩ := y
  refine ⟨e, ?_⟩
  have h3 : l[i]? = some c := by simpa using h1
  rw [List.getElem?_map, h3, h2]; rfl
theorem ok_is_numeral (Z : Zb mg) (D : C8.Def K mg "is_numeral" s_is_numeral f fd) (b : Binds K fd ["token"] []) (G_FIGURES : ∃ t, mg "FIGURES" = some (.str "0123456789" t)) (G_MOST_FIGURES : ∃ t, mg "MOST_FIGURES" = some (.int 400 t)) : CalX P w K mg base 1 "is_numeral" sp_is_numeral := by
  have nd := sc_is_numeral.nd
  refine calX D b sc_is_numeral (fun vs H Q E h => by obtain ⟨l, rfl, _⟩ := h; rfl) fun cdv A outer s H vs Q E hr h => ?_
  obtain ⟨l, rfl, hl, q⟩ := h
  refine ⟨_, (pss_cons (ps_if (PW.pt (pw_or (pt_cmpR op_eq (pv 0) pe_str (nomark _)) (pw_or (pt_cmpR op_gt (pe_callB call_len rfl Z.len PySem.boot_len (pa_cons (pv 0) pa_nil)) (pe_ci rfl G_MOST_FIGURES) (nomark _)) (pw_or1 (pt_not (pt_val (pe_callB (cr_all rfl) rfl Z.all PyProof.Rows.boot_all (pa_cons (pe_lc (own := [("sign", 1)]) rfl nd (pi_str (pv 0)) (blkOk_by (N := ["token", "sign"]) (sc := C8.fnScope s_is_numeral) (by decide +kernel)) (fun _ _ _ _ _ => (pg_name (i := 1) nd rfl (Or.inl rfl))) (fun _ _ _ _ _ => pts_nil) (fun _ _ _ _ _ => (pe_cmpR op_inS (pv 1) (pe_cs rfl G_FIGURES) (by with_unfolding_all rfl)))) pa_nil)))))))) (pss_one (ps_ret pe_bl)) pss_nil)
    (pss_one (ps_ret (pe_or (pe_cmpR op_eq (pv 0) pe_str (nomark _)) (pe_one (pe_cmpR op_ne (pe_ix ix_str (pv 0) pe_int (fun _ _ => rfl)) pe_str (nomark _))))))), ?_⟩
  walk_at "r"
  rw [l_empty, l_zero, fig_S]
  refine ⟨rfl, ?_⟩
  rw [eqSs]
  by_cases h0 : l = []
  · subst h0
    walk_at "T"
    exact q H (Same.refl H)
  walk_at "F"
  refine lenS (by omega) ?_
  by_cases h4 : l.length ≤ 400
  case neg =>
    rw [if_pos (decide_eq_true (by omega))]
    have e : isNum l = false := by unfold isNum; rw [decide_eq_false h4]; simp
    rw [e] at q
    exact q H (Same.refl H)
  rw [if_neg (fun z => by have := of_decide_eq_true z; omega)]
  intro D nD
  refine comp_bl walk_S (by rw [List.length_map]; exact szL (by omega)) nD (B := fun x H Q => rInS x (.str (SX.S figL)) H Q) (l.map fun c => decide (c ∈ figL)) (by simp) (fun _ _ => trivial) ?_ ?_
  · intro i x b H2 Q2 hx hb e q2
    rw [List.getElem?_map] at hx hb
    cases hc : l[i]? with
    | none => rw [hc] at hx; cases hx
    | some c =>
      rw [hc] at hx hb
      cases hx; cases hb
      exact inS (q2 _ (Same.refl _))
  · intro H2 e hD
    refine ⟨D, _, rfl, .inl (.inl hD), ?_⟩
    have ea : (l.map fun c => decide (c ∈ figL)).all id = l.all (fun c => decide (c ∈ figL)) := by rw [List.all_map]; rfl
    rw [ea]
    cases hall : l.all (fun c => decide (c ∈ figL)) with
    | false =>
      refine ⟨false, rfl, ?_⟩
      walk_at "T"
      have e2 : isNum l = false := by unfold isNum; rw [hall]; simp
      rw [e2] at q
      exact q H2 e
    | true =>
      refine ⟨true, rfl, ?_⟩
      walk_at "F"
      refine ⟨rfl, ?_⟩
      rw [eqSs]
      have e2 : isNum l = (decide (l = [48]) || decide (l.head? ≠ some 48)) := by
        unfold isNum; rw [hall, decide_eq_true h0, decide_eq_true h4]; rfl
      rw [e2] at q
      by_cases h48 : l = [48]
      · walk_at "T"
        rw [decide_eq_true h48] at q
        exact q H2 e
      · walk_at "F"
        cases l with
        | nil => exact absurd rfl h0
        | cons c r =>
          refine ixS (by omega) (atI_nat (j := 0) rfl) ⟨rfl, ?_⟩
          rw [eqSd]
          rw [decide_eq_false h48, Bool.false_or] at q
          have e3 : (!decide ([c] = [48])) = decide ((c :: r).head? ≠ some 48) := by
            by_cases hc : c = 48
            · subst hc; rfl
            · rw [decide_eq_false (fun z => hc (List.cons.inj z).1), decide_eq_true (p := (c :: r).head? ≠ some 48) (fun z => hc (Option.some.inj z))]; rfl
          rw [e3]
          exact q H2 e
end
end FP
set_option maxHeartbeats 4000000
namespace FP
open PySem PySem.Spec PyProof.Rows L2
local macro_rules | `(tactic| walk_at "rd") => `(tactic| dsimp only [tVar, tC, tCmp, tIsN, tNotN, tB, tAnd, tOr, tNot, tAndV, tOrV, tNotV, tIf, tNext, tSeq, tBreak, tCont, tDrop, tRet, tRetN, tIfS, tNever, tAsg, tPar, tAug, tOp, tUn, tTest, tChain, tFld, tNil, tCons, tTup, tLst, tCB, iList, iTup, iStr, tLc, tM0, tM1, tPart, tNoPart, tSl, tBM, tCallS, tCallSD, WE, tDGet, tDIn, gName, gTup, gCons, gNil, gSub, sFld, sFldAug, rI, rI0, rU, rEq, rNe, rAdd, rSub, t2I, tYes, cx_K, cx_w, cx_prog])
local macro_rules | `(tactic| walk_at "rs") => `(tactic| (try simp only [L2.start, List.map_cons, List.map_nil, List.length_cons, List.length_nil, List.cons_append, List.nil_append, Nat.reduceAdd, Nat.reduceSub, Nat.zero_add, List.replicate, List.getElem?_cons_zero, List.getElem?_cons_succ, Option.some.injEq, exists_eq_left', exists_eq_left, V.int.injEq, V.str.injEq, V.bl.injEq, V.ref.injEq, List.set_cons_zero, List.set_cons_succ, exists_and_left, List.cons.injEq, and_true, true_and, wipe, if_true, if_false, Bool.not_true, Bool.not_false, Bool.false_eq_true, decide_true, decide_false]))
local macro_rules | `(tactic| walk_at "r") => `(tactic| (walk_at "rd"; walk_at "rs"))
local macro_rules | `(tactic| walk_at "T") => `(tactic| (rw [if_pos (by first | assumption | rfl | decide | exact decide_eq_true (by assumption) | (simp [tyOf]; done) | (simp; omega) | omega)]; walk_at "rs"))
local macro_rules | `(tactic| walk_at "F") => `(tactic| (rw [if_neg (by first | assumption | decide | (simp [tyOf]; done) | (simp; omega) | (simp; assumption) | omega)]; walk_at "rs"))
section
variable {P : Program} {w : World} {K : PySem.W.Frag} {mg : Str → Option Value} {base : Heap} {f : Addr} {fd : FuncData}
end
/-! ### methods -/
def tMethW (C : Addr) (m : Str) (sp : Sp) (W : WX) (ta : TE) (t : TA) : TE := fun σ H Q => ta σ H fun x H1 => ∃ a dx fs, x = .ref a ∧ H1 a = some (.ins C dx fs) ∧ fs.lookup m = none ∧ t σ H1 fun vs H2 => sp (.ref a :: vs) H2 Q (WE W σ)
section
variable {X : Cx} {k j : Nat} {C : Addr} {m : Str} {sp : Sp} {W : WX} {pos apos : Pos} {o e : Expr} {es : List Expr} {ta : TE} {t : TA}
theorem pe_m {pl : Sem Bool} (c : MetX X.prog X.w X.K X.mg X.base k C m sp) (hr : Room j X.A) (hk : k ≤ j) (tk : L2N.Takes X W) (he : PE X o ta) (ha : PA X (e :: es) t)
    (hst : starEach (e :: es) X.env = (false, eval e X.env) :: starEach es X.env := by rfl) (hpl : (backTo pos (starEach es X.env)).any (·.1) = false := by rfl)
    (ht : eval (.Call (.Attribute o m apos) (e :: es) [] pos) X.env = (do
      let ov ← eval o X.env
      standAt apos.atName
      let (f, first) ← holding [ov] (getMethod ov m pl)
      callWith pos f first (backTo pos (starEach (e :: es) X.env)) (backToKw pos (keywordEach [] X.env))) := by rfl) :
    PE X (.Call (.Attribute o m apos) (e :: es) [] pos) (tMethW C m sp W ta t) := by
  obtain ⟨f, fd, ps, cl, hm, F, hb⟩ := c.ex
  refine ⟨fun pins s σ H Q I h => ?_⟩
  refine PySem.W.methodCall_KW (pl := pl) (thn (he.run pins s σ H _ I h) fun u s1 ⟨x, H1, I1, rx, a, dx, fs, ex, ea, l, q⟩ => ?_) ht
  subst ex
  obtain rfl : u = Value.ref a := rx
  refine getmeth_ok I1 ea cl hm l ?_
  refine PySem.W.callWith_K (first := [.ref a]) (h₀ := X.base) I.ok.mod.kin hm.kp (thn (ha.run pos pins s1 σ H1 _ I1 q) fun us s2 ⟨vs, H2, I2, r, q2⟩ => ⟨I2.kIn, ?_⟩) hst hpl
  exact run_fnS (us := .ref a :: us) (vs := .ref a :: vs) (E := fun σ => WE W σ) F (hr.mono hk) hb (L2N.passAt tk σ) I2 (.cons rfl r) q2
theorem pe_m0 {pl : Sem Bool} (c : MetX X.prog X.w X.K X.mg X.base k C m sp) (hr : Room j X.A) (hk : k ≤ j) (tk : L2N.Takes X W) (he : PE X o ta)
    (ht : eval (.Call (.Attribute o m apos) [] [] pos) X.env = (do
      let ov ← eval o X.env
      standAt apos.atName
      let (f, first) ← holding [ov] (getMethod ov m pl)
      callWith pos f first (backTo pos (starEach [] X.env)) (backToKw pos (keywordEach [] X.env))) := by rfl) :
    PE X (.Call (.Attribute o m apos) [] [] pos) (tMethW C m sp W ta tNil) := by
  obtain ⟨f, fd, ps, cl, hm, F, hb⟩ := c.ex
  refine ⟨fun pins s σ H Q I h => ?_⟩
  refine PySem.W.methodCall_KW (pl := pl) (thn (he.run pins s σ H _ I h) fun u s1 ⟨x, H1, I1, rx, a, dx, fs, ex, ea, l, q⟩ => ?_) ht
  subst ex
  obtain rfl : u = Value.ref a := rx
  refine getmeth_ok I1 ea cl hm l ?_
  exact PySem.W.callWith_K0 (first := [.ref a]) I1.kIn hm.kp (run_fnS (us := [.ref a]) (vs := [.ref a]) (E := fun σ => WE W σ) F (hr.mono hk) hb (L2N.passAt tk σ) I1 (.cons rfl .nil) q)
end
end FP
set_option maxHeartbeats 4000000
namespace FP
open PySem PySem.Spec PyProof.Rows L2
local macro_rules | `(tactic| walk_at "rd") => `(tactic| dsimp only [tVar, tC, tCmp, tIsN, tNotN, tB, tAnd, tOr, tNot, tAndV, tOrV, tNotV, tIf, tNext, tSeq, tBreak, tCont, tDrop, tRet, tRetN, tIfS, tNever, tAsg, tPar, tAug, tOp, tUn, tTest, tChain, tFld, tNil, tCons, tTup, tLst, tCB, iList, iTup, iStr, tLc, tM0, tM1, tPart, tNoPart, tSl, tBM, tCallS, tCallSD, tMethW, tMake, sDPut, tDisp, tPairs, WE, tDGet, tDIn, gName, gTup, gCons, gNil, gSub, sFld, sFldAug, rI, rI0, rU, rEq, rNe, rAdd, rSub, t2I, tYes, cx_K, cx_w, cx_prog])
local macro_rules | `(tactic| walk_at "rs") => `(tactic| (try simp (maxSteps := 4000000) only [L2.start, List.map_cons, List.map_nil, List.length_cons, List.length_nil, List.cons_append, List.nil_append, Nat.reduceAdd, Nat.reduceSub, Nat.zero_add, List.replicate, List.getElem?_cons_zero, List.getElem?_cons_succ, Option.some.injEq, exists_eq_left', exists_eq_left, V.int.injEq, V.str.injEq, V.bl.injEq, V.ref.injEq, List.set_cons_zero, List.set_cons_succ, exists_and_left, List.cons.injEq, and_true, true_and, wipe, if_true, if_false, Bool.not_true, Bool.not_false, Bool.false_eq_true, decide_true, decide_false]))
local macro_rules | `(tactic| walk_at "r") => `(tactic| (walk_at "rd"; walk_at "rs"))
local macro_rules | `(tactic| walk_at "T") => `(tactic| (rw [if_pos (by first | assumption | rfl | decide | exact decide_eq_true (by assumption) | (simp [tyOf]; done) | (simp; omega) | omega)]; walk_at "rs"))
local macro_rules | `(tactic| walk_at "F") => `(tactic| (rw [if_neg (by first | assumption | decide | (simp [tyOf]; done) | (simp; omega) | (simp; assumption) | omega)]; walk_at "rs"))
/-! ### the class Reader -/
structure RdC (K : PySem.W.Frag) (C : Addr) : Prop where
  cls : Cls K C
  n1 : NoAttr K C "tokens"
  n2 : NoAttr K C "line"
  n3 : NoAttr K C "at"
  n4 : NoAttr K C "limit"
  n5 : NoAttr K C "deep"
/-- its fields -/
def rdF (L : Int) (T : Addr) (i dp : Int) : List (Str × V) := [("tokens", .ref T), ("line", .int L), ("at", .int i), ("limit", .non), ("deep", .int dp)]
/-- a reader's state -/
structure RdS (K : PySem.W.Frag) (C : Addr) (L : Int) (ts : List (List Nat)) (H : Hp) (r T dx : Addr) (i dp : Nat) : Prop where
  cls : RdC K C
  ins : H r = some (.ins C dx (rdF L T (i : Nat) (dp : Nat)))
  lst : SqL K H T (ts.map fun x => V.str (SX.S x))
  ne : T ≠ r
  few : ts.length ≤ 100000
theorem RdS.noTup {K : PySem.W.Frag} {C : Addr} {L : Int} {ts : List (List Nat)} {H : Hp} {r T dx : Addr} {i dp : Nat} (S : RdS K C L ts H r T dx i dp) : NoTup H (· = r) := noTup1 S.ins (fun _ => by simp) (fun _ _ => by simp)
theorem RdS.put {K : PySem.W.Frag} {C : Addr} {L : Int} {ts : List (List Nat)} {H : Hp} {r T dx : Addr} {i dp : Nat} (S : RdS K C L ts H r T dx i dp) (j : Nat) : RdS K C L ts (upd H r (.ins C dx (rdF L T (j : Nat) (dp : Nat)))) r T dx j dp :=
  ⟨S.cls, upd_same, SqL.but (S := (· = r)) S.ne (But.upd rfl) S.lst, S.ne, S.few⟩
theorem RdS.fTok {K : PySem.W.Frag} {C : Addr} {L : Int} {ts : List (List Nat)} {H : Hp} {r T dx : Addr} {i dp : Nat} (S : RdS K C L ts H r T dx i dp) {R : V → Prop} (q : R (.ref T)) : ∃ x x_1 x_2, H r = some (.ins x x_1 x_2) ∧ Cls K x ∧ NoAttr K x "tokens" ∧ ∃ v, List.lookup ("tokens" : Str) x_2 = some v ∧ R v := ⟨_, _, _, S.ins, S.cls.cls, S.cls.n1, _, rfl, q⟩
theorem RdS.fLine {K : PySem.W.Frag} {C : Addr} {L : Int} {ts : List (List Nat)} {H : Hp} {r T dx : Addr} {i dp : Nat} (S : RdS K C L ts H r T dx i dp) {R : V → Prop} (q : R (.int L)) : ∃ x x_1 x_2, H r = some (.ins x x_1 x_2) ∧ Cls K x ∧ NoAttr K x "line" ∧ ∃ v, List.lookup ("line" : Str) x_2 = some v ∧ R v := ⟨_, _, _, S.ins, S.cls.cls, S.cls.n2, _, rfl, q⟩
theorem RdS.fAt {K : PySem.W.Frag} {C : Addr} {L : Int} {ts : List (List Nat)} {H : Hp} {r T dx : Addr} {i dp : Nat} (S : RdS K C L ts H r T dx i dp) {R : V → Prop} (q : R (.int (i : Nat))) : ∃ x x_1 x_2, H r = some (.ins x x_1 x_2) ∧ Cls K x ∧ NoAttr K x "at" ∧ ∃ v, List.lookup ("at" : Str) x_2 = some v ∧ R v := ⟨_, _, _, S.ins, S.cls.cls, S.cls.n3, _, rfl, q⟩
theorem RdS.fAtI {K : PySem.W.Frag} {C : Addr} {L : Int} {ts : List (List Nat)} {H : Hp} {r T dx : Addr} {i dp : Nat} (S : RdS K C L ts H r T dx i dp) {R : Int → Prop} (q : R (i : Nat)) : ∃ x x_1 x_2, H r = some (.ins x x_1 x_2) ∧ Cls K x ∧ NoAttr K x "at" ∧ ∃ v, List.lookup ("at" : Str) x_2 = some (V.int v) ∧ R v := ⟨_, _, _, S.ins, S.cls.cls, S.cls.n3, _, rfl, q⟩
theorem RdS.fLim {K : PySem.W.Frag} {C : Addr} {L : Int} {ts : List (List Nat)} {H : Hp} {r T dx : Addr} {i dp : Nat} (S : RdS K C L ts H r T dx i dp) {R : V → Prop} (q : R .non) : ∃ x x_1 x_2, H r = some (.ins x x_1 x_2) ∧ Cls K x ∧ NoAttr K x "limit" ∧ ∃ v, List.lookup ("limit" : Str) x_2 = some v ∧ R v := ⟨_, _, _, S.ins, S.cls.cls, S.cls.n4, _, rfl, q⟩
theorem RdS.fDeep {K : PySem.W.Frag} {C : Addr} {L : Int} {ts : List (List Nat)} {H : Hp} {r T dx : Addr} {i dp : Nat} (S : RdS K C L ts H r T dx i dp) {R : V → Prop} (q : R (.int (dp : Nat))) : ∃ x x_1 x_2, H r = some (.ins x x_1 x_2) ∧ Cls K x ∧ NoAttr K x "deep" ∧ ∃ v, List.lookup ("deep" : Str) x_2 = some v ∧ R v := ⟨_, _, _, S.ins, S.cls.cls, S.cls.n5, _, rfl, q⟩
theorem RdS.fDeepI {K : PySem.W.Frag} {C : Addr} {L : Int} {ts : List (List Nat)} {H : Hp} {r T dx : Addr} {i dp : Nat} (S : RdS K C L ts H r T dx i dp) {R : Int → Prop} (q : R (dp : Nat)) : ∃ x x_1 x_2, H r = some (.ins x x_1 x_2) ∧ Cls K x ∧ NoAttr K x "deep" ∧ ∃ v, List.lookup ("deep" : Str) x_2 = some (V.int v) ∧ R v := ⟨_, _, _, S.ins, S.cls.cls, S.cls.n5, _, rfl, q⟩
/-- the place is set anew -/
theorem RdS.sAt {K : PySem.W.Frag} {C : Addr} {L : Int} {ts : List (List Nat)} {H : Hp} {r T dx : Addr} {i dp : Nat} (S : RdS K C L ts H r T dx i dp) {j : Int} {n : Nat} (e : j = (n : Nat)) {R : Hp → Prop} (q : ∀ H', But (· = r) H H' → RdS K C L ts H' r T dx n dp → R H') : ∃ C' dx' fs', H r = some (.ins C' dx' fs') ∧ Cls K C' ∧ NoAttr K C' "at" ∧ fs'.length < 1000 ∧ R (upd H r (.ins C' dx' (putF "at" (.int j) fs'))) := by
  subst e
  exact ⟨C, dx, _, S.ins, S.cls.cls, S.cls.n3, (by show 5 < 1000; decide), q _ (But.upd rfl) (S.put n)⟩
theorem RdS.putA {K : PySem.W.Frag} {C : Addr} {L : Int} {ts : List (List Nat)} {H : Hp} {r T dx : Addr} {i dp : Nat} (S : RdS K C L ts H r T dx i dp) : RdS K C L ts (upd H r (.ins C dx (putF "at" (.int (((i : Nat) : Int) + 1)) (rdF L T (i : Nat) (dp : Nat))))) r T dx (i + 1) dp := S.put (i + 1)
theorem But.push {S : Addr → Prop} {H H1 : Hp} {x : Addr} {o : HO} (b : But S H H1) (s : S x) : But S H (L2.upd H1 x o) := b.trans (But.upd s)
theorem RdS.aug {K : PySem.W.Frag} {C : Addr} {L : Int} {ts : List (List Nat)} {H : Hp} {r T dx : Addr} {i dp : Nat} (S : RdS K C L ts H r T dx i dp) {R : Hp → Prop} (q : ∀ H', But (· = r) H H' → RdS K C L ts H' r T dx (i + 1) dp → R H') : ∃ x x_1 x_2, H r = some (.ins x x_1 x_2) ∧ Cls K x ∧ NoAttr K x "at" ∧ ∃ v, List.lookup ("at" : Str) x_2 = some v ∧ ∃ j, v = V.int j ∧ ∃ dx' fs', H r = some (.ins x dx' fs') ∧ fs'.length < 1000 ∧ R (upd H r (.ins x dx' (putF "at" (.int (j + 1)) fs'))) :=
  ⟨C, dx, _, S.ins, S.cls.cls, S.cls.n3, _, rfl, _, rfl, dx, _, S.ins, (by show 5 < 1000; decide), q _ (But.upd rfl) (S.put (i + 1))⟩
theorem RdS.putD {K : PySem.W.Frag} {C : Addr} {L : Int} {ts : List (List Nat)} {H : Hp} {r T dx : Addr} {i dp : Nat} (S : RdS K C L ts H r T dx i dp) (j : Nat) : RdS K C L ts (upd H r (.ins C dx (rdF L T (i : Nat) (j : Nat)))) r T dx i j :=
  ⟨S.cls, upd_same, SqL.but (S := (· = r)) S.ne (But.upd rfl) S.lst, S.ne, S.few⟩
theorem RdS.augD {K : PySem.W.Frag} {C : Addr} {L : Int} {ts : List (List Nat)} {H : Hp} {r T dx : Addr} {i dp : Nat} (S : RdS K C L ts H r T dx i dp) {R : Hp → Prop} (q : ∀ H', But (· = r) H H' → RdS K C L ts H' r T dx i (dp + 1) → R H') : ∃ x x_1 x_2, H r = some (.ins x x_1 x_2) ∧ Cls K x ∧ NoAttr K x "deep" ∧ ∃ v, List.lookup ("deep" : Str) x_2 = some v ∧ ∃ j, v = V.int j ∧ ∃ dx' fs', H r = some (.ins x dx' fs') ∧ fs'.length < 1000 ∧ R (upd H r (.ins x dx' (putF "deep" (.int (j + 1)) fs'))) :=
  ⟨C, dx, _, S.ins, S.cls.cls, S.cls.n5, _, rfl, _, rfl, dx, _, S.ins, (by show 5 < 1000; decide), q _ (But.upd rfl) (S.putD (dp + 1))⟩
theorem RdS.subD {K : PySem.W.Frag} {C : Addr} {L : Int} {ts : List (List Nat)} {H : Hp} {r T dx : Addr} {i dp : Nat} (S : RdS K C L ts H r T dx i (dp + 1)) {R : Hp → Prop} (q : ∀ H', But (· = r) H H' → RdS K C L ts H' r T dx i dp → R H') : ∃ x x_1 x_2, H r = some (.ins x x_1 x_2) ∧ Cls K x ∧ NoAttr K x "deep" ∧ ∃ v, List.lookup ("deep" : Str) x_2 = some v ∧ ∃ j, v = V.int j ∧ ∃ dx' fs', H r = some (.ins x dx' fs') ∧ fs'.length < 1000 ∧ R (upd H r (.ins x dx' (putF "deep" (.int (j - 1)) fs'))) := by
  refine ⟨C, dx, _, S.ins, S.cls.cls, S.cls.n5, _, rfl, _, rfl, dx, _, S.ins, (by show 5 < 1000; decide), q _ (But.upd rfl) ?_⟩
  have e : ((dp + 1 : Nat) : Int) - 1 = (dp : Nat) := by omega
  rw [e]
  exact S.putD dp
theorem RdS.same {K : PySem.W.Frag} {C : Addr} {L : Int} {ts : List (List Nat)} {H H' : Hp} {r T dx : Addr} {i dp : Nat} (S : RdS K C L ts H r T dx i dp) (e : Same H H') : RdS K C L ts H' r T dx i dp := ⟨S.cls, e _ _ S.ins, e.seq S.lst, S.ne, S.few⟩
def tok (ts : List (List Nat)) (i : Nat) : List Nat := ts.getD i []
/-- an error at e -/
def Er (C : Addr) (L : Int) (r : Addr) (e : Nat) (H : Hp) (E : XK) : Prop := ∀ H' dd, But (· = r) H H' → H' dd = some (.xd [("word", .int ((e + 1 : Nat) : Int)), ("line", .int L)]) → E (.ref C) (some dd) H'
section
variable {P : Program} {w : World} {K : PySem.W.Frag} {mg : Str → Option Value} {base : Heap} {f : Addr} {fd : FuncData} {C CT : Addr} {L : Int}
def sp_wrong (K : PySem.W.Frag) (C CT : Addr) : Sp := fun vs H Q E => ∃ (L : Int) (ts : List (List Nat)) (r T dx : Addr) (i dp : Nat), vs = [.ref r] ∧ RdS K C L ts H r T dx i dp ∧ Er CT L r i H E
theorem fn_wrong (F : C8.Fun K "wrong" "Reader.wrong" s_Reader_wrong f fd) (R_BadText : ErrX P w K mg base "BadText" CT "line" "word") : FnOk P w K mg base (L2N.CX P w) 3 f fd ["self"] (sp_wrong K C CT) := by
  refine fnX F sc_Reader_wrong (fun vs H Q E h => by obtain ⟨L, ts, r, T, dx, i, dp, rfl, _⟩ := h; rfl) fun cdv A outer s H vs Q E hr h => ?_
  obtain ⟨L, ts, r, T, dx, i, dp, rfl, S, q⟩ := h
  refine ⟨_, (pss_one (ps_raiseX R_BadText rfl hr (by decide) tkw rfl (pe_fld (pv 0) rfl) (pe_op op_add (pe_fld (pv 0) rfl) pe_int))), ?_⟩
  walk_at "r"
  exact S.fLine (S.fAt ⟨_, rfl, fun d nd => q _ d (Same.but (same_new nd _)) upd_same⟩)
def sp_next_is (K : PySem.W.Frag) (C : Addr) : Sp := fun vs H Q _ => ∃ (L : Int) (ts : List (List Nat)) (r T dx : Addr) (i dp : Nat) (tk : List Nat), vs = [.ref r, .str (SX.S tk)] ∧ tk ≠ [] ∧ RdS K C L ts H r T dx i dp ∧
  ((tok ts i = tk ∧ ∀ H', But (· = r) H H' → RdS K C L ts H' r T dx (i + 1) dp → Q (.bl true) H') ∨ (tok ts i ≠ tk ∧ Q (.bl false) H))
theorem fn_next_is (Z : Zb mg) (F : C8.Fun K "next_is" "Reader.next_is" s_Reader_next_is f fd) : FnOk P w K mg base (L2N.CX P w) 1 f fd ["self", "token"] (sp_next_is K C) := by
  refine fnX F sc_Reader_next_is (fun vs H Q E h => by obtain ⟨L, ts, r, T, dx, i, dp, tk, rfl, _⟩ := h; rfl) fun cdv A outer s H vs Q E hr h => ?_
  obtain ⟨L, ts, r, T, dx, i, dp, tk, rfl, tn, S, q⟩ := h
  refine ⟨_, (pss_cons (ps_if (PW.pt (pw_and (pt_cmpR op_lt (pe_fld (pv 0) rfl) (pe_callB call_len rfl Z.len PySem.boot_len (pa_cons (pe_fld (pv 0) rfl) pa_nil)) (nomark _)) (pw_and1 (pt_cmpR op_eq (pe_ix ix_list (pe_fld (pv 0) rfl) (pe_fld (pv 0) rfl) (fun _ _ => rfl)) (pv 1) (nomark _))))) (pss_cons (ps_fldaug (pv 0) pe_int in_add)
    (pss_one (ps_ret pe_bl))) pss_nil)
    (pss_one (ps_ret pe_bl))), ?_⟩
  walk_at "r"
  refine S.fAt (S.fTok (lenL S.lst ⟨_, rfl, ?_⟩))
  rw [List.length_map]
  by_cases hi : i < ts.length
  · rw [if_pos (decide_eq_true (by omega))]
    refine S.fTok (S.fAt (ixL S.lst (v := .str (SX.S (tok ts i))) (atI_nat (by rw [List.getElem?_map]; unfold tok; rw [List.getD_eq_getElem?_getD, List.getElem?_eq_getElem hi]; rfl)) ⟨rfl, ?_⟩))
    rw [eqSd]
    rcases q with ⟨e, q⟩ | ⟨e, q⟩
    · rw [if_pos (decide_eq_true e)]
      exact S.aug fun H' k S' => q H' k S'
    · rw [if_neg (fun z => e (of_decide_eq_true z))]
      exact q
  rw [if_neg (fun z => by have := of_decide_eq_true z; omega)]
  rcases q with ⟨e, _⟩ | ⟨_, q⟩
  · exfalso
    unfold tok at e
    rw [List.getD_eq_getElem?_getD, List.getElem?_eq_none (by omega)] at e
    exact tn e.symm
  · exact q
def sp_need (K : PySem.W.Frag) (C CT : Addr) : Sp := fun vs H Q E => ∃ (L : Int) (ts : List (List Nat)) (r T dx : Addr) (i dp : Nat) (tk : List Nat), vs = [.ref r, .str (SX.S tk)] ∧ tk ≠ [] ∧ RdS K C L ts H r T dx i dp ∧
  ((tok ts i = tk ∧ ∀ H', But (· = r) H H' → RdS K C L ts H' r T dx (i + 1) dp → Q .non H') ∨ (tok ts i ≠ tk ∧ Er CT L r i H E))
theorem fn_need (F : C8.Fun K "need" "Reader.need" s_Reader_need f fd) (m_next_is : MetX P w K mg base 1 C "next_is" (sp_next_is K C)) (m_wrong : MetX P w K mg base 3 C "wrong" (sp_wrong K C CT)) : FnOk P w K mg base (L2N.CX P w) 4 f fd ["self", "token"] (sp_need K C CT) := by
  refine fnX F sc_Reader_need (fun vs H Q E h => by obtain ⟨L, ts, r, T, dx, i, dp, tk, rfl, _⟩ := h; rfl) fun cdv A outer s H vs Q E hr h => ?_
  obtain ⟨L, ts, r, T, dx, i, dp, tk, rfl, tn, S, q⟩ := h
  refine ⟨_, (pss_one (ps_if (pt_not (pt_val (pe_m m_next_is hr (by decide) tkw (pv 0) (pa_cons (pv 1) pa_nil)))) (pss_one (ps_expr (pe_m0 m_wrong hr (by decide) tkw (pv 0)))) pss_nil)), ?_⟩
  walk_at "r"
  refine ⟨dx, _, S.ins, rfl, ?_⟩
  rcases q with ⟨e, q⟩ | ⟨e, q⟩
  · refine ⟨L, ts, r, T, dx, i, dp, tk, rfl, tn, S, .inl ⟨e, fun H' k S' => ?_⟩⟩
    refine ⟨true, rfl, ?_⟩
    walk_at "F"
    exact q H' k S'
  · refine ⟨L, ts, r, T, dx, i, dp, tk, rfl, tn, S, .inr ⟨e, ?_⟩⟩
    refine ⟨false, rfl, ?_⟩
    walk_at "T"
    exact ⟨dx, _, S.ins, rfl, _, ts, r, T, dx, i, dp, rfl, S, q⟩
theorem num_all {l : List Nat} (h : isNum l = true) : l.all (fun c => decide (48 ≤ c) && decide (c ≤ 57)) = true ∧ l ≠ [] ∧ l.length ≤ 400 := by
  unfold isNum at h
  rw [Bool.and_eq_true, Bool.and_eq_true, Bool.and_eq_true] at h
  obtain ⟨⟨⟨h1, h2⟩, h3⟩, _⟩ := h
  refine ⟨List.all_eq_true.mpr fun c hc => ?_, of_decide_eq_true h1, of_decide_eq_true h2⟩
  have z := of_decide_eq_true (List.all_eq_true.mp h3 c hc)
  have z2 : ∀ c ∈ figL, (decide (48 ≤ c) && decide (c ≤ 57)) = true := by decide
  exact z2 c z
def numV (l : List Nat) : Nat := NumText.digitsVal l
def sp_numeral (K : PySem.W.Frag) (C CT : Addr) : Sp := fun vs H Q E => ∃ (L : Int) (ts : List (List Nat)) (r T dx : Addr) (i dp : Nat), vs = [.ref r] ∧ RdS K C L ts H r T dx i dp ∧ (∀ t, t ∈ ts → t.length ≤ 100000) ∧
  ((isNum (tok ts i) = true ∧ ∀ H', But (· = r) H H' → RdS K C L ts H' r T dx (i + 1) dp → Q (.int (numV (tok ts i) : Nat)) H') ∨ (isNum (tok ts i) = false ∧ Er CT L r i H E))
theorem fn_numeral (Z : Zb mg) (F : C8.Fun K "numeral" "Reader.numeral" s_Reader_numeral f fd) (c_is_numeral : CalX P w K mg base 1 "is_numeral" sp_is_numeral) (m_wrong : MetX P w K mg base 3 C "wrong" (sp_wrong K C CT)) : FnOk P w K mg base (L2N.CX P w) 4 f fd ["self"] (sp_numeral K C CT) := by
  refine fnX F sc_Reader_numeral (fun vs H Q E h => by obtain ⟨L, ts, r, T, dx, i, dp, rfl, _⟩ := h; rfl) fun cdv A outer s H vs Q E hr h => ?_
  obtain ⟨L, ts, r, T, dx, i, dp, rfl, S, hsz, q⟩ := h
  refine ⟨_, (pss_cons (ps_if (PW.pt (pw_or (pt_cmpR op_ge (pe_fld (pv 0) rfl) (pe_callB call_len rfl Z.len PySem.boot_len (pa_cons (pe_fld (pv 0) rfl) pa_nil)) (nomark _)) (pw_or1 (pt_not (pt_val (pe_x c_is_numeral hr (by decide) tkw rfl (pa_cons (pe_ix ix_list (pe_fld (pv 0) rfl) (pe_fld (pv 0) rfl) (fun _ _ => rfl)) pa_nil))))))) (pss_one (ps_expr (pe_m0 m_wrong hr (by decide) tkw (pv 0)))) pss_nil)
    (pss_cons (ps_fldaug (pv 0) pe_int in_add)
    (pss_one (ps_ret (pe_callTy call_int_str rfl Z.int PyProof.Rows.boot_int (pa_cons (pe_ix ix_list (pe_fld (pv 0) rfl) (pe_op op_sub (pe_fld (pv 0) rfl) pe_int) (fun _ _ => rfl)) pa_nil)))))), ?_⟩
  walk_at "r"
  refine S.fAt (S.fTok (lenL S.lst ⟨_, rfl, ?_⟩))
  rw [List.length_map]
  by_cases hi : i < ts.length
  · rw [if_neg (fun z => by have := of_decide_eq_true z; omega)]
    have hti : ts[i]? = some (tok ts i) := by unfold tok; rw [List.getD_eq_getElem?_getD, List.getElem?_eq_getElem hi]; rfl
    have hat : atI (ts.map fun x => V.str (SX.S x)) ((i : Nat) : Int) = some (.str (SX.S (tok ts i))) := atI_nat (by rw [List.getElem?_map, hti]; rfl)
    refine S.fTok (S.fAt (ixL S.lst hat ⟨_, rfl, hsz _ (List.mem_of_getElem? hti), fun H1 e1 => ?_⟩))
    have S1 := S.same e1
    show ∃ c, _
    rcases q with ⟨e, q⟩ | ⟨e, q⟩
    · rw [e]
      refine ⟨true, rfl, ?_⟩
      walk_at "F"
      have S2 := S1.putA
      refine ⟨C, dx, _, S1.ins, S1.cls.cls, S1.cls.n3, _, rfl, _, rfl, dx, _, S1.ins, (by show 5 < 1000; decide), ?_⟩
      refine S2.fTok (S2.fAt ⟨_, rfl, ?_⟩)
      have ei : ((i + 1 : Nat) : Int) - 1 = (i : Nat) := by omega
      rw [ei]
      refine ixL S2.lst hat ?_
      obtain ⟨n1, n2, n3⟩ := num_all e
      refine ⟨_, rfl, _, SX.int_S n1 n2 (by omega), by rw [S_len]; omega, ?_⟩
      exact q _ (But.push (Same.but e1) rfl) S2
    · rw [e]
      refine ⟨false, rfl, ?_⟩
      walk_at "T"
      exact ⟨dx, _, S1.ins, rfl, _, ts, r, T, dx, i, dp, rfl, S1, fun H' dd k h => q H' dd ((Same.but e1).trans k) h⟩
  · rw [if_pos (decide_eq_true (by omega))]
    rcases q with ⟨e, _⟩ | ⟨_, q⟩
    · exfalso
      unfold tok at e
      rw [List.getD_eq_getElem?_getD, List.getElem?_eq_none (by omega)] at e
      exact absurd e (by decide)
    · exact ⟨dx, _, S.ins, rfl, _, ts, r, T, dx, i, dp, rfl, S, q⟩
def sp_end (K : PySem.W.Frag) (C CT : Addr) : Sp := fun vs H Q E => ∃ (L : Int) (ts : List (List Nat)) (r T dx : Addr) (i dp : Nat), vs = [.ref r] ∧ RdS K C L ts H r T dx i dp ∧
  ((ts.length ≤ i ∧ Q .non H) ∨ (i < ts.length ∧ Er CT L r i H E))
theorem fn_end (Z : Zb mg) (F : C8.Fun K "end" "Reader.end" s_Reader_end f fd) (m_wrong : MetX P w K mg base 3 C "wrong" (sp_wrong K C CT)) : FnOk P w K mg base (L2N.CX P w) 4 f fd ["self"] (sp_end K C CT) := by
  refine fnX F sc_Reader_end (fun vs H Q E h => by obtain ⟨L, ts, r, T, dx, i, dp, rfl, _⟩ := h; rfl) fun cdv A outer s H vs Q E hr h => ?_
  obtain ⟨L, ts, r, T, dx, i, dp, rfl, S, q⟩ := h
  refine ⟨_, (pss_cons (ps_if (pt_cmpR op_lt (pe_fld (pv 0) rfl) (pe_callB call_len rfl Z.len PySem.boot_len (pa_cons (pe_fld (pv 0) rfl) pa_nil)) (nomark _)) (pss_one (ps_expr (pe_m0 m_wrong hr (by decide) tkw (pv 0)))) pss_nil)
    (pss_one (ps_if (pt_cmp (pc_notN (pe_fld (pv 0) rfl))) (pss_one ps_never) pss_nil))), ?_⟩
  walk_at "r"
  refine S.fAt (S.fTok (lenL S.lst ⟨_, rfl, ?_⟩))
  rw [List.length_map]
  rcases q with ⟨hi, q⟩ | ⟨hi, q⟩
  · rw [if_neg (fun z => by have := of_decide_eq_true z; omega)]
    exact S.fLim (by rw [if_neg (by decide)]; exact q)
  · rw [if_pos (decide_eq_true (by omega))]
    exact ⟨dx, _, S.ins, rfl, _, ts, r, T, dx, i, dp, rfl, S, q⟩
def sp_init (K : PySem.W.Frag) (C : Addr) : Sp := fun vs H Q _ => ∃ (L : Int) (ts : List (List Nat)) (r T dx : Addr), vs = [.ref r, .ref T, .int L] ∧ RdC K C ∧ H r = some (.ins C dx []) ∧ SqL K H T (ts.map fun x => V.str (SX.S x)) ∧ T ≠ r ∧ ts.length ≤ 100000 ∧ ∀ H', But (· = r) H H' → RdS K C L ts H' r T dx 0 0 → Q .non H'
theorem fn_init (F : C8.Fun K "__init__" "Reader.__init__" s_Reader___init__ f fd) : FnOk P w K mg base (L2N.CX P w) 1 f fd ["self", "tokens", "line"] (sp_init K C) := by
  refine fnX F sc_Reader___init__ (fun vs H Q E h => by obtain ⟨L, ts, r, T, dx, rfl, _⟩ := h; rfl) fun cdv A outer s H vs Q E hr h => ?_
  obtain ⟨L, ts, r, T, dx, rfl, c, hi, sl, ne, few, q⟩ := h
  refine ⟨_, (pss_cons (ps_fld (pv 0) (pv 1) rfl)
    (pss_cons (ps_fld (pv 0) (pv 2) rfl)
    (pss_cons (ps_fld (pv 0) pe_int rfl)
    (pss_cons (ps_fld (pv 0) pe_non rfl)
    (pss_one (ps_fld (pv 0) pe_int rfl)))))), ?_⟩
  walk_at "r"
  refine ⟨C, dx, _, hi, c.cls, c.n1, (show 0 < 1000 by decide), C, dx, _, upd_same, c.cls, c.n2, (show 1 < 1000 by decide), C, dx, _, upd_same, c.cls, c.n3, (show 2 < 1000 by decide), C, dx, _, upd_same, c.cls, c.n4, (show 3 < 1000 by decide), C, dx, _, upd_same, c.cls, c.n5, (show 4 < 1000 by decide), ?_⟩
  have k := But.push (o := .ins C dx (putF "deep" (.int 0) (putF "limit" .non (putF "at" (.int 0) (putF "line" (.int L) (putF "tokens" (.ref T) [])))))) (But.push (o := .ins C dx (putF "limit" .non (putF "at" (.int 0) (putF "line" (.int L) (putF "tokens" (.ref T) []))))) (But.push (o := .ins C dx (putF "at" (.int 0) (putF "line" (.int L) (putF "tokens" (.ref T) [])))) (But.push (o := .ins C dx (putF "line" (.int L) (putF "tokens" (.ref T) []))) (But.push (S := (· = r)) (x := r) (o := .ins C dx (putF "tokens" (.ref T) [])) (But.refl _ H) rfl) rfl) rfl) rfl) (S := (· = r)) (x := r) rfl
  exact q _ k ⟨c, upd_same, SqL.but (S := (· = r)) ne k sl, ne, few⟩
end
end FP
set_option maxHeartbeats 4000000
namespace FP
open PySem PySem.Spec PyProof.Rows L2
local macro_rules | `(tactic| walk_at "rd") => `(tactic| dsimp only [tVar, tC, tCmp, tIsN, tNotN, tB, tAnd, tOr, tNot, tAndV, tOrV, tNotV, tIf, tNext, tSeq, tBreak, tCont, tDrop, tRet, tRetN, tIfS, tNever, tAsg, tPar, tAug, tOp, tUn, tTest, tChain, tFld, tNil, tCons, tTup, tLst, tCB, iList, iTup, iStr, tLc, tM0, tM1, tPart, tNoPart, tSl, tBM, tCallS, tCallSD, tMethW, tMake, sDPut, tDisp, tPairs, WE, tDGet, tDIn, gName, gTup, gCons, gNil, gSub, sFld, sFldAug, rI, rI0, rU, rEq, rNe, rAdd, rSub, t2I, tYes, cx_K, cx_w, cx_prog])
local macro_rules | `(tactic| walk_at "rs") => `(tactic| (try simp (maxSteps := 4000000) only [L2.start, List.map_cons, List.map_nil, List.length_cons, List.length_nil, List.cons_append, List.nil_append, Nat.reduceAdd, Nat.reduceSub, Nat.zero_add, List.replicate, List.getElem?_cons_zero, List.getElem?_cons_succ, Option.some.injEq, exists_eq_left', exists_eq_left, V.int.injEq, V.str.injEq, V.bl.injEq, V.ref.injEq, List.set_cons_zero, List.set_cons_succ, exists_and_left, List.cons.injEq, and_true, true_and, wipe, if_true, if_false, Bool.not_true, Bool.not_false, Bool.false_eq_true, decide_true, decide_false]))
local macro_rules | `(tactic| walk_at "r") => `(tactic| (walk_at "rd"; walk_at "rs"))
local macro_rules | `(tactic| walk_at "T") => `(tactic| (rw [if_pos (by first | assumption | rfl | decide | exact decide_eq_true (by assumption) | (simp [tyOf]; done) | (simp; omega) | omega)]; walk_at "rs"))
local macro_rules | `(tactic| walk_at "F") => `(tactic| (rw [if_neg (by first | assumption | decide | (simp [tyOf]; done) | (simp; omega) | (simp; assumption) | omega)]; walk_at "rs"))
/-! ### what is read -/
inductive Res
  | ok (a : Nat) (d : PyData)
  | err (e : Nat)
def pvS (ts : List (List Nat)) (below : Bool) (st : Nat) : Res :=
  if isNum (tok ts st) = false then .err st
  else if below = true ∧ numV (tok ts st) = 0 then .err st
  else if numV (tok ts st) ≠ 0 ∧ tok ts (st + 1) = [47] then
    if isNum (tok ts (st + 2)) = false then .err (st + 2)
    else if (ratioOf (.tuple [.int (numV (tok ts st) : Nat), .int (numV (tok ts (st + 2)) : Nat)])).isSome = false then .err (st + 2)
    else .ok (st + 3) (if below = true then oppD (.tuple [.int (numV (tok ts st) : Nat), .int (numV (tok ts (st + 2)) : Nat)]) else .tuple [.int (numV (tok ts st) : Nat), .int (numV (tok ts (st + 2)) : Nat)])
  else .ok (st + 1) (if below = true then oppD (.int (numV (tok ts st) : Nat)) else .int (numV (tok ts st) : Nat))
def pvR (ts : List (List Nat)) (i : Nat) : Res := if tok ts i = [45] then pvS ts true (i + 1) else pvS ts false i
theorem Er.mono {C r : Addr} {L : Int} {e : Nat} {H H1 : Hp} {E : XK} (h : Er C L r e H E) (k : But (· = r) H H1) : Er C L r e H1 E := fun H' dd k2 x => h H' dd (k.trans k2) x
theorem l_slash : (Str.ofString "/") = SX.S [47] := rfl
section
variable {P : Program} {w : World} {K : PySem.W.Frag} {mg : Str → Option Value} {base : Heap} {f : Addr} {fd : FuncData} {C CT : Addr} {L : Int}
def ends (K : PySem.W.Frag) (C CT : Addr) (L : Int) (ts : List (List Nat)) (r T dx : Addr) (dp : Nat) (H : Hp) (Q : VK) (E : XK) : Res → Prop
  | .ok a d => ∀ v H', But (· = r) H H' → RdS K C L ts H' r T dx a dp → Dp K H' v d → Nol d → Q v H'
  | .err e => Er CT L r e H E
theorem next_split {L : Int} {ts : List (List Nat)} {H : Hp} {r T dx : Addr} {i dp : Nat} {tk : List Nat} {Q : VK} {E : XK} {W : Str} (eW : W = SX.S tk) (S : RdS K C L ts H r T dx i dp) (hn : tk ≠ []) (q : ∀ bl st H', bl = decide (tok ts i = tk) → st = (if tok ts i = tk then i + 1 else i) → But (· = r) H H' → RdS K C L ts H' r T dx st dp → Q (.bl bl) H') : sp_next_is K C [.ref r, .str W] H Q E := by
  subst eW
  refine ⟨L, ts, r, T, dx, i, dp, tk, rfl, hn, S, ?_⟩
  by_cases h : tok ts i = tk
  · exact .inl ⟨h, fun H' k S' => q _ _ H' (decide_eq_true h).symm (if_pos h).symm k S'⟩
  · exact .inr ⟨h, q _ _ H (decide_eq_false h).symm (if_neg h).symm (But.refl _ _) S⟩
theorem num_split {L : Int} {ts : List (List Nat)} {H : Hp} {r T dx : Addr} {i dp : Nat} {Q : VK} {E : XK} (S : RdS K C L ts H r T dx i dp) (hsz : ∀ t, t ∈ ts → t.length ≤ 100000) (q : isNum (tok ts i) = true → ∀ H', But (· = r) H H' → RdS K C L ts H' r T dx (i + 1) dp → Q (.int (numV (tok ts i) : Nat)) H') (er : isNum (tok ts i) = false → Er CT L r i H E) : sp_numeral K C CT [.ref r] H Q E := by
  refine ⟨L, ts, r, T, dx, i, dp, rfl, S, hsz, ?_⟩
  cases h : isNum (tok ts i) with
  | true => exact .inl ⟨rfl, q h⟩
  | false => exact .inr ⟨rfl, er h⟩
theorem RdS.callW {L : Int} {ts : List (List Nat)} {H : Hp} {r T dx : Addr} {i dp : Nat} {Q : VK} {E : XK} (S : RdS K C L ts H r T dx i dp) (er : Er CT L r i H E) : ∃ x x_1, H r = some (.ins C x x_1) ∧ List.lookup ("wrong" : Str) x_1 = none ∧ sp_wrong K C CT [.ref r] H Q E := ⟨dx, _, S.ins, rfl, _, ts, r, T, dx, i, dp, rfl, S, er⟩
theorem skip_if {bl c : Bool} {p X Y : Prop} (hp : p) (hc : c = false) (y : Y) : if bl = true then p ∧ (if c = true then X else Y) else Y := by
  cases bl with
  | true => rw [if_pos rfl, hc]; exact ⟨hp, y⟩
  | false => exact y
theorem eqZ {n : Nat} : decide (V.int ((n : Nat) : Int) = V.int 0) = decide (n = 0) := by
  by_cases h : n = 0
  · subst h; rfl
  · rw [decide_eq_false h, decide_eq_false]
    intro z; injection z with z; omega
theorem RdS.putS {L : Int} {ts : List (List Nat)} {H : Hp} {r T dx : Addr} {i dp : Nat} (S : RdS K C L ts H r T dx i dp) (j : Nat) : RdS K C L ts (L2.upd H r (.ins C dx (putF "at" (.int ((j : Nat) : Int)) (rdF L T (i : Nat) (dp : Nat))))) r T dx j dp := S.put j
/-- the place is set back, then the error -/
theorem RdS.back {L : Int} {ts : List (List Nat)} {H : Hp} {r T dx : Addr} {i dp : Nat} {Q : VK} {E : XK} (S : RdS K C L ts H r T dx i dp) (j : Nat) (er : Er CT L r j H E) : ∃ x x_1 x_2, H r = some (.ins x x_1 x_2) ∧ Cls K x ∧ NoAttr K x "at" ∧ x_2.length < 1000 ∧ ∃ x_3 x_4, L2.upd H r (.ins x x_1 (putF "at" (.int ((j : Nat) : Int)) x_2)) r = some (.ins C x_3 x_4) ∧ List.lookup ("wrong" : Str) x_4 = none ∧ sp_wrong K C CT [.ref r] (L2.upd H r (.ins x x_1 (putF "at" (.int ((j : Nat) : Int)) x_2))) Q E :=
  ⟨C, dx, _, S.ins, S.cls.cls, S.cls.n3, (by show 5 < 1000; decide), (S.putS j).callW (er.mono (But.upd rfl))⟩
theorem nol_pair (i j : Int) : Nol (.tuple [.int i, .int j]) := .tup fun d hd => by
  rcases List.mem_cons.mp hd with h | hd
  · rw [h]; exact .int i
  · rw [List.mem_singleton.mp hd]; exact .int j
theorem nol_opp {d : PyData} (h : (ratioOf d).isSome = true) : Nol d ∧ Nol (oppD d) := by
  obtain ⟨⟨t, b⟩, hr⟩ := Option.isSome_iff_exists.mp h
  rcases ratio_some hr with ⟨rfl, rfl⟩ | ⟨rfl, _⟩
  · exact ⟨.int _, .int _⟩
  · exact ⟨nol_pair _ _, nol_pair _ _⟩
theorem opp_split {ts : List (List Nat)} {H H2 : Hp} {r T dx : Addr} {a dp : Nat} {Q : VK} {E E' : XK} {bl : Bool} {v : V} {d : PyData} (k : But (· = r) H H2) (S : RdS K C L ts H2 r T dx a dp) (hd : Dp K H2 v d) (hr : (ratioOf d).isSome = true) (q : ends K C CT L ts r T dx dp H Q E (.ok a (if bl = true then oppD d else d))) : if bl = true then sp_opposite K [v] H2 Q E' else Q v H2 := by
  cases bl with
  | true =>
    rw [if_pos rfl] at q ⊢
    exact ⟨v, d, rfl, hd, hr, fun v' H' e hd' => q v' H' (k.trans (Same.but e)) (S.same e) hd' (nol_opp hr).2⟩
  | false => exact q v H2 k S hd (nol_opp hr).1
def sp_ratio_by (K : PySem.W.Frag) (C CT : Addr) : Sp := fun vs H Q E => ∃ (L : Int) (ts : List (List Nat)) (r T dx : Addr) (i dp : Nat), vs = [.ref r] ∧ RdS K C L ts H r T dx i dp ∧ (∀ t, t ∈ ts → t.length ≤ 100000) ∧ ends K C CT L ts r T dx dp H Q E (pvR ts i)
theorem ok_ratio_by (D : C8.Def K mg "ratio_by" s_ratio_by f fd) (b : Binds K fd ["reader"] []) (m_next_is : MetX P w K mg base 1 C "next_is" (sp_next_is K C)) (m_wrong : MetX P w K mg base 3 C "wrong" (sp_wrong K C CT)) (m_numeral : MetX P w K mg base 4 C "numeral" (sp_numeral K C CT)) (c_is_ratio : CalX P w K mg base 2 "is_ratio" (sp_is_ratio K)) (c_opposite : CalX P w K mg base 1 "opposite" (sp_opposite K)) : CalX P w K mg base 5 "ratio_by" (sp_ratio_by K C CT) := by
  have nd := sc_ratio_by.nd
  refine calX D b sc_ratio_by (fun vs H Q E h => by obtain ⟨L, ts, r, T, dx, i, dp, rfl, _⟩ := h; rfl) fun cdv A outer s H vs Q E hr h => ?_
  obtain ⟨L, ts, r, T, dx, i, dp, rfl, S, hsz, q⟩ := h
  refine ⟨_, (pss_cons (ps_set (i := 1) nd rfl (Or.inl rfl) (pe_m m_next_is hr (by decide) tkw (pv 0) (pa_cons pe_str pa_nil)))
    (pss_cons (ps_set (i := 2) nd rfl (Or.inl rfl) (pe_fld (pv 0) rfl))
    (pss_cons (ps_set (i := 3) nd rfl (Or.inl rfl) (pe_m0 m_numeral hr (by decide) tkw (pv 0)))
    (pss_cons (ps_if (PW.pt (pw_and (pt_val (pv 1)) (pw_and1 (pt_cmpR op_eq (pv 3) pe_int (nomark _))))) (pss_cons (ps_fld (pv 0) (pv 2) rfl)
    (pss_one (ps_expr (pe_m0 m_wrong hr (by decide) tkw (pv 0))))) pss_nil)
    (pss_cons (ps_set (i := 4) nd rfl (Or.inl rfl) (pv 3))
    (pss_cons (ps_if (PW.pt (pw_and (pt_cmpR op_ne (pv 3) pe_int (nomark _)) (pw_and1 (pt_val (pe_m m_next_is hr (by decide) tkw (pv 0) (pa_cons pe_str pa_nil)))))) (pss_cons (ps_set (i := 2) nd rfl (Or.inl rfl) (pe_fld (pv 0) rfl))
    (pss_cons (ps_set (i := 4) nd rfl (Or.inl rfl) (pe_tup (pa_cons (pv 3) (pa_cons (pe_m0 m_numeral hr (by decide) tkw (pv 0)) pa_nil))))
    (pss_one (ps_if (pt_not (pt_val (pe_x c_is_ratio hr (by decide) tkw rfl (pa_cons (pv 4) pa_nil)))) (pss_cons (ps_fld (pv 0) (pv 2) rfl)
    (pss_one (ps_expr (pe_m0 m_wrong hr (by decide) tkw (pv 0))))) pss_nil)))) pss_nil)
    (pss_one (ps_ret (pe_ifExp (pt_val (pv 1)) (pe_x c_opposite hr (by decide) tkw rfl (pa_cons (pv 4) pa_nil)) (pv 4)))))))))), ?_⟩
  walk_at "r"
  refine ⟨dx, _, S.ins, rfl, ?_⟩
  refine next_split l_minus S (by simp) fun bl st H0 eb est k0 S0 => ?_
  walk_at "rs"
  have q0 : ends K C CT L ts r T dx dp H Q E (pvS ts bl st) := by
    subst eb est
    unfold pvR at q
    by_cases h1 : tok ts i = [45]
    · rw [if_pos h1] at q; rw [decide_eq_true h1, if_pos h1]; exact q
    · rw [if_neg h1] at q; rw [decide_eq_false h1, if_neg h1]; exact q
  refine S0.fAt ⟨dx, _, S0.ins, rfl, ?_⟩
  refine num_split S0 hsz (fun hn H1 k1 S1 => ?_) (fun hn => ?_)
  case refine_2 =>
    unfold pvS at q0
    rw [if_pos hn] at q0
    exact Er.mono q0 k0
  have k01 := k0.trans k1
  unfold pvS at q0
  rw [if_neg (by rw [hn]; decide)] at q0
  by_cases hz : numV (tok ts st) = 0
  · have eZ : decide (V.int ((numV (tok ts st) : Nat) : Int) = V.int 0) = true := by rw [eqZ]; exact decide_eq_true hz
    cases bl with
    | true =>
      rw [if_pos ⟨rfl, hz⟩] at q0
      rw [if_pos rfl]
      refine ⟨rfl, ?_⟩
      rw [eZ]
      walk_at "T"
      exact S1.back st (Er.mono q0 k01)
    | false =>
      rw [if_neg (fun z => absurd z.1 (by decide)), if_neg (fun z => z.1 hz)] at q0
      rw [if_neg (by decide)]
      refine ⟨rfl, ?_⟩
      rw [eZ]
      walk_at "rs"
      exact opp_split (E' := E) (bl := false) k01 S1 (.int _) rfl q0
  · have eZ : decide (V.int ((numV (tok ts st) : Nat) : Int) = V.int 0) = false := by rw [eqZ]; exact decide_eq_false hz
    rw [if_neg (fun z => hz z.2)] at q0
    refine skip_if rfl eZ ?_
    refine ⟨rfl, ?_⟩
    rw [eZ]
    walk_at "rs"
    refine ⟨dx, _, S1.ins, rfl, ?_⟩
    refine next_split l_slash S1 (by simp) fun b2 st2 H2 eb2 est2 k2 S2 => ?_
    have k02 := k01.trans k2
    walk_at "rs"
    by_cases hs : tok ts (st + 1) = [47]
    case neg =>
      rw [if_neg (fun z => hs z.2)] at q0
      rw [decide_eq_false hs] at eb2
      rw [if_neg hs] at est2
      subst eb2 est2
      walk_at "F"
      exact opp_split k02 S2 (.int _) rfl q0
    rw [if_pos ⟨hz, hs⟩] at q0
    rw [decide_eq_true hs] at eb2
    rw [if_pos hs] at est2
    subst eb2 est2
    walk_at "T"
    refine S2.fAt ⟨dx, _, S2.ins, rfl, ?_⟩
    refine num_split S2 hsz (fun hn3 H3 k3 S3 => ?_) (fun hn3 => ?_)
    case refine_2 =>
      rw [if_pos hn3] at q0
      exact Er.mono q0 k02
    have k03 := k02.trans k3
    have e2 : st + 1 + 1 = st + 2 := rfl
    rw [e2] at hn3 S2 S3
    rw [if_neg (by rw [hn3]; decide)] at q0
    refine ⟨sz (by decide), fun p np => ?_⟩
    have S4 := S3.same (same_new np (.tup [.int (numV (tok ts st) : Nat), .int (numV (tok ts (st + 2)) : Nat)]))
    have k04 := k03.trans (Same.but (same_new np (.tup [.int (numV (tok ts st) : Nat), .int (numV (tok ts (st + 2)) : Nat)])))
    have hd : Dp K (L2.upd H3 p (.tup [.int (numV (tok ts st) : Nat), .int (numV (tok ts (st + 2)) : Nat)])) (.ref p) (.tuple [.int (numV (tok ts st) : Nat), .int (numV (tok ts (st + 2)) : Nat)]) := Dp.of_pair (.inl (.inl upd_same))
    refine ⟨_, rfl, .inl ⟨_, hd, ?_⟩⟩
    cases hr2 : (ratioOf (.tuple [.int (numV (tok ts st) : Nat), .int (numV (tok ts (st + 2)) : Nat)])).isSome with
    | false =>
      rw [if_pos hr2] at q0
      refine ⟨false, rfl, ?_⟩
      walk_at "T"
      exact S4.back (st + 2) (Er.mono q0 k04)
    | true =>
      rw [if_neg (by rw [hr2]; decide)] at q0
      refine ⟨true, rfl, ?_⟩
      walk_at "F"
      exact opp_split k04 S4 hd hr2 q0
end
end FP
set_option maxHeartbeats 4000000
namespace FP
open PySem PySem.Spec PyProof.Rows L2
local macro_rules | `(tactic| walk_at "rd") => `(tactic| dsimp only [tVar, tC, tCmp, tIsN, tNotN, tB, tAnd, tOr, tNot, tAndV, tOrV, tNotV, tIf, tNext, tSeq, tBreak, tCont, tDrop, tRet, tRetN, tIfS, tNever, tAsg, tPar, tAug, tOp, tUn, tTest, tChain, tFld, tNil, tCons, tTup, tLst, tCB, iList, iTup, iStr, tLc, tM0, tM1, tPart, tNoPart, tSl, tBM, tCallS, tCallSD, tMethW, tMake, sDPut, tDisp, tPairs, WE, tDGet, tDIn, gName, gTup, gCons, gNil, gSub, sFld, sFldAug, rI, rI0, rU, rEq, rNe, rAdd, rSub, t2I, tYes, cx_K, cx_w, cx_prog])
local macro_rules | `(tactic| walk_at "rs") => `(tactic| (try simp (maxSteps := 4000000) only [L2.start, List.map_cons, List.map_nil, List.length_cons, List.length_nil, List.cons_append, List.nil_append, Nat.reduceAdd, Nat.reduceSub, Nat.zero_add, List.replicate, List.getElem?_cons_zero, List.getElem?_cons_succ, Option.some.injEq, exists_eq_left', exists_eq_left, V.int.injEq, V.str.injEq, V.bl.injEq, V.ref.injEq, List.set_cons_zero, List.set_cons_succ, exists_and_left, List.cons.injEq, and_true, true_and, wipe, if_true, if_false, Bool.not_true, Bool.not_false, Bool.false_eq_true, decide_true, decide_false]))
local macro_rules | `(tactic| walk_at "r") => `(tactic| (walk_at "rd"; walk_at "rs"))
local macro_rules | `(tactic| walk_at "T") => `(tactic| (rw [if_pos (by first | assumption | rfl | decide | exact decide_eq_true (by assumption) | (simp [tyOf]; done) | (simp; omega) | omega)]; walk_at "rs"))
local macro_rules | `(tactic| walk_at "F") => `(tactic| (rw [if_neg (by first | assumption | decide | (simp [tyOf]; done) | (simp; omega) | (simp; assumption) | omega)]; walk_at "rs"))
/-! ### values in brackets -/
def PN (F : Nat → Res → Prop) (ts : List (List Nat)) : Nat → Nat → List PyData → Res → Prop
  | 0, a, acc, r => (tok ts a = [41] ∧ r = .ok (a + 1) (.tuple acc)) ∨ (tok ts a ≠ [44] ∧ tok ts a ≠ [41] ∧ r = .err a)
  | m + 1, a, acc, r => (tok ts a = [44] ∧ ((∃ e, F (a + 1) (.err e) ∧ r = .err e) ∨ ∃ b d, F (a + 1) (.ok b d) ∧ PN F ts m b (acc ++ [d]) r)) ∨
      (tok ts a = [41] ∧ r = .ok (a + 1) (.tuple acc)) ∨ (tok ts a ≠ [44] ∧ tok ts a ≠ [41] ∧ r = .err a)
def PL (F : Nat → Res → Prop) (ts : List (List Nat)) (i : Nat) (r : Res) : Prop := (∃ e, F i (.err e) ∧ r = .err e) ∨ ∃ a d, F i (.ok a d) ∧
  ((tok ts a ≠ [44] ∧ r = .err a) ∨ (tok ts a = [44] ∧ tok ts (a + 1) = [41] ∧ r = .ok (a + 2) (.tuple [d])) ∨
   (tok ts a = [44] ∧ tok ts (a + 1) ≠ [41] ∧ ((∃ e, F (a + 1) (.err e) ∧ r = .err e) ∨ ∃ b d', F (a + 1) (.ok b d') ∧ ∃ m, m ≤ 1000 ∧ PN F ts m b [d, d'] r)))
def PV (ts : List (List Nat)) : Nat → Nat → Res → Prop
  | 0, i, r => tok ts i ≠ [40] ∧ r = pvR ts i
  | n + 1, i, r => (tok ts i ≠ [40] ∧ r = pvR ts i) ∨ (tok ts i = [40] ∧ ((tok ts (i + 1) = [41] ∧ r = .ok (i + 2) (.tuple [])) ∨ (tok ts (i + 1) ≠ [41] ∧ PL (PV ts n) ts (i + 1) r)))
section
variable {P : Program} {w : World} {K : PySem.W.Frag} {mg : Str → Option Value} {base : Heap} {f : Addr} {fd : FuncData} {C CT : Addr} {L : Int}
def sp_value_by (K : PySem.W.Frag) (C CT : Addr) (n : Nat) : Sp := fun vs H Q E => ∃ (L : Int) (ts : List (List Nat)) (r T dx : Addr) (i dp : Nat) (res : Res), vs = [.ref r] ∧ RdS K C L ts H r T dx i dp ∧ dp + n ≤ 50 ∧ (∀ t, t ∈ ts → t.length ≤ 100000) ∧ PV ts n i res ∧ ends K C CT L ts r T dx dp H Q E res
theorem ends_mono {ts : List (List Nat)} {r T dx : Addr} {dp : Nat} {H H1 : Hp} {Q : VK} {E : XK} {res : Res} (k : But (· = r) H H1) (h : ends K C CT L ts r T dx dp H Q E res) : ends K C CT L ts r T dx dp H1 Q E res := by
  cases res with
  | ok a d => exact fun v H' k2 => h v H' (k.trans k2)
  | err e => exact Er.mono h k
theorem val_split {ts : List (List Nat)} {r T dx : Addr} {i dp n : Nat} {H : Hp} {Q : VK} {E : XK} (S : RdS K C L ts H r T dx i dp) (hdp : dp + n ≤ 50) (hsz : ∀ t, t ∈ ts → t.length ≤ 100000)
    (h : (∃ e, PV ts n i (.err e) ∧ Er CT L r e H E) ∨ ∃ a d, PV ts n i (.ok a d) ∧ ∀ v H', But (· = r) H H' → RdS K C L ts H' r T dx a dp → Dp K H' v d → Nol d → Q v H') : 0 < n + 1 ∧ sp_value_by K C CT (n + 1 - 1) [.ref r] H Q E := by
  refine ⟨Nat.succ_pos _, ?_⟩
  rcases h with ⟨e, h, q⟩ | ⟨a, d, h, q⟩
  · exact ⟨L, ts, r, T, dx, i, dp, _, rfl, S, hdp, hsz, h, q⟩
  · exact ⟨L, ts, r, T, dx, i, dp, _, rfl, S, hdp, hsz, h, q⟩
theorem RdS.deepUp {L : Int} {ts : List (List Nat)} {H : Hp} {r T dx : Addr} {i dp : Nat} (S : RdS K C L ts H r T dx i dp) : ∃ H2, L2.upd H r (.ins C dx (putF "deep" (.int (((dp : Nat) : Int) + 1)) (rdF L T (i : Nat) (dp : Nat)))) = H2 ∧ But (· = r) H H2 ∧ RdS K C L ts H2 r T dx i (dp + 1) := ⟨_, rfl, But.upd rfl, S.putD (dp + 1)⟩
theorem RdS.deepDn {L : Int} {ts : List (List Nat)} {H : Hp} {r T dx : Addr} {i dp : Nat} (S : RdS K C L ts H r T dx i (dp + 1)) : ∃ H2, L2.upd H r (.ins C dx (putF "deep" (.int (((dp + 1 : Nat) : Int) - 1)) (rdF L T (i : Nat) ((dp + 1 : Nat) : Int)))) = H2 ∧ But (· = r) H H2 ∧ RdS K C L ts H2 r T dx i dp := by
  have e : ((dp + 1 : Nat) : Int) - 1 = (dp : Nat) := by omega
  rw [e]
  exact ⟨_, rfl, But.upd rfl, S.putD dp⟩
theorem need_split {L : Int} {ts : List (List Nat)} {H : Hp} {r T dx : Addr} {i dp : Nat} {tk : List Nat} {Q : VK} {E : XK} {W : Str} (eW : W = SX.S tk) (S : RdS K C L ts H r T dx i dp) (hn : tk ≠ []) (q : tok ts i = tk → ∀ H', But (· = r) H H' → RdS K C L ts H' r T dx (i + 1) dp → Q .non H') (er : tok ts i ≠ tk → Er CT L r i H E) : sp_need K C CT [.ref r, .str W] H Q E := by
  subst eW
  refine ⟨L, ts, r, T, dx, i, dp, tk, rfl, hn, S, ?_⟩
  by_cases h : tok ts i = tk
  · exact .inl ⟨h, q h⟩
  · exact .inr ⟨h, er h⟩
theorem RdS.app {ts : List (List Nat)} {H H1 : Hp} {r T dx D : Addr} {i dp a dp' : Nat} {o : HO} (S0 : RdS K C L ts H r T dx i dp) (k : But (· = r) H H1) (S1 : RdS K C L ts H1 r T dx a dp') (nD : H D = none) : RdS K C L ts (L2.upd H1 D o) r T dx a dp' ∧ But (· = r) H (L2.upd H1 D o) := by
  have ne : r ≠ D := fun z => by have := S0.ins; rw [z, nD] at this; cases this
  have k2 : But (· = r) H (L2.upd H1 D o) := fun b u n h => by
    rw [upd_ne (fun z => by rw [z, nD] at h; cases h)]
    exact k b u n h
  exact ⟨⟨S1.cls, by rw [upd_ne ne]; exact S1.ins, SqL.but (S := (· = r)) S0.ne k2 S0.lst, S1.ne, S1.few⟩, k2⟩
theorem tail_ok {ts : List (List Nat)} {H H' : Hp} {r T dx D : Addr} {dp a : Nat} {Q : VK} {E : XK} {xs : List V} {acc : List PyData} (S : RdS K C L ts H' r T dx a (dp + 1)) (hD : H' D = some (.lst xs)) (al : DpAll K H' xs acc) (nl : ∀ d, d ∈ acc → Nol d) (k : But (· = r) H H') (q : ends K C CT L ts r T dx dp H Q E (.ok a (.tuple acc))) :
    ∃ x x_3 x_4, H' r = some (.ins x x_3 x_4) ∧ Cls K x ∧ NoAttr K x "deep" ∧ ∃ x_5, List.lookup ("deep" : Str) x_4 = some x_5 ∧ ∃ i, x_5 = V.int i ∧ ∃ dx' fs', H' r = some (.ins x dx' fs') ∧ fs'.length < 1000 ∧
      ∃ x_6, (SqL K (L2.upd H' r (.ins x dx' (putF "deep" (.int (i - 1)) fs'))) D x_6 ∧ ∀ l, (L2.upd H' r (.ins x dx' (putF "deep" (.int (i - 1)) fs'))) l = none → Q (.ref l) (L2.upd (L2.upd H' r (.ins x dx' (putF "deep" (.int (i - 1)) fs'))) l (.tup x_6))) ∨
        SqT K (L2.upd H' r (.ins x dx' (putF "deep" (.int (i - 1)) fs'))) D x_6 ∧ Q (.ref D) (L2.upd H' r (.ins x dx' (putF "deep" (.int (i - 1)) fs'))) := by
  refine ⟨C, dx, _, S.ins, S.cls.cls, S.cls.n5, _, rfl, _, rfl, dx, _, S.ins, (by show 5 < 1000; decide), ?_⟩
  obtain ⟨H2, e2, k2, S2⟩ := S.deepDn
  rw [e2]
  have ne : ¬ D = r := fun z => by have := S.ins; rw [← z, hD] at this; cases this
  refine ⟨xs, .inl ⟨.inl (.inl (k2 _ _ ne hD)), fun l nl' => ?_⟩⟩
  have e3 := same_new nl' (.tup xs)
  exact q _ _ ((k.trans k2).trans (Same.but e3)) (S2.same e3) (.tup (.inl (.inl upd_same)) (DpAll.same e3 (DpAll.but S.noTup k2 nl al))) (.tup nl)
/-- the loop's state -/
def vbI (K : PySem.W.Frag) (C : Addr) (ts : List (List Nat)) (r T dx D : Addr) (dp n : Nat) (H : Hp) (res : Res) (m : Nat) (σ : L2.St) (H' : Hp) : Prop := ∃ a acc xs, RdS K C L ts H' r T dx a (dp + 1) ∧ But (· = r) H H' ∧ H' D = some (.lst xs) ∧ DpAll K H' xs acc ∧ (∀ d, d ∈ acc → Nol d) ∧ acc.length + m ≤ 1100 ∧ PN (PV ts n) ts m a acc res ∧ σ = [some (.ref r), some (.ref D)]
theorem l_comma : (Str.ofString ",") = SX.S [44] := rfl
theorem fn_value_by (Z : Zb mg) (D : C8.Def K mg "value_by" s_value_by f fd) (b : Binds K fd ["reader"] []) {n : Nat} (G_MOST_DEEP : ∃ t, mg "MOST_DEEP" = some (.int 50 t)) (m_next_is : MetX P w K mg base 1 C "next_is" (sp_next_is K C)) (m_need : MetX P w K mg base 4 C "need" (sp_need K C CT)) (c_ratio_by : CalX P w K mg base 5 "ratio_by" (sp_ratio_by K C CT)) (c_value_by : CalX P w K mg base (n + 5) "value_by" (fun vs H Q E => 0 < n ∧ sp_value_by K C CT (n - 1) vs H Q E)) : CalX P w K mg base (n + 6) "value_by" (sp_value_by K C CT n) := by
  have nd := sc_value_by.nd
  refine calX D b sc_value_by (fun vs H Q E h => by obtain ⟨L, ts, r, T, dx, i, dp, res, rfl, _⟩ := h; rfl) fun cdv A outer s H vs Q E hr h => ?_
  obtain ⟨L, ts, r, T, dx, i, dp, res, rfl, S, hdp, hsz, hpv, q⟩ := h
  refine ⟨_, (pss_cons (ps_if (PW.pt (pw_or (pt_cmpR op_ge (pe_fld (pv 0) rfl) (pe_ci rfl G_MOST_DEEP) (nomark _)) (pw_or1 (pt_not (pt_val (pe_m m_next_is hr (by(omega)) tkw (pv 0) (pa_cons pe_str pa_nil))))))) (pss_one (ps_ret (pe_x c_ratio_by hr (by(omega)) tkw rfl (pa_cons (pv 0) pa_nil)))) pss_nil)
    (pss_cons (ps_if (pt_val (pe_m m_next_is hr (by(omega)) tkw (pv 0) (pa_cons pe_str pa_nil))) (pss_one (ps_ret (pe_tup pa_nil))) pss_nil)
    (pss_cons (ps_fldaug (pv 0) pe_int in_add)
    (pss_cons (ps_set (i := 1) nd rfl (Or.inl rfl) (pe_lst (pa_cons (pe_x c_value_by hr (by(omega)) tkw rfl (pa_cons (pv 0) pa_nil)) pa_nil)))
    (pss_cons (ps_expr (pe_m m_need hr (by(omega)) tkw (pv 0) (pa_cons pe_str pa_nil)))
    (pss_cons (ps_if (pt_not (pt_val (pe_m m_next_is hr (by(omega)) tkw (pv 0) (pa_cons pe_str pa_nil)))) (pss_cons (ps_expr (pe_bm PySem.F.plainAttrs_list PySem.F.slot_list_append PySem.F.type_list_append mt_append (pv 1) (pa_cons (pe_x c_value_by hr (by(omega)) tkw rfl (pa_cons (pv 0) pa_nil)) pa_nil)))
    (pss_cons (ps_while (L2.passes_of rfl) (pt_val (pe_m m_next_is hr (by(omega)) tkw (pv 0) (pa_cons pe_str pa_nil))) (pss_one (ps_expr (pe_bm PySem.F.plainAttrs_list PySem.F.slot_list_append PySem.F.type_list_append mt_append (pv 1) (pa_cons (pe_x c_value_by hr (by(omega)) tkw rfl (pa_cons (pv 0) pa_nil)) pa_nil)))))
    (pss_one (ps_expr (pe_m m_need hr (by(omega)) tkw (pv 0) (pa_cons pe_str pa_nil)))))) pss_nil)
    (pss_cons (ps_fldaug (pv 0) pe_int in_sub)
    (pss_one (ps_ret (pe_callTy call_tuple_of rfl Z.tuple PyProof.Rows.boot_tuple (pa_cons (pv 1) pa_nil))))))))))), ?_⟩
  walk_at "r"
  refine S.fDeep ⟨_, rfl, ?_⟩
  have rat : ∀ H1 E', But (· = r) H H1 → RdS K C L ts H1 r T dx i dp → tok ts i ≠ [40] → (∀ cls d H', E cls d H' → E' cls d H') → sp_ratio_by K C CT [.ref r] H1 Q E' := by
    intro H1 E' k S1 ht hE
    have e : res = pvR ts i := by
      cases n with
      | zero => exact hpv.2
      | succ n =>
        rcases hpv with h | h
        · exact h.2
        · exact absurd h.1 ht
    rw [e] at q
    refine ⟨L, ts, r, T, dx, i, dp, rfl, S1, hsz, ?_⟩
    have q1 := ends_mono k q
    cases h : pvR ts i with
    | ok a d => rw [h] at q1; exact q1
    | err e => rw [h] at q1; exact fun H' dd k2 x => hE _ _ _ (q1 H' dd k2 x)
  by_cases hd50 : 50 ≤ dp
  · rw [if_pos (decide_eq_true (by omega))]
    refine rat H _ (But.refl _ _) S ?_ (fun _ _ _ h => h)
    have : n = 0 := by omega
    subst this
    exact hpv.1
  rw [if_neg (fun z => by have := of_decide_eq_true z; omega)]
  refine ⟨dx, _, S.ins, rfl, ?_⟩
  refine next_split l_open S (by simp) fun bl st H0 eb est k0 S0 => ?_
  by_cases ht : tok ts i = [40]
  case neg =>
    rw [decide_eq_false ht] at eb
    rw [if_neg ht] at est
    subst eb est
    refine ⟨false, rfl, ?_⟩
    walk_at "T"
    exact rat H0 _ k0 S0 ht (fun _ _ _ h => h)
  rw [decide_eq_true ht] at eb
  rw [if_pos ht] at est
  subst eb est
  refine ⟨true, rfl, ?_⟩
  walk_at "F"
  obtain ⟨n, rfl, hp2⟩ : ∃ n', n = n' + 1 ∧ ((tok ts (i + 1) = [41] ∧ res = .ok (i + 2) (.tuple [])) ∨ (tok ts (i + 1) ≠ [41] ∧ PL (PV ts n') ts (i + 1) res)) := by
    cases n with
    | zero => exact absurd ht hpv.1
    | succ n =>
      rcases hpv with h | h
      · exact absurd ht h.1
      · exact ⟨n, rfl, h.2⟩
  refine ⟨dx, _, S0.ins, rfl, ?_⟩
  refine next_split l_close S0 (by simp) fun bl st H1 eb est k1 S1 => ?_
  have k01 := k0.trans k1
  rcases hp2 with ⟨hc, rfl⟩ | ⟨hc, hpl⟩
  · rw [decide_eq_true hc] at eb
    rw [if_pos hc] at est
    subst eb est
    refine ⟨true, rfl, ?_⟩
    walk_at "T"
    refine ⟨sz (by decide), fun p np => ?_⟩
    exact q _ _ (k01.trans (Same.but (same_new np _))) (S1.same (same_new np _)) (.tup (.inl (.inl upd_same)) .nil) (.tup fun _ h => nomatch h)
  rw [decide_eq_false hc] at eb
  rw [if_neg hc] at est
  subst eb est
  refine ⟨false, rfl, ?_⟩
  walk_at "F"
  refine ⟨C, dx, _, S1.ins, S1.cls.cls, S1.cls.n5, _, rfl, _, rfl, dx, _, S1.ins, (by show 5 < 1000; decide), ?_⟩
  obtain ⟨H2, e2, k2, S2⟩ := S1.deepUp
  rw [e2]
  have k02 := k01.trans k2
  refine val_split S2 (by omega) hsz ?_
  rcases hpl with ⟨e, he, rfl⟩ | ⟨a, d, hF, hpl⟩
  · exact .inl ⟨e, he, Er.mono q k02⟩
  refine .inr ⟨a, d, hF, fun v H3 k3 S3 hd3 nl3 => ?_⟩
  have k03 := k02.trans k3
  refine ⟨sz (by decide), fun D nD3 => ?_⟩
  have nD : H D = none := by
    cases h : H D with
    | none => rfl
    | some o =>
      have ne : ¬ D = r := fun z => by have := S3.ins; rw [← z, nD3] at this; cases this
      have := k03 D o ne h
      rw [nD3] at this; cases this
  obtain ⟨S4, k04⟩ := S.app (o := .lst [v]) k03 S3 nD
  refine ⟨dx, _, S4.ins, rfl, ?_⟩
  refine need_split l_comma S4 (by simp) (fun hc H5 k5 S5 => ?_) (fun hc => ?_)
  case refine_2 =>
    rcases hpl with ⟨_, rfl⟩ | ⟨h, _⟩ | ⟨h, _⟩
    · exact Er.mono q k04
    · exact absurd h hc
    · exact absurd h hc
  have k05 := k04.trans k5
  have neD : ∀ {H' : Hp} {a' dp' : Nat} {xs : List V}, RdS K C L ts H' r T dx a' dp' → H' D = some (.lst xs) → ¬ D = r := fun S h z => by have := S.ins; rw [← z, h] at this; cases this
  have hD4 : (L2.upd H3 D (.lst [v])) D = some (.lst [v]) := upd_same
  have hD5 : H5 D = some (.lst [v]) := k5 _ _ (neD S4 hD4) hD4
  have al4 : DpAll K (L2.upd H3 D (.lst [v])) [v] [d] := .cons (Dp.same (same_new nD3 _) hd3) .nil
  have nl1 : ∀ d', d' ∈ [d] → Nol d' := fun d' h => by rw [List.mem_singleton.mp h]; exact nl3
  have al5 : DpAll K H5 [v] [d] := DpAll.but S4.noTup k5 nl1 al4
  refine ⟨dx, _, S5.ins, rfl, ?_⟩
  refine next_split l_close S5 (by simp) fun bl st H6 eb est k6 S6 => ?_
  have k06 := k05.trans k6
  have hD6 : H6 D = some (.lst [v]) := k6 _ _ (neD S5 hD5) hD5
  have al6 : DpAll K H6 [v] [d] := DpAll.but S5.noTup k6 nl1 al5
  rcases hpl with ⟨h, _⟩ | ⟨_, hc2, rfl⟩ | ⟨_, hc2, hpl⟩
  · exact absurd hc h
  · rw [decide_eq_true hc2] at eb
    rw [if_pos hc2] at est
    subst eb est
    refine ⟨true, rfl, ?_⟩
    walk_at "F"
    exact tail_ok S6 hD6 al6 nl1 k06 q
  rw [decide_eq_false hc2] at eb
  rw [if_neg hc2] at est
  subst eb est
  refine ⟨false, rfl, ?_⟩
  walk_at "T"
  refine ⟨tyL hD6, ?_⟩
  refine val_split S6 (by omega) hsz ?_
  rcases hpl with ⟨e, he, rfl⟩ | ⟨b', d', hF2, m, hm, hpn⟩
  · exact .inl ⟨e, he, Er.mono q k06⟩
  refine .inr ⟨b', d', hF2, fun v' H7 k7 S7 hd7 nl7 => ?_⟩
  have k07 := k06.trans k7
  have hD7 : H7 D = some (.lst [v]) := k7 _ _ (neD S6 hD6) hD6
  have al7 : DpAll K H7 [v] [d] := DpAll.but S6.noTup k7 nl1 al6
  refine ⟨D, _, v', rfl, rfl, hD7, szL (by show 1 < 1000000; decide), ?_⟩
  -- the loop
  have step : ∀ {H' : Hp} {a' dp' : Nat} {xs : List V} {acc : List PyData} {v : V} {d : PyData}, RdS K C L ts H' r T dx a' dp' → But (· = r) H H' → H' D = some (.lst xs) → DpAll K H' xs acc → (∀ d, d ∈ acc → Nol d) → Dp K H' v d → Nol d →
      RdS K C L ts (L2.upd H' D (.lst (xs ++ [v]))) r T dx a' dp' ∧ But (· = r) H (L2.upd H' D (.lst (xs ++ [v]))) ∧ DpAll K (L2.upd H' D (.lst (xs ++ [v]))) (xs ++ [v]) (acc ++ [d]) ∧ (∀ d', d' ∈ acc ++ [d] → Nol d') := by
    intro H' a' dp' xs acc v d S' k' hD' al' nl' hd' nd'
    obtain ⟨S8, k8⟩ := S.app (o := .lst (xs ++ [v])) k' S' nD
    refine ⟨S8, k8, DpAll.append (DpAll.but (noTupD hD') (But.upd rfl) nl' al') (.cons (Dp.but (noTupD hD') (But.upd rfl) nd' hd') .nil), fun d2 h => ?_⟩
    rcases List.mem_append.mp h with h | h
    · exact nl' d2 h
    · rw [List.mem_singleton.mp h]; exact nd'
  obtain ⟨S8, k8, al8, nl8⟩ := step S7 k07 hD7 al7 nl1 hd7 nl7
  refine ⟨vbI K C ts r T dx D dp n H res, ⟨m, b', _, _, S8, k8, upd_same, al8, nl8, (by show 2 + m ≤ 1100; omega), hpn, rfl⟩, ?_⟩
  rintro m σ H' ⟨a', acc, xs, S9, k9, hD9, al9, nl9, hlen, hpn, rfl⟩
  walk_at "r"
  refine ⟨dx, _, S9.ins, rfl, ?_⟩
  refine next_split l_comma S9 (by simp) fun bl st H10 eb est k10 S10 => ?_
  have k010 := k9.trans k10
  have hD10 : H10 D = some (.lst xs) := k10 _ _ (neD S9 hD9) hD9
  have al10 : DpAll K H10 xs acc := DpAll.but S9.noTup k10 nl9 al9
  refine ⟨bl, rfl, ?_⟩
  by_cases hc3 : tok ts a' = [44]
  · rw [decide_eq_true hc3] at eb
    rw [if_pos hc3] at est
    subst eb est
    rw [if_pos rfl]
    refine ⟨_, fun _ _ h => h, tyL hD10, ?_⟩
    refine val_split S10 (by omega) hsz ?_
    cases m with
    | zero =>
      rcases hpn with ⟨h, _⟩ | ⟨h, _⟩
      · rw [hc3] at h; exact absurd h (by decide)
      · exact absurd hc3 h
    | succ m =>
      rcases hpn with ⟨_, h⟩ | ⟨h, _⟩ | ⟨h, _⟩
      · rcases h with ⟨e, he, rfl⟩ | ⟨b2, d2, hF3, hpn⟩
        · exact .inl ⟨e, he, Er.mono q k010⟩
        refine .inr ⟨b2, d2, hF3, fun v11 H11 k11 S11 hd11 nl11 => ?_⟩
        have k011 := k010.trans k11
        have hD11 : H11 D = some (.lst xs) := k11 _ _ (neD S10 hD10) hD10
        have al11 : DpAll K H11 xs acc := DpAll.but S10.noTup k11 nl9 al10
        obtain ⟨S12, k12, al12, nl12⟩ := step S11 k011 hD11 al11 nl9 hd11 nl11
        have hx := DpAll.length al11
        refine ⟨D, _, v11, rfl, rfl, hD11, szL (by omega), m, Nat.lt_succ_self m, b2, _, _, S12, k12, upd_same, al12, nl12, (by rw [List.length_append]; show acc.length + 1 + m ≤ 1100; omega), hpn, rfl⟩
      · rw [hc3] at h; exact absurd h (by decide)
      · exact absurd hc3 h
  · rw [decide_eq_false hc3] at eb
    rw [if_neg hc3] at est
    subst eb est
    rw [if_neg (by decide)]
    have hpn2 : (tok ts st = [41] ∧ res = .ok (st + 1) (.tuple acc)) ∨ (tok ts st ≠ [44] ∧ tok ts st ≠ [41] ∧ res = .err st) := by
      cases m with
      | zero => exact hpn
      | succ m =>
        rcases hpn with ⟨h, _⟩ | h
        · exact absurd h hc3
        · exact h
    refine ⟨dx, _, S10.ins, rfl, ?_⟩
    refine need_split l_close S10 (by simp) (fun hc4 H11 k11 S11 => ?_) (fun hc4 => ?_)
    · rcases hpn2 with ⟨_, rfl⟩ | ⟨_, h, _⟩
      · exact tail_ok S11 (k11 _ _ (neD S10 hD10) hD10) (DpAll.but S10.noTup k11 nl9 al10) nl9 (k010.trans k11) q
      · exact absurd hc4 h
    · rcases hpn2 with ⟨h, _⟩ | ⟨_, _, rfl⟩
      · exact absurd h hc4
      · exact Er.mono q k010
theorem ok_value_by (Z : Zb mg) (D : C8.Def K mg "value_by" s_value_by f fd) (b : Binds K fd ["reader"] []) (G_MOST_DEEP : ∃ t, mg "MOST_DEEP" = some (.int 50 t)) (m_next_is : MetX P w K mg base 1 C "next_is" (sp_next_is K C)) (m_need : MetX P w K mg base 4 C "need" (sp_need K C CT)) (c_ratio_by : CalX P w K mg base 5 "ratio_by" (sp_ratio_by K C CT)) : ∀ n, CalX P w K mg base (n + 6) "value_by" (sp_value_by K C CT n)
  | 0 => fn_value_by Z D b G_MOST_DEEP m_next_is m_need c_ratio_by ((CalX.none D b _).imp fun _ _ _ _ h => absurd h.1 (Nat.lt_irrefl 0))
  | n + 1 => fn_value_by Z D b G_MOST_DEEP m_next_is m_need c_ratio_by ((ok_value_by Z D b G_MOST_DEEP m_next_is m_need c_ratio_by n).imp fun _ _ _ _ h => h.2)
end
end FP
set_option maxHeartbeats 4000000
namespace FP
open PySem PySem.Spec PyProof.Rows L2
local macro_rules | `(tactic| walk_at "rd") => `(tactic| dsimp only [tVar, tC, tCmp, tIsN, tNotN, tB, tAnd, tOr, tNot, tAndV, tOrV, tNotV, tIf, tNext, tSeq, tBreak, tCont, tDrop, tRet, tRetN, tIfS, tNever, tAsg, tPar, tAug, tOp, tUn, tTest, tChain, tFld, tNil, tCons, tTup, tLst, tCB, iList, iTup, iStr, tLc, tM0, tM1, tPart, tNoPart, tSl, tBM, tCallS, tCallSD, tMethW, tMake, sDPut, tDisp, tPairs, WE, tDGet, tDIn, gName, gTup, gCons, gNil, gSub, sFld, sFldAug, rI, rI0, rU, rEq, rNe, rAdd, rSub, t2I, tYes, cx_K, cx_w, cx_prog])
local macro_rules | `(tactic| walk_at "rs") => `(tactic| (try simp (maxSteps := 4000000) only [L2.start, List.map_cons, List.map_nil, List.length_cons, List.length_nil, List.cons_append, List.nil_append, Nat.reduceAdd, Nat.reduceSub, Nat.zero_add, List.replicate, List.getElem?_cons_zero, List.getElem?_cons_succ, Option.some.injEq, exists_eq_left', exists_eq_left, V.int.injEq, V.str.injEq, V.bl.injEq, V.ref.injEq, List.set_cons_zero, List.set_cons_succ, exists_and_left, List.cons.injEq, and_true, true_and, wipe, if_true, if_false, Bool.not_true, Bool.not_false, Bool.false_eq_true, decide_true, decide_false]))
local macro_rules | `(tactic| walk_at "r") => `(tactic| (walk_at "rd"; walk_at "rs"))
local macro_rules | `(tactic| walk_at "T") => `(tactic| (rw [if_pos (by first | assumption | rfl | decide | exact decide_eq_true (by assumption) | (simp [tyOf]; done) | (simp; omega) | omega)]; walk_at "rs"))
local macro_rules | `(tactic| walk_at "F") => `(tactic| (rw [if_neg (by first | assumption | decide | (simp [tyOf]; done) | (simp; omega) | (simp; assumption) | omega)]; walk_at "rs"))
structure MkX (P : Program) (w : World) (K : PySem.W.Frag) (mg : Str → Option Value) (base : Heap) (k : Nat) (x : Str) (C : Addr) (sp : Sp) : Prop where
  ex : ∃ (f : Addr) (fd : FuncData) (ps : List Str), Mk K C f ∧ FnOk P w K mg base (L2N.CX P w) k f fd ps sp ∧ mg x = some (.ref C) ∧ Binds K fd ps []
section
variable {X : Cx} {k j : Nat} {C : Addr} {x : Str} {sp : Sp} {p pos : Pos} {e : Expr} {es : List Expr} {t : TA}
theorem pe_mk (c : MkX X.prog X.w X.K X.mg X.base k x C sp) (hr : Room j X.A) (hk : k + 1 ≤ j) (hg : Gl X x) (ha : PA X (e :: es) t)
    (hdb : (x == ("__debug__" : Str)) = false := by decide) (he : starEach (e :: es) X.env = (false, eval e X.env) :: starEach es X.env := by rfl) (hpl : (backTo pos (starEach es X.env)).any (·.1) = false := by rfl) :
    PE X (.Call (.Name x p) (e :: es) [] pos) (tMake C sp [] (fun _ _ _ => False) t) := by
  obtain ⟨f, fd, ps, M, F, hm, hb⟩ := c.ex
  refine pe_make M F (hr.mono hk) hg hm hb .nil (fun _ _ _ _ _ _ _ h => ?_) ha hdb he hpl
  obtain ⟨_, _, _, _, _, _, _, _, _, _, _, _, z⟩ := h
  exact z.elim
end
section
variable {P : Program} {w : World} {K : PySem.W.Frag} {mg : Str → Option Value} {base : Heap} {f : Addr} {fd : FuncData} {C CT : Addr} {L : Int}
def fin1 (ts : List (List Nat)) : Res → Res
  | .ok a d => if ts.length ≤ a then .ok a d else .err a
  | .err e => .err e
def endsS (K : PySem.W.Frag) (CT : Addr) (L : Int) (H : Hp) (Q : VK) (E : XK) : Res → Prop
  | .ok _ d => ∀ v H', Same H H' → Dp K H' v d → Nol d → Q v H'
  | .err e => ∀ H' dd, Same H H' → H' dd = some (.xd [("word", .int ((e + 1 : Nat) : Int)), ("line", .int L)]) → E (.ref CT) (some dd) H'
def sp_value_in (K : PySem.W.Frag) (CT : Addr) (n : Nat) : Sp := fun vs H Q E => ∃ (L : Int) (ts : List (List Nat)) (T : Addr) (a0 : Nat) (res : Res), vs = [.ref T, .int (a0 : Nat), .int L] ∧ SqL K H T (ts.map fun x => V.str (SX.S x)) ∧ (∃ xs, H T = some (.lst xs)) ∧ ts.length ≤ 100000 ∧ (∀ t, t ∈ ts → t.length ≤ 100000) ∧ PV ts n a0 res ∧ endsS K CT L H Q E (fin1 ts res)
theorem ok_value_in (D : C8.Def K mg "value_in" s_value_in f fd) (b : Binds K fd ["tokens", "at", "line"] []) {n : Nat} (hn : n ≤ 50) (RC : RdC K C) (MK_Reader : MkX P w K mg base 1 "Reader" C (sp_init K C)) (c_value_by : CalX P w K mg base (n + 6) "value_by" (sp_value_by K C CT n)) (m_end : MetX P w K mg base 4 C "end" (sp_end K C CT)) : CalX P w K mg base (n + 7) "value_in" (sp_value_in K CT n) := by
  have nd := sc_value_in.nd
  refine calX D b sc_value_in (fun vs H Q E h => by obtain ⟨L, ts, T, a0, res, rfl, _⟩ := h; rfl) fun cdv A outer s H vs Q E hr h => ?_
  obtain ⟨L, ts, T, a0, res, rfl, sl, hT, few, hsz, hpv, q⟩ := h
  refine ⟨_, (pss_cons (ps_set (i := 3) nd rfl (Or.inl rfl) (pe_mk MK_Reader hr (by(omega)) rfl (pa_cons (pv 0) (pa_cons (pv 2) pa_nil))))
    (pss_cons (ps_fld (pv 3) (pv 1) rfl)
    (pss_cons (ps_set (i := 4) nd rfl (Or.inl rfl) (pe_x c_value_by hr (by(omega)) tkw rfl (pa_cons (pv 3) pa_nil)))
    (pss_cons (ps_expr (pe_m0 m_end hr (by(omega)) tkw (pv 3)))
    (pss_one (ps_ret (pv 4))))))), ?_⟩
  walk_at "r"
  intro r dx nr ndx ne
  have nT : T ≠ r := fun z => by obtain ⟨xs, h⟩ := hT; rw [z, nr] at h; cases h
  have e0 : Same H (upd (upd H dx (.own r)) r (.ins C dx [])) := (same_new ndx _).trans (same_new (by rw [upd_ne (Ne.symm ne)]; exact nr) _)
  refine ⟨L, ts, r, T, dx, rfl, RC, upd_same, e0.seq sl, nT, few, fun H1 k1 S1 => ⟨rfl, ?_⟩⟩
  have e1 : Same H H1 := Same.of_but nr (o := .ins C dx []) (H2 := H1) (fun b o n h => by
    refine k1 b o n ?_
    rw [upd_ne n] at h
    exact e0 b o h)
  walk_at "rs"
  refine ⟨C, dx, _, S1.ins, S1.cls.cls, S1.cls.n3, (by show 5 < 1000; decide), ?_⟩
  have S2 := S1.putS a0
  have k2 : But (· = r) H1 (upd H1 r (.ins C dx (putF "at" (.int ((a0 : Nat) : Int)) (rdF L T ((0 : Nat) : Int) ((0 : Nat) : Int))))) := But.upd rfl
  have up : ∀ {H'}, But (· = r) (upd H1 r (.ins C dx (putF "at" (.int ((a0 : Nat) : Int)) (rdF L T ((0 : Nat) : Int) ((0 : Nat) : Int))))) H' → Same H H' := fun k b o h => by
    refine (k2.trans k) b o (fun z => ?_) (e1 b o h)
    rw [z, nr] at h; cases h
  refine ⟨L, ts, r, T, dx, a0, 0, res, rfl, S2, by omega, hsz, hpv, ?_⟩
  cases res with
  | err e => exact fun H' dd k x => q H' dd (up k) x
  | ok a d =>
    intro v H3 k3 S3 hd nl
    walk_at "rs"
    refine ⟨dx, _, S3.ins, rfl, L, ts, r, T, dx, a, 0, rfl, S3, ?_⟩
    have q : endsS K CT L H Q E (if ts.length ≤ a then .ok a d else .err a) := q
    by_cases hl : ts.length ≤ a
    · rw [if_pos hl] at q
      exact .inl ⟨hl, q v H3 (up k3) hd nl⟩
    · rw [if_neg hl] at q
      exact .inr ⟨by omega, fun H' dd k x => q H' dd (up (k3.trans k)) x⟩
theorem Toks.each : ∀ {t : List Nat} {ts : List (List Nat)}, Toks t ts → ∀ u, u ∈ ts → u.length ≤ t.length
  | _, _, .nil, _, h => nomatch h
  | _, _, .sp h, u, m => Nat.le_succ_of_le (Toks.each h u m)
  | _, _, .one _ _ _ h, u, m => by
    rcases List.mem_cons.mp m with rfl | m
    · simp
    · exact Nat.le_succ_of_le (Toks.each h u m)
  | _, _, .fig (c := c) (w := w) (r := r) _ _ h, u, m => by
    rcases List.mem_cons.mp m with rfl | m
    · simp
    · have := Toks.each h u m; simp; omega
  | _, _, .ltr (c := c) (w := w) (r := r) _ _ h, u, m => by
    rcases List.mem_cons.mp m with rfl | m
    · simp
    · have := Toks.each h u m; simp; omega
end
end FP
set_option maxHeartbeats 4000000
namespace FP
open PySem PySem.Spec PyProof.Rows L2
local macro_rules | `(tactic| walk_at "rd") => `(tactic| dsimp only [tVar, tC, tCmp, tIsN, tNotN, tB, tAnd, tOr, tNot, tAndV, tOrV, tNotV, tIf, tNext, tSeq, tBreak, tCont, tDrop, tRet, tRetN, tIfS, tNever, tAsg, tPar, tAug, tOp, tUn, tTest, tChain, tFld, tNil, tCons, tTup, tLst, tCB, iList, iTup, iStr, tLc, tM0, tM1, tPart, tNoPart, tSl, tBM, tCallS, tCallSD, tMethW, tMake, sDPut, tDisp, tPairs, WE, tDGet, tDIn, gName, gTup, gCons, gNil, gSub, sFld, sFldAug, rI, rI0, rU, rEq, rNe, rAdd, rSub, t2I, tYes, cx_K, cx_w, cx_prog])
local macro_rules | `(tactic| walk_at "rs") => `(tactic| (try simp (maxSteps := 4000000) only [L2.start, List.map_cons, List.map_nil, List.length_cons, List.length_nil, List.cons_append, List.nil_append, Nat.reduceAdd, Nat.reduceSub, Nat.zero_add, List.replicate, List.getElem?_cons_zero, List.getElem?_cons_succ, Option.some.injEq, exists_eq_left', exists_eq_left, V.int.injEq, V.str.injEq, V.bl.injEq, V.ref.injEq, List.set_cons_zero, List.set_cons_succ, exists_and_left, List.cons.injEq, and_true, true_and, wipe, if_true, if_false, Bool.not_true, Bool.not_false, Bool.false_eq_true, decide_true, decide_false]))
local macro_rules | `(tactic| walk_at "r") => `(tactic| (walk_at "rd"; walk_at "rs"))
local macro_rules | `(tactic| walk_at "T") => `(tactic| (rw [if_pos (by first | assumption | rfl | decide | exact decide_eq_true (by assumption) | (simp [tyOf]; done) | (simp; omega) | omega)]; walk_at "rs"))
local macro_rules | `(tactic| walk_at "F") => `(tactic| (rw [if_neg (by first | assumption | decide | (simp [tyOf]; done) | (simp; omega) | (simp; assumption) | omega)]; walk_at "rs"))
/-! ### the pen -/
def penK (T : Addr) (at_ dg ct fo : Int) : List (Key × V) := [(.inr "cells", .ref T), (.inr "at", .int at_), (.inr "digits", .int dg), (.inr "count", .int ct), (.inr "fold", .int fo)]
theorem pg1 {T : Addr} {a d c f : Int} : valV (penK T a d c f) (.inr "cells") = some (.ref T) := rfl
theorem pg2 {T : Addr} {a d c f : Int} : valV (penK T a d c f) (.inr "at") = some (.int a) := rfl
theorem pg3 {T : Addr} {a d c f : Int} : valV (penK T a d c f) (.inr "digits") = some (.int d) := rfl
theorem pg4 {T : Addr} {a d c f : Int} : valV (penK T a d c f) (.inr "count") = some (.int c) := rfl
theorem pg5 {T : Addr} {a d c f : Int} : valV (penK T a d c f) (.inr "fold") = some (.int f) := rfl
theorem pp2 {T : Addr} {a d c f x : Int} : putK (penK T a d c f) (.inr "at") (.int x) = penK T x d c f := rfl
theorem pp3 {T : Addr} {a d c f x : Int} : putK (penK T a d c f) (.inr "digits") (.int x) = penK T a x c f := rfl
theorem pp4 {T : Addr} {a d c f x : Int} : putK (penK T a d c f) (.inr "count") (.int x) = penK T a d x f := rfl
theorem pp5 {T : Addr} {a d c f x : Int} : putK (penK T a d c f) (.inr "fold") (.int x) = penK T a d c x := rfl
/-- a pen's state -/
structure PenS (K : PySem.W.Frag) (H : Hp) (p T : Addr) (cells : List Int) (at_ : Nat) (dg ct fo : Int) : Prop where
  d : H p = some (.dK (penK T (at_ : Nat) dg ct fo))
  l : SqL K H T (cells.map V.int)
  ne : ¬ T = p
  n0 : 0 ≤ dg
  f0 : 0 ≤ fo
  f1 : fo < 2147483648
def Pen (K : PySem.W.Frag) (H : Hp) (p : Addr) (tc : Addr × List Int) : Prop := ∃ at_ dg ct fo, PenS K H p tc.1 tc.2 at_ dg ct fo
section
variable {K : PySem.W.Frag} {H : Hp} {p T : Addr} {cells : List Int} {at_ : Nat} {dg ct fo : Int}
theorem PenS.g1 (S : PenS K H p T cells at_ dg ct fo) : DGet H p (.str "cells") (some (.ref T)) := .inl ⟨_, .inr "cells", .inl S.d, rfl, rfl⟩
theorem PenS.g2 (S : PenS K H p T cells at_ dg ct fo) : DGet H p (.str "at") (some (.int (at_ : Nat))) := .inl ⟨_, .inr "at", .inl S.d, rfl, rfl⟩
theorem PenS.g3 (S : PenS K H p T cells at_ dg ct fo) : DGet H p (.str "digits") (some (.int dg)) := .inl ⟨_, .inr "digits", .inl S.d, rfl, rfl⟩
theorem PenS.g4 (S : PenS K H p T cells at_ dg ct fo) : DGet H p (.str "count") (some (.int ct)) := .inl ⟨_, .inr "count", .inl S.d, rfl, rfl⟩
theorem PenS.g5 (S : PenS K H p T cells at_ dg ct fo) : DGet H p (.str "fold") (some (.int fo)) := .inl ⟨_, .inr "fold", .inl S.d, rfl, rfl⟩
theorem PenS.up (S : PenS K H p T cells at_ dg ct fo) (a2 : Nat) (d2 c2 f2 : Int) (h0 : 0 ≤ d2) (h1 : 0 ≤ f2) (h2 : f2 < 2147483648) : But (· = p) H (L2.upd H p (.dK (penK T (a2 : Nat) d2 c2 f2))) ∧ PenS K (L2.upd H p (.dK (penK T (a2 : Nat) d2 c2 f2))) p T cells a2 d2 c2 f2 :=
  ⟨But.upd rfl, upd_same, SqL.but (S := (· = p)) S.ne (But.upd rfl) S.l, S.ne, h0, h1, h2⟩
theorem PenS.s2 (S : PenS K H p T cells at_ dg ct fo) {x : Int} (n : Nat) (e : x = (n : Nat)) : ∃ H', DPut H p (.str "at") (.int x) H' ∧ But (· = p) H H' ∧ PenS K H' p T cells n dg ct fo := by
  subst e
  exact ⟨_, .inl ⟨_, .inr "at", S.d, rfl, szL (by show 5 < 1000000; decide), rfl⟩, S.up n dg ct fo S.n0 S.f0 S.f1⟩
theorem PenS.s3 (S : PenS K H p T cells at_ dg ct fo) (x : Int) (h : 0 ≤ x) : ∃ H', DPut H p (.str "digits") (.int x) H' ∧ But (· = p) H H' ∧ PenS K H' p T cells at_ x ct fo :=
  ⟨_, .inl ⟨_, .inr "digits", S.d, rfl, szL (by show 5 < 1000000; decide), rfl⟩, S.up at_ x ct fo h S.f0 S.f1⟩
theorem PenS.s4 (S : PenS K H p T cells at_ dg ct fo) (x : Int) : ∃ H', DPut H p (.str "count") (.int x) H' ∧ But (· = p) H H' ∧ PenS K H' p T cells at_ dg x fo :=
  ⟨_, .inl ⟨_, .inr "count", S.d, rfl, szL (by show 5 < 1000000; decide), rfl⟩, S.up at_ dg x fo S.n0 S.f0 S.f1⟩
theorem PenS.s5 (S : PenS K H p T cells at_ dg ct fo) (x : Int) (h : 0 ≤ x) (h2 : x < 2147483648) : ∃ H', DPut H p (.str "fold") (.int x) H' ∧ But (· = p) H H' ∧ PenS K H' p T cells at_ dg ct x :=
  ⟨_, .inl ⟨_, .inr "fold", S.d, rfl, szL (by show 5 < 1000000; decide), rfl⟩, S.up at_ dg ct x S.n0 h h2⟩
end
theorem cmulM {i x : Int} : CMul i (x % 2147483647) := by
  have h1 : 0 ≤ x % 2147483647 := Int.emod_nonneg _ (by decide)
  have h2 : x % 2147483647 < 2147483647 := Int.emod_lt_of_pos _ (by decide)
  exact .inr ⟨Int.lt_of_lt_of_le (by decide) h1, Int.lt_trans h2 (by decide)⟩
theorem cmulR {i j : Int} (h : -(2 ^ 64) < j ∧ j < 2 ^ 64) : CMul i j := .inr h
section
variable {P : Program} {w : World} {K : PySem.W.Frag} {mg : Str → Option Value} {base : Heap} {f : Addr} {fd : FuncData}
def sp_law_draw (K : PySem.W.Frag) : Sp := fun vs H Q _ => ∃ p tc m, vs = [.ref p, .int m] ∧ 0 < m ∧ m < 1073741824 ∧ Pen K H p tc ∧ ∀ d H', 0 ≤ d → d < m → But (· = p) H H' → Pen K H' p tc → Q (.int d) H'
theorem ok_law_draw (Z : Zb mg) (D : C8.Def K mg "_law_draw" s_law_draw f fd) (b : Binds K fd ["pen", "many"] []) : CalX P w K mg base 1 "_law_draw" (sp_law_draw K) := by
  have nd := sc_law_draw.nd
  refine calX D b sc_law_draw (fun vs H Q E h => by obtain ⟨p, tc, m, rfl, _⟩ := h; rfl) fun cdv A outer s H vs Q E hr h => ?_
  obtain ⟨p, ⟨T, cells⟩, m, rfl, m0, m1, ⟨at_, dg, ct, fo, S⟩, q⟩ := h
  replace S : PenS K H p T cells at_ dg ct fo := S
  refine ⟨_, (pss_cons (ps_dput (hu_of hr) (pv 0) pe_str (pe_op op_add (pe_dget (hu_of hr) (pv 0) pe_str (fun _ _ => rfl)) pe_int) rfl)
    (pss_cons (ps_if (PW.pt (pw_and (pt_cmpR op_eq (pe_dget (hu_of hr) (pv 0) pe_str (fun _ _ => rfl)) pe_int (nomark _)) (pw_and1 (pt_cmpR op_lt (pe_dget (hu_of hr) (pv 0) pe_str (fun _ _ => rfl)) (pe_callB call_len rfl Z.len PySem.boot_len (pa_cons (pe_dget (hu_of hr) (pv 0) pe_str (fun _ _ => rfl)) pa_nil)) (nomark _))))) (pss_cons (ps_set (i := 2) nd rfl (Or.inl rfl) (pe_ix ix_list (pe_dget (hu_of hr) (pv 0) pe_str (fun _ _ => rfl)) (pe_dget (hu_of hr) (pv 0) pe_str (fun _ _ => rfl)) (fun _ _ => rfl)))
    (pss_cons (ps_dput (hu_of hr) (pv 0) pe_str (pe_op op_add (pe_dget (hu_of hr) (pv 0) pe_str (fun _ _ => rfl)) pe_int) rfl)
    (pss_one (ps_if (pt_cmpR op_ge (pv 2) (pe_op op_pow2 pe_int pe_int) (nomark _)) (pss_one (ps_dput (hu_of hr) (pv 0) pe_str (pe_op op_sub (pv 2) (pe_op op_pow2 pe_int pe_int)) rfl)) (pss_one (ps_dput (hu_of hr) (pv 0) pe_str (pe_op op_mod (pe_callTy call_int1 rfl Z.int PyProof.Rows.boot_int (pa_cons (pe_op op_add (pe_op op_mul (pe_dget (hu_of hr) (pv 0) pe_str (fun _ _ => rfl)) pe_int) (pv 2)) pa_nil)) pe_int) rfl)))))) pss_nil)
    (pss_cons (ps_if (pt_cmpR op_gt (pe_dget (hu_of hr) (pv 0) pe_str (fun _ _ => rfl)) pe_int (nomark _)) (pss_cons (ps_set (i := 3) nd rfl (Or.inl rfl) (pe_op op_mod (pe_callTy call_int1 rfl Z.int PyProof.Rows.boot_int (pa_cons (pe_dget (hu_of hr) (pv 0) pe_str (fun _ _ => rfl)) pa_nil)) (pv 1)))
    (pss_cons (ps_dput (hu_of hr) (pv 0) pe_str (pe_op op_fdiv (pe_dget (hu_of hr) (pv 0) pe_str (fun _ _ => rfl)) (pv 1)) rfl)
    (pss_one (ps_ret (pv 3))))) pss_nil)
    (pss_cons (ps_set (i := 4) nd rfl (Or.inl rfl) (pe_op op_mod (pe_callTy call_int1 rfl Z.int PyProof.Rows.boot_int (pa_cons (pe_op op_add (pe_op op_add (pe_op op_mul (pe_dget (hu_of hr) (pv 0) pe_str (fun _ _ => rfl)) pe_int) (pe_op op_mul (pe_dget (hu_of hr) (pv 0) pe_str (fun _ _ => rfl)) pe_int)) pe_int) pa_nil)) pe_int))
    (pss_cons (ps_set (i := 4) nd rfl (Or.inl rfl) (pe_op op_mod (pe_callTy call_int1 rfl Z.int PyProof.Rows.boot_int (pa_cons (pe_op op_add (pe_op op_add (pe_op op_mul (pv 4) (pv 4)) (pe_op op_mul pe_int (pv 4))) (pe_dget (hu_of hr) (pv 0) pe_str (fun _ _ => rfl))) pa_nil)) pe_int))
    (pss_cons (ps_dput (hu_of hr) (pv 0) pe_str (pe_op op_mod (pe_callTy call_int1 rfl Z.int PyProof.Rows.boot_int (pa_cons (pe_op op_add (pe_op op_mul (pv 4) pe_int) pe_int) pa_nil)) pe_int) rfl)
    (pss_one (ps_ret (pe_op op_mod (pe_callTy call_int1 rfl Z.int PyProof.Rows.boot_int (pa_cons (pe_op op_fdiv (pv 4) pe_int) pa_nil)) (pv 1)))))))))), ?_⟩
  walk_at "r"
  obtain ⟨H1, e1, k1, S1⟩ := S.s4 (ct + 1)
  refine ⟨_, S.g4, _, rfl, H1, e1, _, S1.g3, rfl, ?_⟩
  have four : dg ≠ 0 ∨ (dg = 0 ∧ ¬ at_ < cells.length) ∨ (∃ c, dg = 0 ∧ at_ < cells.length ∧ cells[at_]? = some c ∧ 10 ^ 18 ≤ c) ∨ (∃ c, dg = 0 ∧ at_ < cells.length ∧ cells[at_]? = some c ∧ ¬ 10 ^ 18 ≤ c) := by
    by_cases hz : dg = 0
    · by_cases hc : at_ < cells.length
      · by_cases h18 : 10 ^ 18 ≤ cells[at_]
        · exact .inr (.inr (.inl ⟨_, hz, hc, List.getElem?_eq_getElem hc, h18⟩))
        · exact .inr (.inr (.inr ⟨_, hz, hc, List.getElem?_eq_getElem hc, h18⟩))
      · exact .inr (.inl ⟨hz, hc⟩)
    · exact .inl hz
  have eI : ∀ {i j : Int}, decide (V.int i = V.int j) = decide (i = j) := fun {i j} => by
    by_cases h : i = j
    · subst h; rw [decide_eq_true rfl, decide_eq_true rfl]
    · rw [decide_eq_false h, decide_eq_false]
      intro z; injection z with z; exact h z
  rw [eI]
  rcases four with hz | ⟨hz, hc⟩ | ⟨c, hz, hc, hget, h18⟩ | ⟨c, hz, hc, hget, h18⟩
  case' inl =>
    rw [if_neg (fun z => hz (of_decide_eq_true z))]
    have S2 := S1
    have k2 := k1
  case' inr.inl =>
    rw [if_pos (decide_eq_true hz)]
    refine ⟨_, S1.g2, _, S1.g1, _, .inl ⟨_, S1.l, rfl⟩, _, rfl, ?_⟩
    rw [List.length_map, if_neg (fun z => hc (by have := of_decide_eq_true z; omega))]
    have S2 := S1
    have k2 := k1
  case' inr.inr.inl =>
    rw [if_pos (decide_eq_true hz)]
    refine ⟨_, S1.g2, _, S1.g1, _, .inl ⟨_, S1.l, rfl⟩, _, rfl, ?_⟩
    rw [List.length_map, if_pos (decide_eq_true (by omega))]
    refine ⟨_, S1.g1, _, S1.g2, ixL S1.l (atI_nat (by rw [List.getElem?_map, hget]; rfl)) ⟨_, S1.g2, _, rfl, ?_⟩⟩
    obtain ⟨H1', e1', k1', S1'⟩ := S1.s2 (x := ((at_ : Nat) : Int) + 1) (at_ + 1) (by omega)
    refine ⟨H1', e1', ⟨by decide, by decide +kernel⟩, _, rfl, ?_⟩
    rw [show Int.toNat 18 = 18 from rfl, if_pos (decide_eq_true h18)]
    obtain ⟨H2, e2, k2, S2⟩ := S1'.s3 (c - 10 ^ 18) (by omega)
    refine ⟨⟨by decide, by decide +kernel⟩, _, rfl, H2, e2, ?_⟩
    replace k2 := (k1.trans k1').trans k2
  case' inr.inr.inr =>
    rw [if_pos (decide_eq_true hz)]
    refine ⟨_, S1.g2, _, S1.g1, _, .inl ⟨_, S1.l, rfl⟩, _, rfl, ?_⟩
    rw [List.length_map, if_pos (decide_eq_true (by omega))]
    refine ⟨_, S1.g1, _, S1.g2, ixL S1.l (atI_nat (by rw [List.getElem?_map, hget]; rfl)) ⟨_, S1.g2, _, rfl, ?_⟩⟩
    obtain ⟨H1', e1', k1', S1'⟩ := S1.s2 (x := ((at_ : Nat) : Int) + 1) (at_ + 1) (by omega)
    refine ⟨H1', e1', ⟨by decide, by decide +kernel⟩, _, rfl, ?_⟩
    rw [show Int.toNat 18 = 18 from rfl, if_neg (fun z => h18 (of_decide_eq_true z))]
    refine ⟨_, S1'.g5, _, rfl, cmulR (by decide), _, rfl, .inl ⟨by decide, ?_⟩⟩
    obtain ⟨H2, e2, k2, S2⟩ := S1'.s5 ((fo * 69069 + c) % 2147483587) (Int.emod_nonneg _ (by decide)) (Int.lt_trans (Int.emod_lt_of_pos _ (by decide)) (by decide))
    refine ⟨H2, e2, ?_⟩
    replace k2 := (k1.trans k1').trans k2
  all_goals
    refine ⟨_, S2.g3, _, rfl, ?_⟩
    refine ite2 (fun h0 => ?_) (fun h0 => ?_)
    · have d0 := of_decide_eq_true h0
      obtain ⟨H3, e3, k3, S3⟩ := S2.s3 (_ / m) (Int.ediv_nonneg S2.n0 (by omega))
      exact ⟨_, S2.g3, .inl ⟨_, rfl, m0, _, S2.g3, _, rfl, ⟨m0, m1⟩, H3, e3, q _ _ (Int.emod_nonneg _ (by omega)) (Int.emod_lt_of_pos _ m0) (k2.trans k3) ⟨_, _, _, _, S3⟩⟩⟩
    · refine ⟨_, S2.g5, _, rfl, cmulR (by decide), _, S2.g4, _, rfl, cmulR (by decide), .inl ⟨by decide, ?_⟩⟩
      refine ⟨cmulM, cmulM, _, S2.g4, _, rfl, .inl ⟨by decide, cmulR (by decide), .inl ⟨by decide, ?_⟩⟩⟩
      obtain ⟨H3, e3, k3, S3⟩ := S2.s5 (_ % 2147483647) (Int.emod_nonneg _ (by decide)) (Int.lt_trans (Int.emod_lt_of_pos _ (by decide)) (by decide))
      exact ⟨H3, e3, ⟨by decide, by decide⟩, .inl ⟨m0, q _ _ (Int.emod_nonneg _ (by omega)) (Int.emod_lt_of_pos _ m0) (k2.trans k3) ⟨_, _, _, _, S3⟩⟩⟩
end
end FP
set_option maxHeartbeats 4000000
namespace FP
open PySem PySem.Spec PyProof.Rows L2
local macro_rules | `(tactic| walk_at "rd") => `(tactic| dsimp only [tVar, tC, tCmp, tIsN, tNotN, tB, tAnd, tOr, tNot, tAndV, tOrV, tNotV, tIf, tNext, tSeq, tBreak, tCont, tDrop, tRet, tRetN, tIfS, tNever, tAsg, tPar, tAug, tOp, tUn, tTest, tChain, tFld, tNil, tCons, tTup, tLst, tCB, iList, iTup, iStr, tLc, tM0, tM1, tPart, tNoPart, tSl, tBM, tCallS, tCallSD, tMethW, tMake, sDPut, tDisp, tPairs, WE, tDGet, tDIn, gName, gTup, gCons, gNil, gSub, sFld, sFldAug, rI, rI0, rU, rEq, rNe, rAdd, rSub, t2I, tYes, cx_K, cx_w, cx_prog])
local macro_rules | `(tactic| walk_at "rs") => `(tactic| (try simp (maxSteps := 4000000) only [L2.start, List.map_cons, List.map_nil, List.length_cons, List.length_nil, List.cons_append, List.nil_append, Nat.reduceAdd, Nat.reduceSub, Nat.zero_add, List.replicate, List.getElem?_cons_zero, List.getElem?_cons_succ, Option.some.injEq, exists_eq_left', exists_eq_left, V.int.injEq, V.str.injEq, V.bl.injEq, V.ref.injEq, List.set_cons_zero, List.set_cons_succ, exists_and_left, List.cons.injEq, and_true, true_and, wipe, if_true, if_false, Bool.not_true, Bool.not_false, Bool.false_eq_true, decide_true, decide_false]))
local macro_rules | `(tactic| walk_at "r") => `(tactic| (walk_at "rd"; walk_at "rs"))
local macro_rules | `(tactic| walk_at "T") => `(tactic| (rw [if_pos (by first | assumption | rfl | decide | exact decide_eq_true (by assumption) | (simp [tyOf]; done) | (simp; omega) | omega)]; walk_at "rs"))
local macro_rules | `(tactic| walk_at "F") => `(tactic| (rw [if_neg (by first | assumption | decide | (simp [tyOf]; done) | (simp; omega) | (simp; assumption) | omega)]; walk_at "rs"))
section
variable {P : Program} {w : World} {K : PySem.W.Frag} {mg : Str → Option Value} {base : Heap} {f : Addr} {fd : FuncData}
def sp_law_pen (K : PySem.W.Frag) : Sp := fun vs H Q _ => ∃ (T : Addr) (cells : List Int), vs = [.ref T] ∧ SqL K H T (cells.map V.int) ∧ ∀ p tc H', Same H H' → H p = none → Pen K H' p tc → Q (.ref p) H'
def lpI (T : Addr) (H : Hp) (i : Nat) (σ : L2.St) (H' : Hp) : Prop := H' = H ∧ ∃ (fo : Int) (e : Option V), σ = [some (.ref T), some (.int fo), e] ∧ 0 ≤ fo ∧ fo < 2147483648
theorem ok_law_pen (Z : Zb mg) (D : C8.Def K mg "_law_pen" s_law_pen f fd) (b : Binds K fd ["script"] []) : CalX P w K mg base 1 "_law_pen" (sp_law_pen K) := by
  have nd := sc_law_pen.nd
  refine calX D b sc_law_pen (fun vs H Q E h => by obtain ⟨T, cells, rfl, _⟩ := h; rfl) fun cdv A outer s H vs Q E hr h => ?_
  obtain ⟨T, cells, rfl, sl, q⟩ := h
  refine ⟨_, (pss_cons (ps_set (i := 1) nd rfl (Or.inl rfl) pe_int)
    (pss_cons (ps_for (L2.passes_of rfl) rfl (pi_list (pv 0)) (pg_name (i := 2) nd rfl (Or.inl rfl)) (pss_one (ps_set (i := 1) nd rfl (Or.inl rfl) (pe_op op_mod (pe_callTy call_int1 rfl Z.int PyProof.Rows.boot_int (pa_cons (pe_op op_add (pe_op op_mul (pv 1) pe_int) (pv 2)) pa_nil)) pe_int))))
    (pss_one (ps_ret (pe_disp (pps_cons pe_str (pe_callTy call_list_of rfl Z.list PyProof.Rows.boot_list (pa_cons (pv 0) pa_nil)) (pps_cons pe_str pe_int (pps_cons pe_str pe_int (pps_cons pe_str pe_int (pps_cons pe_str (pv 1) pps_nil))))) rfl rfl (by simp) (by decide)))))), ?_⟩
  walk_at "r"
  refine ⟨_, rfl, T, rfl, ⟨_, sl⟩, ?_⟩
  refine for_it walk_list (lpI T H) ⟨rfl, 0, none, rfl, by decide, by decide⟩ (fun i σ H' _ h => by rw [h.1]; exact sl) ?_ ?_
  · rintro i x σ H1 H2 hi ⟨rfl, fo, e, rfl, f0, f1⟩ ⟨rfl, hx⟩
    walk_at "r"
    rw [List.getElem?_map] at hx
    cases hc : cells[i]? with
    | none => rw [hc] at hx; cases hx
    | some c =>
      rw [hc] at hx
      cases hx
      refine ⟨cmulR (by decide), _, rfl, .inl ⟨by decide, rfl, _, _, rfl, Int.emod_nonneg _ (by decide), Int.lt_trans (Int.emod_lt_of_pos _ (by decide)) (by decide)⟩⟩
  · rintro σ H1 ⟨rfl, fo, e, rfl, f0, f1⟩
    walk_at "r"
    intro p np
    have e1 := same_new np (.dK [])
    refine ⟨_, .inl (e1.seq sl), fun l nl => ?_⟩
    have ne : p ≠ l := fun z => by rw [← z, upd_same] at nl; cases nl
    refine ⟨by rw [upd_ne ne, upd_same], penK l 0 0 0 fo, rfl, (by show 5 ≤ 15; decide), ?_⟩
    have e2 : Same H1 (upd (upd (upd H1 p (.dK [])) l (.lst (cells.map V.int))) p (.dK (mergeK [] (penK l 0 0 0 fo)))) := fun b o h => by
      have h1 := ne_of_none h np
      rw [upd_ne h1]
      exact (e1.trans (same_new nl _)) b o h
    exact q p (l, cells) _ e2 np ⟨0, 0, 0, fo, upd_same, .inl (.inl (by rw [upd_ne (Ne.symm ne), upd_same])), Ne.symm ne, by decide, f0, f1⟩
/-! ### small ones -/
def sp_law_is_whole (K : PySem.W.Frag) : Sp := fun vs H Q _ => ∃ v t, vs = [v] ∧ Kd K H v t ∧ Q (.bl (t == "int")) H
theorem ok_law_is_whole (Z : Zb mg) (D : C8.Def K mg "_law_is_whole" s_law_is_whole f fd) (b : Binds K fd ["value"] []) : CalX P w K mg base 1 "_law_is_whole" (sp_law_is_whole K) := by
  refine calX D b sc_law_is_whole (fun vs H Q E h => by obtain ⟨v, t, rfl, _⟩ := h; rfl) fun cdv A outer s H vs Q E hr h => ?_
  obtain ⟨v, t, rfl, k, q⟩ := h
  refine ⟨_, (pss_one (ps_ret (pe_and (pe_callB call_isi rfl Z.isinstance PyProof.Rows.boot_isinstance (pa_cons (pv 0) (pa_cons (pe_ty rfl Z.int PyProof.Rows.boot_int) pa_nil))) (pe_one (pe_not (pe_callB call_isi rfl Z.isinstance PyProof.Rows.boot_isinstance (pa_cons (pv 0) (pa_cons (pe_ty rfl Z.bool PyProof.Rows.boot_bool) pa_nil)))))))), ?_⟩
  walk_at "r"
  refine isi_int k ?_
  walk_at "rs"
  by_cases e : (t == "int" || t == "bool") = true
  · rw [if_pos e]
    refine isi_bool k ?_
    walk_at "rs"
    have e2 : (!(t == "bool")) = (t == "int") := by
      have := k.kn
      simp only [List.mem_cons, List.not_mem_nil, or_false] at this
      rcases this with rfl | rfl | rfl | rfl | rfl | rfl | rfl <;> first | rfl | exact absurd e (by decide)
    rw [e2]
    exact q
  · rw [if_neg e]
    have e2 : (t == "int") = false := by
      cases h : (t == "int") with
      | false => rfl
      | true => rw [h] at e; exact absurd rfl e
    rw [e2] at q
    have e3 : (t == "int" || t == "bool") = false := Bool.eq_false_iff.mpr e
    first | (rw [e3]; exact q) | exact q
end
end FP
set_option maxHeartbeats 4000000
namespace FP
open PySem PySem.Spec PyProof.Rows L2
local macro_rules | `(tactic| walk_at "rd") => `(tactic| dsimp only [tVar, tC, tCmp, tIsN, tNotN, tB, tAnd, tOr, tNot, tAndV, tOrV, tNotV, tIf, tNext, tSeq, tBreak, tCont, tDrop, tRet, tRetN, tIfS, tNever, tAsg, tPar, tAug, tOp, tUn, tTest, tChain, tFld, tNil, tCons, tTup, tLst, tCB, iList, iTup, iStr, tLc, tM0, tM1, tPart, tNoPart, tSl, tBM, tCallS, tCallSD, tMethW, tMake, sDPut, tDisp, tPairs, WE, tDGet, tDIn, gName, gTup, gCons, gNil, gSub, sFld, sFldAug, rI, rI0, rU, rEq, rNe, rAdd, rSub, t2I, tYes, cx_K, cx_w, cx_prog])
local macro_rules | `(tactic| walk_at "rs") => `(tactic| (try simp (maxSteps := 4000000) only [L2.start, List.map_cons, List.map_nil, List.length_cons, List.length_nil, List.cons_append, List.nil_append, Nat.reduceAdd, Nat.reduceSub, Nat.zero_add, List.replicate, List.getElem?_cons_zero, List.getElem?_cons_succ, Option.some.injEq, exists_eq_left', exists_eq_left, V.int.injEq, V.str.injEq, V.bl.injEq, V.ref.injEq, List.set_cons_zero, List.set_cons_succ, exists_and_left, List.cons.injEq, and_true, true_and, wipe, if_true, if_false, Bool.not_true, Bool.not_false, Bool.false_eq_true, decide_true, decide_false]))
local macro_rules | `(tactic| walk_at "r") => `(tactic| (walk_at "rd"; walk_at "rs"))
local macro_rules | `(tactic| walk_at "T") => `(tactic| (rw [if_pos (by first | assumption | rfl | decide | exact decide_eq_true (by assumption) | (simp [tyOf]; done) | (simp; omega) | omega)]; walk_at "rs"))
local macro_rules | `(tactic| walk_at "F") => `(tactic| (rw [if_neg (by first | assumption | decide | (simp [tyOf]; done) | (simp; omega) | (simp; assumption) | omega)]; walk_at "rs"))
section
variable {P : Program} {w : World} {K : PySem.W.Frag} {mg : Str → Option Value} {base : Heap} {f : Addr} {fd : FuncData}
def sp_law_divisor : Sp := fun vs H Q _ => ∃ a b : Int, vs = [.int a, .int b] ∧ Q (.int (Nat.gcd a.natAbs b.natAbs : Nat)) H
def gdI (H : Hp) (g : Nat) (m : Nat) (σ : L2.St) (H' : Hp) : Prop := ∃ x y : Nat, m = y ∧ H' = H ∧ σ = [some (.int (x : Nat)), some (.int (y : Nat))] ∧ Nat.gcd x y = g
theorem ok_law_divisor (Z : Zb mg) (D : C8.Def K mg "_law_divisor" s_law_divisor f fd) (b : Binds K fd ["one", "other"] []) : CalX P w K mg base 1 "_law_divisor" sp_law_divisor := by
  have nd := sc_law_divisor.nd
  refine calX D b sc_law_divisor (fun vs H Q E h => by obtain ⟨x, y, rfl, _⟩ := h; rfl) fun cdv A outer s H vs Q E hr h => ?_
  obtain ⟨x, y, rfl, q⟩ := h
  refine ⟨_, (pss_cons (ps_par (i := 0) (j := 1) rfl nd rfl rfl (by decide) rfl rfl (pa_cons (pe_callB call_abs rfl Z.abs PyProof.Rows.boot_abs (pa_cons (pv 0) pa_nil)) (pa_cons (pe_callB call_abs rfl Z.abs PyProof.Rows.boot_abs (pa_cons (pv 1) pa_nil)) pa_nil)) (by rfl))
    (pss_cons (ps_while (L2.passes_of rfl) (pt_cmpR op_ne (pv 1) pe_int (nomark _)) (pss_one (ps_par (i := 0) (j := 1) rfl nd rfl rfl (by decide) rfl rfl (pa_cons (pv 1) (pa_cons (pe_op op_mod (pe_callTy call_int1 rfl Z.int PyProof.Rows.boot_int (pa_cons (pv 0) pa_nil)) (pv 1)) pa_nil)) (by rfl))))
    (pss_one (ps_ret (pv 0))))), ?_⟩
  walk_at "r"
  refine ⟨_, _, ⟨rfl, rfl⟩, ?_⟩
  rw [abs_if, abs_if]
  refine ⟨gdI H (Nat.gcd x.natAbs y.natAbs), ⟨y.natAbs, x.natAbs, y.natAbs, rfl, rfl, rfl, rfl⟩, ?_⟩
  rintro m σ H' ⟨a, b, rfl, rfl, rfl, hg⟩
  walk_at "r"
  refine ⟨rfl, ?_⟩
  by_cases hb : m = 0
  · subst hb
    walk_at "rs"
    rw [Nat.gcd_zero_right] at hg
    rw [hg]
    exact q
  · rw [if_pos (by rw [decide_eq_false (by omega)]; rfl)]
    refine ⟨_, fun _ _ h => h, .inl ⟨by omega, ?_⟩⟩
    have hlt := Nat.mod_lt a (Nat.pos_of_ne_zero hb)
    refine ⟨_, _, ⟨rfl, rfl⟩, a % m, hlt, m, a % m, rfl, rfl, by rw [Int.natCast_emod], ?_⟩
    rw [← hg, Nat.gcd_comm m, ← Nat.gcd_rec, Nat.gcd_comm]
def lowD (t b : Int) : PyData := if b = (Nat.gcd t.natAbs b.natAbs : Nat) then .int (t / (Nat.gcd t.natAbs b.natAbs : Nat)) else .tuple [.int (t / (Nat.gcd t.natAbs b.natAbs : Nat)), .int (b / (Nat.gcd t.natAbs b.natAbs : Nat))]
def sp_law_low (K : PySem.W.Frag) : Sp := fun vs H Q _ => ∃ t b : Int, vs = [.int t, .int b] ∧ 0 < b ∧ b.natAbs.log2 < 9000 ∧ ∀ v H', Same H H' → Dp K H' v (lowD t b) → Q v H'
theorem ok_law_low (D : C8.Def K mg "_law_low" s_law_low f fd) (b : Binds K fd ["top", "bottom"] []) (c_law_divisor : CalX P w K mg base 1 "_law_divisor" sp_law_divisor) : CalX P w K mg base 2 "_law_low" (sp_law_low K) := by
  have nd := sc_law_low.nd
  refine calX D b sc_law_low (fun vs H Q E h => by obtain ⟨x, y, rfl, _⟩ := h; rfl) fun cdv A outer s H vs Q E hr h => ?_
  obtain ⟨t, b, rfl, b0, bl, q⟩ := h
  refine ⟨_, (pss_cons (ps_set (i := 2) nd rfl (Or.inl rfl) (pe_x c_law_divisor hr (by decide) tk0 rfl (pa_cons (pv 0) (pa_cons (pv 1) pa_nil))))
    (pss_cons (ps_if (pt_cmpR op_lt (pv 1) pe_int (nomark _)) (pss_one (ps_set (i := 2) nd rfl (Or.inl rfl) (pe_un un_neg (pv 2)))) pss_nil)
    (pss_one (ps_ret (pe_ifExp (pt_cmpR op_eq (pv 1) (pv 2) (nomark _)) (pe_op op_fdivW (pv 0) (pv 2)) (pe_tup (pa_cons (pe_op op_fdivW (pv 0) (pv 2)) (pa_cons (pe_op op_fdivW (pv 1) (pv 2)) pa_nil)))))))), ?_⟩
  walk_at "r"
  refine ⟨t, b, rfl, ?_⟩
  show if decide (b < 0) = true then _ else _
  rw [if_neg (fun z => by have := of_decide_eq_true z; omega)]
  refine ⟨rfl, ?_⟩
  have g0 : 0 < Nat.gcd t.natAbs b.natAbs := Nat.gcd_pos_of_pos_right _ (by omega)
  have gl : Nat.gcd t.natAbs b.natAbs ≤ b.natAbs := Nat.gcd_le_right _ (by omega)
  have cw : ∀ x : Int, CDivW x ((Nat.gcd t.natAbs b.natAbs : Nat) : Int) := fun x => ⟨by omega, by
    rw [Int.natAbs_natCast]
    exact (Nat.log2_lt (by omega)).mpr (Nat.lt_of_le_of_lt gl ((Nat.log2_lt (by omega)).mp bl))⟩
  by_cases hb : b = ((Nat.gcd t.natAbs b.natAbs : Nat) : Int)
  · rw [if_pos (decide_eq_true (congrArg V.int hb))]
    unfold lowD at q
    rw [if_pos hb] at q
    exact ⟨_, rfl, cw t, q _ _ (Same.refl H) (.int _)⟩
  · rw [if_neg (fun z => hb (by have := of_decide_eq_true z; injection this))]
    unfold lowD at q
    rw [if_neg hb] at q
    exact ⟨_, rfl, cw t, _, rfl, cw b, sz (by decide), fun p np => q _ _ (same_new np _) (Dp.of_pair (.inl (.inl upd_same)))⟩
def sp_law_is_ratio (K : PySem.W.Frag) : Sp := fun vs H Q _ => ∃ v d, vs = [v] ∧ Dp K H v d ∧ Q (.bl (ratioOf d).isSome) H
theorem ok_law_is_ratio (Z : Zb mg) (D : C8.Def K mg "_law_is_ratio" s_law_is_ratio f fd) (b : Binds K fd ["value"] []) (c_law_is_whole : CalX P w K mg base 1 "_law_is_whole" (sp_law_is_whole K)) (c_law_divisor : CalX P w K mg base 1 "_law_divisor" sp_law_divisor) : CalX P w K mg base 2 "_law_is_ratio" (sp_law_is_ratio K) := by
  refine calX D b sc_law_is_ratio (fun vs H Q E h => by obtain ⟨v, d, rfl, _⟩ := h; rfl) fun cdv A outer s H vs Q E hr h => ?_
  obtain ⟨v, d, rfl, hd, q⟩ := h
  refine ⟨_, (pss_cons (ps_if (pt_val (pe_callB call_isi rfl Z.isinstance PyProof.Rows.boot_isinstance (pa_cons (pv 0) (pa_cons (pe_ty rfl Z.tuple PyProof.Rows.boot_tuple) pa_nil)))) (pss_cons (ps_if (PW.pt (pw_or (pt_cmpR op_ne (pe_callB call_len rfl Z.len PySem.boot_len (pa_cons (pv 0) pa_nil)) pe_int (nomark _)) (pw_or (pt_not (pt_val (pe_x c_law_is_whole hr (by decide) tk0 rfl (pa_cons (pe_ix ix_tup (pv 0) pe_int (fun _ _ => rfl)) pa_nil)))) (pw_or1 (pt_not (pt_val (pe_x c_law_is_whole hr (by decide) tk0 rfl (pa_cons (pe_ix ix_tup (pv 0) pe_int (fun _ _ => rfl)) pa_nil)))))))) (pss_one (ps_ret pe_bl)) pss_nil)
    (pss_one (ps_ret (pe_and (pe_cmpR op_gt (pe_ix ix_tup (pv 0) pe_int (fun _ _ => rfl)) pe_int (nomark _)) (pe_one (pe_cmpR op_eq (pe_x c_law_divisor hr (by decide) tk0 rfl (pa_cons (pe_ix ix_tup (pv 0) pe_int (fun _ _ => rfl)) (pa_cons (pe_ix ix_tup (pv 0) pe_int (fun _ _ => rfl)) pa_nil))) pe_int (nomark _))))))) pss_nil)
    (pss_one (ps_ret (pe_x c_law_is_whole hr (by decide) tk0 rfl (pa_cons (pv 0) pa_nil))))), ?_⟩
  walk_at "r"
  refine isi_tuple (Dp.kd hd) ?_
  walk_at "rs"
  by_cases ht : (tyOf d == "tuple") = true
  · obtain ⟨ds, rfl⟩ := ty_tuple.mp ht
    obtain ⟨a, xs, rfl, hs, al⟩ := Dp.tupI hd
    rw [ht]
    walk_at "rs"
    refine lenT hs ⟨rfl, ?_⟩
    have hl := DpAll.length al
    match xs, ds, al, hl, hs, q with
    | [x, y], [d, e], .cons hx (.cons hy _), _, hs, q =>
      walk_at "F"
      refine ixT hs rfl ⟨_, _, rfl, Dp.kd hx, ?_⟩
      walk_at "rs"
      by_cases hd : (tyOf d == "int") = true
      · rw [hd]
        walk_at "rs"
        obtain ⟨i, rfl⟩ := ty_int.mp hd
        cases hx
        refine ixT hs rfl ⟨_, _, rfl, Dp.kd hy, ?_⟩
        walk_at "rs"
        by_cases he : (tyOf e == "int") = true
        · rw [he]
          walk_at "rs"
          obtain ⟨j, rfl⟩ := ty_int.mp he
          cases hy
          refine ixT hs rfl ⟨_, rfl, ?_⟩
          by_cases hj : 1 < j
          · walk_at "T"
            refine ixT hs rfl (ixT hs rfl ⟨_, _, rfl, rfl, ?_⟩)
            have e : decide (V.int ((Nat.gcd i.natAbs j.natAbs : Nat) : Int) = V.int 1) = (ratioOf (.tuple [.int i, .int j])).isSome := by
              rw [ratio_pair]
              by_cases g : Nat.gcd i.natAbs j.natAbs = 1
              · rw [if_pos ⟨hj, g⟩, g]; rfl
              · rw [if_neg (fun z => g z.2)]
                refine decide_eq_false fun z => g ?_
                injection z with z
                exact Int.ofNat_inj.mp z
            rw [e]; exact q
          · walk_at "F"
            have e : (ratioOf (.tuple [.int i, .int j])).isSome = false := by
              rw [ratio_pair, if_neg (fun z => hj z.1)]; rfl
            rw [e] at q; exact q
        · rw [Bool.eq_false_iff.mpr he]
          walk_at "rs"
          have e : (ratioOf (.tuple [.int i, e])).isSome = false := by
            cases e <;> first | rfl | exact absurd rfl he
          rw [e] at q; exact q
      · rw [Bool.eq_false_iff.mpr hd]
        walk_at "rs"
        have e : (ratioOf (.tuple [d, e])).isSome = false := by
          cases d <;> first | rfl | exact absurd rfl hd
        rw [e] at q; exact q
    | [], [], _, _, _, q => walk_at "T"; exact q
    | [_], [e], _, _, _, q =>
      walk_at "T"
      have e : (ratioOf (.tuple [e])).isSome = false := by cases e <;> rfl
      rw [e] at q; exact q
    | _ :: _ :: _ :: r, a :: b :: c :: r', _, _, _, q =>
      rw [if_pos (by simp; omega)]
      have e : (ratioOf (.tuple (a :: b :: c :: r'))).isSome = false := by cases a <;> first | rfl | (cases b <;> rfl)
      rw [e] at q; walk_at "rs"; exact q
  · rw [Bool.eq_false_iff.mpr ht]
    walk_at "rs"
    refine ⟨_, _, rfl, Dp.kd hd, ?_⟩
    have e : (ratioOf d).isSome = (tyOf d == "int") := by
      cases d <;> first | rfl | exact absurd rfl ht
    rw [e] at q; exact q
theorem Pen.same {H H' : Hp} {p : Addr} {tc : Addr × List Int} (h : Pen K H p tc) (e : Same H H') : Pen K H' p tc := by
  obtain ⟨at_, dg, ct, fo, S⟩ := h
  exact ⟨at_, dg, ct, fo, e _ _ S.d, e.seq S.l, S.ne, S.n0, S.f0, S.f1⟩
def sp_law_pick (K : PySem.W.Frag) : Sp := fun vs H Q _ => ∃ p tc l xs, vs = [.ref p, .ref l] ∧ Pen K H p tc ∧ SqL K H l xs ∧ ¬ l = p ∧ xs ≠ [] ∧ xs.length < 1000 ∧ ∀ (i : Nat) v H', xs[i]? = some v → But (· = p) H H' → Pen K H' p tc → Q v H'
theorem ok_law_pick (Z : Zb mg) (D : C8.Def K mg "_law_pick" s_law_pick f fd) (b : Binds K fd ["pen", "some"] []) (c_law_draw : CalX P w K mg base 1 "_law_draw" (sp_law_draw K)) : CalX P w K mg base 2 "_law_pick" (sp_law_pick K) := by
  refine calX D b sc_law_pick (fun vs H Q E h => by obtain ⟨p, tc, l, xs, rfl, _⟩ := h; rfl) fun cdv A outer s H vs Q E hr h => ?_
  obtain ⟨p, tc, l, xs, rfl, pn, sl, ne, nn, few, q⟩ := h
  refine ⟨_, (pss_one (ps_ret (pe_ix ix_list (pv 1) (pe_x c_law_draw hr (by decide) tk0 rfl (pa_cons (pv 0) (pa_cons (pe_callB call_len rfl Z.len PySem.boot_len (pa_cons (pv 1) pa_nil)) pa_nil))) (fun _ _ => rfl)))), ?_⟩
  walk_at "r"
  have := List.length_pos_iff.mpr nn
  refine lenL sl ⟨p, tc, _, rfl, by omega, by omega, pn, fun d H' d0 d1 k pn' => ?_⟩
  obtain ⟨n, rfl⟩ : ∃ n : Nat, d = (n : Nat) := ⟨d.toNat, by omega⟩
  have hi : n < xs.length := by omega
  exact ixL (SqL.but (S := (· = p)) ne k sl) (v := xs[n]) (atI_nat (List.getElem?_eq_getElem hi)) (q n _ H' (List.getElem?_eq_getElem hi) k pn')
def sp_law_wide (K : PySem.W.Frag) : Sp := fun vs H Q _ => ∃ p tc, ∃ n : Nat, vs = [.ref p, .int (n : Nat)] ∧ n ≤ 1000 ∧ Pen K H p tc ∧ ∀ d H', 0 ≤ d → d < 10 ^ n → But (· = p) H H' → Pen K H' p tc → Q (.int d) H'
def wd1 (K : PySem.W.Frag) (p : Addr) (tc : Addr × List Int) (n : Nat) (H : Hp) (_i : Nat) (σ : L2.St) (H' : Hp) : Prop := But (· = p) H H' ∧ Pen K H' p tc ∧ ∃ (fo : Int) (e : Option V), σ = [some (.ref p), some (.int (n : Nat)), some (.int fo), some (.int 1), e] ∧ 0 ≤ fo
def wd2 (p : Addr) (n : Nat) (fo : Int) (H : Hp) (i : Nat) (σ : L2.St) (H' : Hp) : Prop := H' = H ∧ ∃ (e : Option V), σ = [some (.ref p), some (.int (n : Nat)), some (.int fo), some (.int (10 ^ i)), e]
theorem ok_law_wide (Z : Zb mg) (D : C8.Def K mg "_law_wide" s_law_wide f fd) (b : Binds K fd ["pen", "figures"] []) (c_law_draw : CalX P w K mg base 1 "_law_draw" (sp_law_draw K)) : CalX P w K mg base 2 "_law_wide" (sp_law_wide K) := by
  have nd := sc_law_wide.nd
  refine calX D b sc_law_wide (fun vs H Q E h => by obtain ⟨p, tc, n, rfl, _⟩ := h; rfl) fun cdv A outer s H vs Q E hr h => ?_
  obtain ⟨p, tc, n, rfl, hn, pn, q⟩ := h
  refine ⟨_, (pss_cons (ps_asg (pe_tup (pa_cons pe_int (pa_cons pe_int pa_nil))) (pg_tup rfl (pgs_cons (pg_name (i := 2) nd rfl (Or.inl rfl)) (pgs_cons (pg_name (i := 3) nd rfl (Or.inl rfl)) pgs_nil))))
    (pss_cons (ps_for (L2.passes_of rfl) rfl (pi_range1 rfl Z.range (pa_cons (pe_op op_fdiv (pe_op op_add (pv 1) pe_int) pe_int) pa_nil)) (pg_name (i := 4) nd rfl (Or.inl rfl)) (pss_one (ps_set (i := 2) nd rfl (Or.inl rfl) (pe_op op_add (pe_op op_mul (pv 2) (pe_op op_pow2 pe_int pe_int)) (pe_x c_law_draw hr (by decide) tk0 rfl (pa_cons (pv 0) (pa_cons (pe_op op_pow2 pe_int pe_int) pa_nil)))))))
    (pss_cons (ps_for (L2.passes_of rfl) rfl (pi_range1 rfl Z.range (pa_cons (pv 1) pa_nil)) (pg_name (i := 4) nd rfl (Or.inl rfl)) (pss_one (ps_set (i := 3) nd rfl (Or.inl rfl) (pe_op op_mul (pv 3) pe_int))))
    (pss_one (ps_ret (pe_op op_mod (pe_callTy call_int1 rfl Z.int PyProof.Rows.boot_int (pa_cons (pv 2) pa_nil)) (pv 3))))))), ?_⟩
  walk_at "r"
  refine ⟨sz (by decide), fun t nt => ⟨_, .inl (.inl upd_same), rfl, _, _, rfl, _, _, rfl, rfl, ?_⟩⟩
  have e0 := same_new nt (.tup [.int 0, .int 1])
  have pn0 := pn.same e0
  refine ⟨_, rfl, _, _, rfl, rfl, _, _, rfl, rfl, ⟨by decide, by decide⟩, _, rfl, by omega, by omega, ?_⟩
  refine for_it walk_range (wd1 K p tc n H) ⟨Same.but e0, pn0, 0, none, rfl, by decide⟩ (fun _ _ _ _ _ => trivial) ?_ ?_
  · rintro i x σ H1 H2 hi ⟨k1, pn1, fo, e, rfl, f0⟩ ⟨rfl, rfl⟩
    walk_at "r"
    refine ⟨⟨by decide, by decide +kernel⟩, cmulR (by decide), ⟨by decide, by decide +kernel⟩, ?_⟩
    refine ⟨p, tc, _, rfl, by decide, by decide, pn1, fun d H3 d0 d1 k3 pn3 => ?_⟩
    refine ⟨_, rfl, k1.trans k3, pn3, _, _, rfl, ?_⟩
    have : 0 ≤ fo * 10 ^ Int.toNat 6 := Int.mul_nonneg f0 (by decide)
    omega
  · rintro σ H1 ⟨k1, pn1, fo, e, rfl, f0⟩
    refine ⟨_, rfl, _, rfl, by omega, by omega, ?_⟩
    rw [Int.toNat_natCast]
    refine for_it walk_range (wd2 p n fo H1) ⟨rfl, e, by rw [Int.pow_zero]⟩ (fun _ _ _ _ _ => trivial) ?_ ?_
    · rintro i x σ H3 H2 hi ⟨rfl, e, rfl⟩ ⟨rfl, rfl⟩
      walk_at "r"
      exact ⟨cmulR (by decide), rfl, _, by rw [Int.pow_succ]⟩
    · rintro σ H3 ⟨rfl, e, rfl⟩
      walk_at "r"
      have hp : (0 : Int) < 10 ^ n := Int.pow_pos (by decide)
      exact .inl ⟨hp, q _ _ (Int.emod_nonneg _ (by omega)) (Int.emod_lt_of_pos _ hp) k1 pn1⟩
end
end FP
set_option maxHeartbeats 4000000
namespace FP
open PySem PySem.Spec PyProof.Rows L2
local macro_rules | `(tactic| walk_at "rd") => `(tactic| dsimp only [tVar, tC, tCmp, tIsN, tNotN, tB, tAnd, tOr, tNot, tAndV, tOrV, tNotV, tIf, tNext, tSeq, tBreak, tCont, tDrop, tRet, tRetN, tIfS, tNever, tAsg, tPar, tAug, tOp, tUn, tTest, tChain, tFld, tNil, tCons, tTup, tLst, tCB, iList, iTup, iStr, tLc, tM0, tM1, tPart, tNoPart, tSl, tBM, tCallS, tCallSD, tMethW, tMake, sDPut, tDisp, tPairs, WE, tDGet, tDIn, gName, gTup, gCons, gNil, gSub, sFld, sFldAug, rI, rI0, rU, rEq, rNe, rAdd, rSub, t2I, tYes, cx_K, cx_w, cx_prog])
local macro_rules | `(tactic| walk_at "rs") => `(tactic| (try simp (maxSteps := 4000000) only [L2.start, List.map_cons, List.map_nil, List.length_cons, List.length_nil, List.cons_append, List.nil_append, Nat.reduceAdd, Nat.reduceSub, Nat.zero_add, List.replicate, List.getElem?_cons_zero, List.getElem?_cons_succ, Option.some.injEq, exists_eq_left', exists_eq_left, V.int.injEq, V.str.injEq, V.bl.injEq, V.ref.injEq, List.set_cons_zero, List.set_cons_succ, exists_and_left, List.cons.injEq, and_true, true_and, wipe, if_true, if_false, Bool.not_true, Bool.not_false, Bool.false_eq_true, decide_true, decide_false]))
local macro_rules | `(tactic| walk_at "r") => `(tactic| (walk_at "rd"; walk_at "rs"))
local macro_rules | `(tactic| walk_at "T") => `(tactic| (rw [if_pos (by first | assumption | rfl | decide | exact decide_eq_true (by assumption) | (simp [tyOf]; done) | (simp; omega) | omega)]; walk_at "rs"))
local macro_rules | `(tactic| walk_at "F") => `(tactic| (rw [if_neg (by first | assumption | decide | (simp [tyOf]; done) | (simp; omega) | (simp; assumption) | omega)]; walk_at "rs"))
/-! ### plain: lowest terms -/
theorem low_ratio {t b : Int} (b0 : 0 < b) : ∃ t' b', ratioOf (lowD t b) = some (t', b') ∧ t'.natAbs ≤ t.natAbs ∧ b' ≤ b := by
  have g0 : 0 < Nat.gcd t.natAbs b.natAbs := Nat.gcd_pos_of_pos_right _ (by omega)
  have d1 : ((Nat.gcd t.natAbs b.natAbs : Nat) : Int) ∣ t := Int.ofNat_dvd_left.mpr (Nat.gcd_dvd_left _ _)
  have d2 : ((Nat.gcd t.natAbs b.natAbs : Nat) : Int) ∣ b := Int.ofNat_dvd_left.mpr (Nat.gcd_dvd_right _ _)
  have e1 : (t / ((Nat.gcd t.natAbs b.natAbs : Nat) : Int)).natAbs = t.natAbs / Nat.gcd t.natAbs b.natAbs := by
    rw [Int.natAbs_ediv_of_dvd d1, Int.natAbs_natCast]
  have e2 : (b / ((Nat.gcd t.natAbs b.natAbs : Nat) : Int)).natAbs = b.natAbs / Nat.gcd t.natAbs b.natAbs := by
    rw [Int.natAbs_ediv_of_dvd d2, Int.natAbs_natCast]
  have l1 : (t / ((Nat.gcd t.natAbs b.natAbs : Nat) : Int)).natAbs ≤ t.natAbs := by rw [e1]; exact Nat.div_le_self _ _
  have p2 : 0 < b / ((Nat.gcd t.natAbs b.natAbs : Nat) : Int) := Int.ediv_pos_of_pos_of_dvd b0 (by omega) d2
  have l2 : b / ((Nat.gcd t.natAbs b.natAbs : Nat) : Int) ≤ b := Int.ediv_le_self _ (by omega)
  unfold lowD
  by_cases h : b = ((Nat.gcd t.natAbs b.natAbs : Nat) : Int)
  · rw [if_pos h]
    exact ⟨_, 1, rfl, l1, by omega⟩
  · rw [if_neg h, ratio_pair]
    refine ⟨_, _, if_pos ⟨?_, ?_⟩, l1, l2⟩
    · refine Int.not_le.mp fun z => h ?_
      have z2 : b / ((Nat.gcd t.natAbs b.natAbs : Nat) : Int) = 1 := by omega
      have := Int.ediv_mul_cancel d2
      rw [z2] at this
      omega
    · rw [e1, e2]
      rw [Nat.gcd_div (Nat.gcd_dvd_left _ _) (Nat.gcd_dvd_right _ _)]
      exact Nat.div_self g0
def Nice (d : PyData) : Prop := ∃ t b, ratioOf d = some (t, b) ∧ t.natAbs < 10 ^ 40 ∧ b ≤ 10 ^ 40
def Dv : Nat → PyData → Prop
  | 0, d => Nice d
  | n + 1, d => Nice d ∨ ∃ ds, d = .tuple ds ∧ ds.length ≤ 3 ∧ ∀ e, e ∈ ds → Dv n e
theorem Nice.nol {d : PyData} (h : Nice d) : Nol d := by
  obtain ⟨t, b, h, _⟩ := h
  exact (nol_opp (by rw [h]; rfl)).1
theorem lowD_nice {t b : Int} (b0 : 0 < b) (h1 : t.natAbs < 10 ^ 40) (h2 : b ≤ 10 ^ 40) : Nice (lowD t b) := by
  obtain ⟨t', b', e, l1, l2⟩ := low_ratio (t := t) b0
  exact ⟨t', b', e, Nat.lt_of_le_of_lt l1 h1, Int.le_trans l2 h2⟩
/-! ### a comprehension that draws -/
theorem Pen.noTup {K : PySem.W.Frag} {H : Hp} {p : Addr} {tc : Addr × List Int} (h : Pen K H p tc) : NoTup H (· = p) := by
  obtain ⟨at_, dg, ct, fo, S⟩ := h
  exact noTup1 S.d (fun _ => by simp) (fun _ _ => by simp)
/-- a new object is written -/
theorem Pen.app {K : PySem.W.Frag} {H H1 : Hp} {p D : Addr} {tc : Addr × List Int} {o : HO} (hp : Pen K H p tc) (k : But (· = p) H H1) (h : Pen K H1 p tc) (nD : H D = none) : Pen K (L2.upd H1 D o) p tc ∧ But (· = p) H (L2.upd H1 D o) := by
  obtain ⟨a0, d0, c0, f0, S0⟩ := hp
  obtain ⟨at_, dg, ct, fo, S⟩ := h
  have ne : p ≠ D := fun z => by have := S0.d; rw [z, nD] at this; cases this
  have k2 : But (· = p) H (L2.upd H1 D o) := fun b u n h => by
    rw [upd_ne (fun z => by rw [z, nD] at h; cases h)]
    exact k b u n h
  exact ⟨⟨at_, dg, ct, fo, by rw [upd_ne ne]; exact S.d, SqL.but (S := (· = p)) S0.ne k2 S0.l, S.ne, S.n0, S.f0, S.f1⟩, k2⟩
/-- a comprehension that draws -/
theorem comp_pen {K : PySem.W.Frag} {J : It} {n : Nat} {Y : Nat → Hp → V → Hp → Prop} {H1 : Hp} {D p : Addr} {tc : Addr × List Int} {Rend : Hp → Prop} (w : Walk J n (fun _ => True) Y) (small : n < sizeLine) (nD : H1 D = none) (pn : Pen K H1 p tc) (B : V → Hp → VK → Prop) (R : V → Hp → Prop)
    (hY : ∀ i H x H', Y i H x H' → H' = H)
    (hup : ∀ v H H', But (fun a => a = D ∨ a = p) H H' → NoTup H (fun a => a = D ∨ a = p) → R v H → R v H')
    (hs : ∀ x H Q, But (· = p) H1 H → Pen K H p tc → (∀ y H', But (· = p) H H' → Pen K H' p tc → R y H' → Q y H') → B x H Q)
    (hd : ∀ H ys, But (· = p) H1 H → Pen K H p tc → H D = some (.lst ys) → ys.length = n → (∀ y, y ∈ ys → R y H) → Rend H) :
    ∃ W : Nat → Nat → Hp → Prop, (∃ m, W 0 m (L2.upd H1 D (.lst []))) ∧ ∀ i m H, W i m H →
      (J.stop i H ∧ Rend H) ∨ (J.go i H ∧ ∃ Nx : Hp → Prop, (∀ H', Nx H' → ∃ m', m' < m ∧ W (i + 1) m' H') ∧ ∀ x H', J.yld i H x H' →
        B x H' fun y H4 => ∃ acc, H4 D = some (.lst acc) ∧ acc.length < sizeLine ∧ Nx (L2.upd H4 D (.lst (acc ++ [y])))) := by
  have ne : ¬ D = p := fun z => by obtain ⟨a0, d0, c0, f0, S0⟩ := pn; have := S0.d; rw [← z, nD] at this; cases this
  have two : ∀ {H : Hp} {ys : List V}, Pen K H p tc → H D = some (.lst ys) → NoTup H (fun a => a = D ∨ a = p) := fun {H ys} pn hD x xs hx => by
    rcases hx with rfl | rfl
    · exact noTupD hD _ _ rfl
    · exact pn.noTup _ _ rfl
  refine ⟨fun i m H => m = n - i ∧ i ≤ n ∧ But (· = p) H1 H ∧ Pen K H p tc ∧ ∃ ys, H D = some (.lst ys) ∧ ys.length = i ∧ ∀ y, y ∈ ys → R y H, ⟨n, by simp, Nat.zero_le _, (pn.app (But.refl _ _) pn nD).2, (pn.app (But.refl _ _) pn nD).1, [], upd_same, rfl, fun y h => nomatch h⟩, ?_⟩
  rintro i m H ⟨rfl, hi, e, pn1, ys, hD, hl, hR⟩
  by_cases hlt : i < n
  · refine .inr ⟨w.goes i H hlt trivial, fun H' => But (· = p) H1 H' ∧ Pen K H' p tc ∧ ∃ ys, H' D = some (.lst ys) ∧ ys.length = i + 1 ∧ ∀ y, y ∈ ys → R y H', fun H' p' => ⟨n - (i + 1), by omega, rfl, hlt, p'⟩, fun x H' y => ?_⟩
    have eH := hY _ _ _ _ (w.yields i H x H' hlt trivial y)
    subst eH
    refine hs x H' _ e pn1 fun v H4 e4 pn4 r => ?_
    have hD4 : H4 D = some (.lst ys) := e4 _ _ ne hD
    obtain ⟨pn5, k5⟩ := pn.app (o := .lst (ys ++ [v])) (e.trans e4) pn4 nD
    refine ⟨ys, hD4, by omega, k5, pn5, ys ++ [v], upd_same, by simp [hl], fun y hy => ?_⟩
    have up4 : But (fun a => a = D ∨ a = p) H4 (L2.upd H4 D (.lst (ys ++ [v]))) := But.upd (.inl rfl)
    rcases List.mem_append.mp hy with hy | hy
    · refine hup y H' _ (But.trans (fun b o n h => e4 b o (fun z => n (.inr z)) h) up4) (two pn1 hD) (hR y hy)
    · rw [List.mem_singleton.mp hy]
      exact hup v H4 _ up4 (two pn4 hD4) r
  · have e1 : i = n := by omega
    subst e1
    exact .inl ⟨w.stops H trivial, hd H ys e pn1 hD hl hR⟩
theorem gather {K : PySem.W.Frag} {H : Hp} {Pd : PyData → Prop} : ∀ {ys : List V}, (∀ y, y ∈ ys → ∃ d, Dp K H y d ∧ Pd d) → ∃ ds, DpAll K H ys ds ∧ ds.length = ys.length ∧ ∀ d, d ∈ ds → Pd d
  | [], _ => ⟨[], .nil, rfl, fun _ h => nomatch h⟩
  | y :: ys, h => by
    obtain ⟨d, h1, h2⟩ := h y List.mem_cons_self
    obtain ⟨ds, h3, h4, h5⟩ := gather (ys := ys) fun z hz => h z (List.mem_cons_of_mem _ hz)
    refine ⟨d :: ds, .cons h1 h3, congrArg Nat.succ h4, fun e he => ?_⟩
    rcases List.mem_cons.mp he with rfl | he
    · exact h2
    · exact h5 e he
section
variable {P : Program} {w : World} {K : PySem.W.Frag} {mg : Str → Option Value} {base : Heap} {f : Addr} {fd : FuncData}
def sp_law_number (K : PySem.W.Frag) : Sp := fun vs H Q _ => ∃ p tc k, vs = [.ref p, .int k] ∧ 0 ≤ k ∧ k < 4 ∧ Pen K H p tc ∧ ∀ v d H', But (· = p) H H' → Pen K H' p tc → Dp K H' v d → Nice d → Q v H'
theorem ok_law_number (D : C8.Def K mg "_law_number" s_law_number f fd) (b : Binds K fd ["pen", "size"] []) (c_law_draw : CalX P w K mg base 1 "_law_draw" (sp_law_draw K)) (c_law_low : CalX P w K mg base 2 "_law_low" (sp_law_low K)) (c_law_wide : CalX P w K mg base 2 "_law_wide" (sp_law_wide K)) : CalX P w K mg base 3 "_law_number" (sp_law_number K) := by
  refine calX D b sc_law_number (fun vs H Q E h => by obtain ⟨p, tc, k, rfl, _⟩ := h; rfl) fun cdv A outer s H vs Q E hr h => ?_
  obtain ⟨p, tc, k, rfl, k0, k4, pn, q⟩ := h
  refine ⟨_, (pss_cons (ps_if (pt_cmpR op_eq (pv 1) pe_int (nomark _)) (pss_one (ps_ret (pe_op op_sub (pe_x c_law_draw hr (by decide) tk0 rfl (pa_cons (pv 0) (pa_cons pe_int pa_nil))) pe_int))) pss_nil)
    (pss_cons (ps_if (pt_cmpR op_eq (pv 1) pe_int (nomark _)) (pss_one (ps_ret (pe_x c_law_low hr (by decide) tk0 rfl (pa_cons (pe_op op_sub (pe_x c_law_draw hr (by decide) tk0 rfl (pa_cons (pv 0) (pa_cons pe_int pa_nil))) pe_int) (pa_cons (pe_op op_add pe_int (pe_x c_law_draw hr (by decide) tk0 rfl (pa_cons (pv 0) (pa_cons pe_int pa_nil)))) pa_nil))))) pss_nil)
    (pss_cons (ps_if (pt_cmpR op_eq (pv 1) pe_int (nomark _)) (pss_one (ps_ret (pe_x c_law_low hr (by decide) tk0 rfl (pa_cons (pe_op op_sub (pe_x c_law_draw hr (by decide) tk0 rfl (pa_cons (pv 0) (pa_cons pe_int pa_nil))) pe_int) (pa_cons (pe_op op_add pe_int (pe_x c_law_draw hr (by decide) tk0 rfl (pa_cons (pv 0) (pa_cons pe_int pa_nil)))) pa_nil))))) pss_nil)
    (pss_one (ps_ret (pe_x c_law_low hr (by decide) tk0 rfl (pa_cons (pe_op op_mul (pe_op op_sub pe_int (pe_op op_mul pe_int (pe_x c_law_draw hr (by decide) tk0 rfl (pa_cons (pv 0) (pa_cons pe_int pa_nil))))) (pe_x c_law_wide hr (by decide) tk0 rfl (pa_cons (pv 0) (pa_cons pe_int pa_nil)))) (pa_cons (pe_op op_add pe_int (pe_x c_law_wide hr (by decide) tk0 rfl (pa_cons (pv 0) (pa_cons pe_int pa_nil)))) pa_nil)))))))), ?_⟩
  walk_at "r"
  refine ⟨rfl, ?_⟩
  have low : ∀ (t b : Int) (H3 : Hp) (Q' : XK), But (· = p) H H3 → Pen K H3 p tc → 0 < b → t.natAbs < 10 ^ 40 → b ≤ 10 ^ 40 → sp_law_low K [.int t, .int b] H3 Q Q' := by
    intro t b H3 Q' k3 pn3 b0 h1 h2
    refine ⟨t, b, rfl, b0, ?_, fun v H4 e4 hd => q v _ H4 (k3.trans (Same.but e4)) (pn3.same e4) hd (lowD_nice b0 h1 h2)⟩
    refine (Nat.log2_lt (by omega)).mpr ?_
    have : b.natAbs ≤ 10 ^ 40 := by omega
    exact Nat.lt_of_le_of_lt this (by decide +kernel)
  by_cases hk0 : k = 0
  · rw [if_pos (decide_eq_true hk0)]
    refine ⟨p, tc, _, rfl, by decide, by decide, pn, fun d H1 d0 d1 k1 pn1 => ⟨_, rfl, q _ _ H1 k1 pn1 (.int _) ⟨_, 1, rfl, by omega, by omega⟩⟩⟩
  rw [if_neg (fun z => hk0 (of_decide_eq_true z))]
  refine ⟨rfl, ?_⟩
  by_cases hk1 : k = 1
  · rw [if_pos (decide_eq_true hk1)]
    refine ⟨p, tc, _, rfl, by decide, by decide, pn, fun d H1 d0 d1 k1 pn1 => ⟨_, rfl, p, tc, _, rfl, by decide, by decide, pn1, fun e H2 e0 e1 k2 pn2 => ⟨_, rfl, ?_⟩⟩⟩
    exact low _ _ H2 _ (k1.trans k2) pn2 (by omega) (by omega) (by omega)
  rw [if_neg (fun z => hk1 (of_decide_eq_true z))]
  refine ⟨rfl, ?_⟩
  by_cases hk2 : k = 2
  · rw [if_pos (decide_eq_true hk2)]
    refine ⟨p, tc, _, rfl, by decide, by decide, pn, fun d H1 d0 d1 k1 pn1 => ⟨_, rfl, p, tc, _, rfl, by decide, by decide, pn1, fun e H2 e0 e1 k2 pn2 => ⟨_, rfl, ?_⟩⟩⟩
    exact low _ _ H2 _ (k1.trans k2) pn2 (by omega) (by omega) (by omega)
  rw [if_neg (fun z => hk2 (of_decide_eq_true z))]
  refine ⟨p, tc, _, rfl, by decide, by decide, pn, fun d H1 d0 d1 k1 pn1 => ⟨_, rfl, .inl ⟨by decide, by decide⟩, p, tc, 40, rfl, by decide, pn1, fun e H2 e0 e1 k2 pn2 => ⟨_, rfl, .inl ⟨by omega, by omega⟩, p, tc, 39, rfl, by decide, pn2, fun f' H3 f0 f1 k3 pn3 => ⟨_, rfl, ?_⟩⟩⟩⟩
  refine low _ _ H3 _ ((k1.trans k2).trans k3) pn3 (by omega) ?_ (by omega)
  have hd : d = 0 ∨ d = 1 := by omega
  rcases hd with rfl | rfl
  · simp; omega
  · simp; omega
def sp_law_drawn (K : PySem.W.Frag) (n : Nat) : Sp := fun vs H Q _ => ∃ p tc, vs = [.ref p, .int (n : Nat)] ∧ Pen K H p tc ∧ ∀ v d H', But (· = p) H H' → Pen K H' p tc → Dp K H' v d → Nol d → Dv n d → Q v H'
theorem fn_law_drawn (Z : Zb mg) (D : C8.Def K mg "_law_drawn_value" s_law_drawn_value f fd) (b : Binds K fd ["pen", "deep"] []) {n : Nat} (c_law_draw : CalX P w K mg base 1 "_law_draw" (sp_law_draw K)) (c_law_number : CalX P w K mg base 3 "_law_number" (sp_law_number K)) (c_law_drawn_value : CalX P w K mg base (n + 3) "_law_drawn_value" (fun vs H Q E => 0 < n ∧ sp_law_drawn K (n - 1) vs H Q E)) : CalX P w K mg base (n + 4) "_law_drawn_value" (sp_law_drawn K n) := by
  have nd := sc_law_drawn_value.nd
  refine calX D b sc_law_drawn_value (fun vs H Q E h => by obtain ⟨p, tc, rfl, _⟩ := h; rfl) fun cdv A outer s H vs Q E hr h => ?_
  obtain ⟨p, tc, rfl, pn, q⟩ := h
  refine ⟨_, (pss_cons (ps_set (i := 2) nd rfl (Or.inl rfl) (pe_x c_law_draw hr (by(omega)) tk0 rfl (pa_cons (pv 0) (pa_cons (pe_ifExp (pt_cmpR op_gt (pv 1) pe_int (nomark _)) pe_int pe_int) pa_nil))))
    (pss_cons (ps_if (pt_cmpR op_lt (pv 2) pe_int (nomark _)) (pss_one (ps_ret (pe_x c_law_number hr (by(omega)) tk0 rfl (pa_cons (pv 0) (pa_cons (pe_x c_law_draw hr (by(omega)) tk0 rfl (pa_cons (pv 0) (pa_cons pe_int pa_nil))) pa_nil))))) pss_nil)
    (pss_one (ps_ret (pe_callTy call_tuple_of rfl Z.tuple PyProof.Rows.boot_tuple (pa_cons (pe_lc (own := [("lap", 3)]) rfl nd (pi_range1 rfl Z.range (pa_cons (pe_x c_law_draw hr (by(omega)) tk0 rfl (pa_cons (pv 0) (pa_cons pe_int pa_nil))) pa_nil)) (blkOk_by (N := ["pen", "deep", "way", "lap"]) (sc := C8.fnScope s_law_drawn_value) (by decide +kernel)) (fun _ _ _ _ _ => (pg_name (i := 3) nd rfl (Or.inl rfl))) (fun _ _ _ _ _ => pts_nil) (fun _ _ _ _ _ => (pe_x c_law_drawn_value hr (by(omega)) tk0 rfl (pa_cons (pv 0) (pa_cons (pe_op op_sub (pv 1) pe_int) pa_nil))))) pa_nil)))))), ?_⟩
  walk_at "r"
  have num : ∀ (H1 : Hp) (E1 E2 : XK), But (· = p) H H1 → Pen K H1 p tc → sp_law_draw K [.ref p, .int 3] H1 (fun x H2 => sp_law_number K [.ref p, x] H2 Q E1) E2 := by
    intro H1 E1 E2 k1 pn1
    refine ⟨p, tc, 3, rfl, by decide, by decide, pn1, fun d H2 d0 d1 k2 pn2 => ⟨p, tc, d, rfl, d0, by omega, pn2, fun v dd H3 k3 pn3 hd nc => ?_⟩⟩
    refine q v dd H3 ((k1.trans k2).trans k3) pn3 hd nc.nol ?_
    cases n with
    | zero => exact nc
    | succ n => exact .inl nc
  cases n with
  | zero =>
    rw [if_neg (by decide)]
    refine ⟨p, tc, 2, rfl, by decide, by decide, pn, fun d H1 d0 d1 k1 pn1 => ⟨_, rfl, ?_⟩⟩
    rw [if_pos (decide_eq_true (by omega))]
    exact num H1 _ _ k1 pn1
  | succ n =>
    rw [if_pos (decide_eq_true (by omega))]
    refine ⟨p, tc, 5, rfl, by decide, by decide, pn, fun d H1 d0 d1 k1 pn1 => ⟨_, rfl, ?_⟩⟩
    by_cases h2 : d < 2
    · rw [if_pos (decide_eq_true h2)]
      exact num H1 _ _ k1 pn1
    rw [if_neg (fun z => h2 (of_decide_eq_true z))]
    refine ⟨_, rfl, p, tc, 4, rfl, by decide, by decide, pn1, fun m H2 m0 m1 k2 pn2 => ⟨m, rfl, by omega, by omega, fun D nD => ?_⟩⟩
    have k02 := k1.trans k2
    refine comp_pen walk_range (szL (by omega)) nD pn2 (fun x H' Q' => 0 < n + 1 ∧ sp_law_drawn K (n + 1 - 1) [.ref p, .int (((n + 1 : Nat) : Int) - 1)] H' Q' _) (fun v H' => ∃ d, Dp K H' v d ∧ (Nol d ∧ Dv n d)) (fun _ _ _ _ y => y.1) ?_ ?_ ?_
    · rintro v Ha Hb k z ⟨d, hd, nl, dv⟩
      exact ⟨d, Dp.but z k nl hd, nl, dv⟩
    · intro x Ha Q' ka pna q'
      have e : ((n + 1 : Nat) : Int) - 1 = (n : Nat) := by omega
      rw [e]
      exact ⟨Nat.succ_pos _, p, tc, rfl, pna, fun v d Hb kb pnb hd nl dv => q' v Hb kb pnb ⟨d, hd, nl, dv⟩⟩
    · intro Ha ys ka pna hD hl hR
      obtain ⟨ds, al, hlen, hp⟩ := gather hR
      refine ⟨ys, .inl ⟨.inl (.inl hD), fun l nl => ?_⟩⟩
      have e3 := same_new nl (.tup ys)
      refine q _ (.tuple ds) _ ((k02.trans ka).trans (Same.but e3)) (pna.same e3) (.tup (.inl (.inl upd_same)) (DpAll.same e3 al)) (.tup fun d hd => (hp d hd).1) (.inr ⟨ds, rfl, by omega, fun d hd => (hp d hd).2⟩)
theorem ok_law_drawn (Z : Zb mg) (D : C8.Def K mg "_law_drawn_value" s_law_drawn_value f fd) (b : Binds K fd ["pen", "deep"] []) (c_law_draw : CalX P w K mg base 1 "_law_draw" (sp_law_draw K)) (c_law_number : CalX P w K mg base 3 "_law_number" (sp_law_number K)) : ∀ n, CalX P w K mg base (n + 4) "_law_drawn_value" (sp_law_drawn K n)
  | 0 => fn_law_drawn Z D b c_law_draw c_law_number ((CalX.none D b _).imp fun _ _ _ _ h => absurd h.1 (Nat.lt_irrefl 0))
  | n + 1 => fn_law_drawn Z D b c_law_draw c_law_number ((ok_law_drawn Z D b c_law_draw c_law_number n).imp fun _ _ _ _ h => h.2)
end
end FP
set_option maxHeartbeats 4000000
/-! for i, x in enumerate(a tuple): the library has the walk over a list; here the same over a tuple, by the library's general draw (Draws) -/
namespace FP
open PySem PySem.Spec PyProof.Rows L2
open AutoSeq1 (wpAny_loadPart')
/-- the objects that are made: the tuple's iterator, then the enumerator -/
def tIt (l : Addr) : Obj := { cls := .type "tuple_iterator", data := .fields #[.ref l, .int 0 0] }
def tEn (it : Addr) : Obj := { cls := .type "enumerate", data := .fields #[.none, .bool false, .ref it, rawInt 0, .none, .none] }
theorem tenum_new (l : Addr) (its : Array Value) (n : Nat) (dt : Option Addr) (sl : Array (Option Value)) : Meets (Builtin.«enumerate.__new__» ⟨[.type "enumerate", .ref l], []⟩) (fun _ R s =>
    s.heap.get? l = some { cls := .type "tuple", dict := dt, data := .seq its n, slots := sl } ∧ R (.ok (.ret (.ref (s.heap.push (tIt l)).objs.size))) { s with heap := (s.heap.push (tIt l)).push (tEn s.heap.objs.size) }) := .of_wp fun prog w A R s h => by
  obtain ⟨hp, g, d, tk, os⟩ := s
  obtain ⟨ht, h⟩ := h
  have hT : Heap.IsTuple (Shared.heap ⟨hp, g, d, tk, os⟩) l its := ⟨_, ht, rfl, n, rfl⟩
  have hs := sub_enumerate
  wp_walk using wpAny_loadPart' ht
  refine wpAny_stack_any fun q => wpAny_pure ?_
  split
  · rename_i c _ _ _ _ _
    cases (c == Value.type "enumerate") <;> (wp_walk using wpAny_loadPart' ht, wpAny_pyIter_tuple hT; exact ⟨_, rfl, h⟩)
  · wp_walk using wpAny_loadPart' ht, wpAny_pyIter_tuple hT; exact ⟨_, rfl, h⟩
section
variable {prog : Program} {w : World} {A : Around} {E : Value → Shared → Prop} {s : Shared}
theorem call_tenum {l : Addr} {its : Array Value} {Q : Value → Shared → Prop} (hT : s.heap.IsTuple l its)
    (h : ∀ h', IsEnum h' (s.heap.objs.size + 1) s.heap.objs.size 0 .none → h'.IsTupleIter s.heap.objs.size l 0 → (∀ b o, s.heap.get? b = some o → h'.get? b = some o) → Q (.ref (s.heap.objs.size + 1)) { s with heap := h' }) :
    wpAny (model prog w) A (call (.type "enumerate") [.ref l]) Q E s := by
  obtain ⟨⟨c, dt, da, sl⟩, e, hc, n, hd⟩ := hT
  replace hc : c = .type "tuple" := hc
  replace hd : da = .seq its n := hd
  subst hc hd
  refine callType_new F.called_enumerate (by decide) (F.typeCall_enumerate_1 _) (F.newCall_enumerate_1 _) (fun obj => F.args_object_init_2 obj _) F.entry_enumerate_new (tenum_new l its n dt sl) ⟨e, ?_⟩
  have z : (s.heap.push (tIt l)).objs.size = s.heap.objs.size + 1 := Heap.size_push ..
  rw [z]
  have en : ((s.heap.push (tIt l)).push (tEn s.heap.objs.size)).get? (s.heap.objs.size + 1) = some (tEn s.heap.objs.size) := by
    have q := Heap.get?_push_size (s.heap.push (tIt l)) (o := tEn s.heap.objs.size) rfl
    rw [z] at q; exact q
  exact ⟨⟨_, en, rfl⟩, h _ en ⟨_, Heap.get?_push_of_some _ (Heap.get?_push_size _ rfl), rfl, rfl⟩ fun b o x => Heap.get?_push_of_some _ (Heap.get?_push_of_some _ x)⟩
/-- a tuple's iterator draws the tuple's items -/
theorem drawsT (it l : Addr) (its : Array Value) (hh : A.handled = none) : Draws prog w A it [it, l] its.size (fun i x => its[i]? = some x) (fun i h => h.IsTupleIter it l i ∧ h.IsTuple l its ∧ it ≠ l) where
  live := fun i h st => let ⟨⟨o, e, _⟩, _⟩ := st; ⟨o, e⟩
  frame := fun i h h' st k => let ⟨⟨o, e, r⟩, ⟨o2, e2, r2⟩, ne⟩ := st; ⟨⟨o, k it (by simp) o e, r⟩, ⟨o2, k l (by simp) o2 e2, r2⟩, ne⟩
  item := fun i s Q E hi st hQ => RZ.nextOf_tuple_item st.1 st.2.1 (x := its[i]) (by simp [hi]) fun h' st' sb =>
    hQ its[i] h' s.toks (by simp [hi]) ⟨st', let ⟨o2, e2, r2⟩ := st.2.1; ⟨o2, (sb.2 l (Ne.symm st.2.2)).trans e2, r2⟩, st.2.2⟩ sb
  done := fun s Q E st hE => RZ.nextOf_tuple_end hh st.1 st.2.1 (by simp) hE
/-- .. and at its end none -/
theorem drawsE (it l : Addr) (its : Array Value) (n : Nat) (hn : its.size ≤ n) (hh : A.handled = none) : Draws prog w A it [it, l] n (fun _ _ => True) (fun i h => i = n ∧ h.IsTupleIter it l n ∧ h.IsTuple l its) where
  live := fun i h st => let ⟨_, ⟨o, e, _⟩, _⟩ := st; ⟨o, e⟩
  frame := fun i h h' st k => let ⟨ei, ⟨o, e, r⟩, ⟨o2, e2, r2⟩⟩ := st; ⟨ei, ⟨o, k it (by simp) o e, r⟩, ⟨o2, k l (by simp) o2 e2, r2⟩⟩
  item := fun i s Q E hi st hQ => absurd hi (by rw [st.1]; exact Nat.lt_irrefl n)
  done := fun s Q E st hE => RZ.nextOf_tuple_end hh st.2.1 st.2.2 (by simp; exact hn) hE
end
/-- the tuple at a, each item in a new pair -/
def IteT (K : PySem.W.Frag) (a : Addr) : It :=
  ⟨fun i H => ∃ (xs : List V) (x : V), SqT K H a xs ∧ xs[i]? = some x, fun i H v H' => ∃ T x, v = .ref T ∧ H T = none ∧ H' = upd H T (.tup [.int (i : Nat), x]) ∧ ∀ xs, SqT K H a xs → xs[i]? = some x, fun i H => ∃ xs : List V, SqT K H a xs ∧ xs.length ≤ i⟩
theorem walk_enumT {K : PySem.W.Frag} {a : Addr} {xs : List V} : Walk (IteT K a) xs.length (fun H => SqT K H a xs) (YPair (fun i => some (.int (i : Nat))) (fun i => xs[i]?)) := by
  refine ⟨fun i _ hi q => ⟨xs, xs[i], q, by simp [hi]⟩, fun _ q => ⟨xs, q, Nat.le_refl _⟩, fun i H v H' _ q y => ?_⟩
  obtain ⟨T, x, h1, h2, h3, h4⟩ := y
  exact ⟨T, .int (i : Nat), x, h1, h2, h3, rfl, h4 xs q⟩
theorem turn_enumT {P : Program} {w : World} {K : PySem.W.Frag} {elts : List Expr} {kk : Nat} {tpos : Pos} (a e it : Addr) :
    Turn P w K (.Tuple elts kk tpos) (IteT K a) [e, it] e (fun i h => (∃ old, IsEnum h e it ((i : Nat) : Int) old) ∧ h.IsTupleIter it a i ∧ e ≠ it ∧ it ≠ a ∧ e ≠ a) where
  mem := by simp
  obj := fun i h st b hb => by
    obtain ⟨⟨old, he⟩, ⟨o, ho, hc, hd⟩, _⟩ := st
    rcases (show b = e ∨ b = it by simpa using hb) with z | z
    · rw [z]; exact ⟨_, he, fun v q => nomatch q⟩
    · rw [z]; exact ⟨o, ho, fun v q => by rw [hd] at q; cases q⟩
  keep := fun i h h' st k => let ⟨⟨old, he⟩, ⟨o, ho, r⟩, ne⟩ := st; ⟨⟨old, k e (by simp) _ he⟩, ⟨o, k it (by simp) o ho, r⟩, ne⟩
  item := by
    intro X hP hw hK hc i pins s σ H E I hf st hg
    subst hP hw hK
    obtain ⟨⟨old, he⟩, hit, n1, n2, n3⟩ := st
    obtain ⟨xs, x, hq, hx⟩ := hg
    obtain ⟨its, rv, tu, hz⟩ := I.tuple hq
    obtain ⟨u, hu, ru⟩ := rv.get hx
    have hel : e < s.heap.objs.size := Heap.lt_size he
    have hil : it < s.heap.objs.size := by obtain ⟨_, q, _⟩ := hit; exact Heap.lt_size q
    have hu2 : its.toArray[i]? = some u := by simpa using hu
    refine wpAny_pyNext_enum_itemD (drawsT it a its.toArray (show X.A.in1.handled = none from I.ok.hd hc)) he ⟨hit, show s.heap.IsTuple a its.toArray from tu, n2⟩ (by have := (List.getElem?_eq_some_iff.mp hu).1; simpa using this) n1 (by simp [n1, n3]) fun v h1 tk hv eo st1 hT hs1 k1 => ?_
    rw [hu2] at hv
    cases hv
    refine ⟨_, rfl, wpAny_letOwnedTupleGo_enum (s := { s with heap := h1, toks := tk + 1 }) eo fun h2 e2 sb => ?_⟩
    have hT2 : h2.get? s.heap.objs.size = some { cls := .type "tuple", data := .seq #[.int i tk, u] } := (sb.2 _ (Nat.ne_of_gt hel)).trans hT
    have nw : ObjOk X.prog X.w (upd H s.heap.objs.size (.tup [.int (i : Nat), x])) h2 s.heap.objs.size (.tup [.int (i : Nat), x]) := ⟨by show 2 ≤ sizeLine; decide, [.int i tk, u], .cons ⟨_, rfl⟩ (.cons ru .nil), ⟨_, hT2, rfl, _, rfl⟩⟩
    have J : Inv X pins σ (upd H s.heap.objs.size (.tup [.int (i : Nat), x])) { s with heap := h2, toks := tk + 1 } :=
      I.turnedNew (ch := [e, it]) (fun b ob hb q => (sb.2 b (fun z => hb (by simp [z]))).trans (k1 b ob (fun z => hb (by simp [z])) (fun z => hb (by simp [z])) q)) hf (Nat.le_refl _) nw
    have i1 : h2.IsTupleIter it a (i + 1) := by
      obtain ⟨o, ho, r⟩ := st1.1
      exact ⟨o, (sb.2 it (Ne.symm n1)).trans ho, r⟩
    refine ⟨.ref s.heap.objs.size, _, J, rfl, ⟨_, x, rfl, I.hok.fresh (Nat.le_refl _), rfl, fun ys hy => by rw [I.tuple_inj hy hq]; exact hx⟩, ⟨⟨u, ?_⟩, i1, n1, n2, n3⟩, fun b hb => ?_⟩
    · rw [show ((i + 1 : Nat) : Int) = (i : Int) + 1 by omega]; exact e2
    · have lb : b < s.heap.objs.size := by
        rcases (show b = e ∨ b = it by simpa using hb) with z | z
        · rw [z]; exact hel
        · rw [z]; exact hil
      rw [upd_ne (Nat.ne_of_lt lb)]
      exact (hf b hb).1
  done := by
    intro X hP hw hK hc i pins s σ H E I hf st hg
    subst hP hw hK
    obtain ⟨⟨old, he⟩, hit, n1, n2, n3⟩ := st
    obtain ⟨xs, hq, hx⟩ := hg
    obtain ⟨its, rv, tu, hz⟩ := I.tuple hq
    obtain ⟨f0, f1, f2, f3, f4, f5⟩ := hf it (by simp)
    have hl := rv.length
    exact wpAny_pyNext_enum_endD (drawsE it a its.toArray i (by simp; omega) (show X.A.in1.handled = none from I.ok.hd hc)) he ⟨rfl, hit, show s.heap.IsTuple a its.toArray from tu⟩ fun h' eb => ⟨rfl, I.turned (t' := s.toks) (fun b o hb q => eb b o hb q) f0 f1 f3 f4 f5⟩
  self := fun A i s Q E st h => let ⟨⟨_, he⟩, _⟩ := st; wpAny_pyIter_enum he h
def iEnumT (K : PySem.W.Frag) (ta : TA) : TI := fun σ H R => ta σ H fun vs H1 => ∃ a xs, vs = [.ref a] ∧ SqT K H1 a xs ∧ R (IteT K a) H1
/-- for i, x in enumerate(e): e a tuple -/
theorem pi_enumT {X : Cx} {e : Expr} {ta : TA} {p pos tpos : Pos} {elts : List Expr} {kk : Nat} (hg : Gl X "enumerate") (hm : X.mg "enumerate" = none) (ha : PA X [e] ta) (hs : starEach [e] X.env = [(false, eval e X.env)] := by rfl) : PI X (.Tuple elts kk tpos) (.Call (.Name "enumerate" p) [e] [] pos) (iEnumT X.K ta) := by
  refine ⟨fun pins s σ H R I h => Call_ (ld_blt I hg hm boot_enumerate (PyProof.Rows.callWith_type1 (thn (ha.run pos pins s σ H _ I h) fun us s1 ⟨vs, H1, I1, r1, q1⟩ => ?_) hs rfl))⟩
  obtain ⟨a, xs, ex, hq, q⟩ := q1
  subst ex
  cases r1 with
  | cons r rr =>
    cases rr
    cases r
    obtain ⟨its, rv, tu, hz⟩ := I1.tuple hq
    have tu2 : s1.heap.IsTuple a its.toArray := tu
    have al : a < s1.heap.objs.size := by obtain ⟨_, e, _⟩ := tu2; exact Heap.lt_size e
    refine call_tenum tu2 fun h' he hit hk => wpAny_pyIter_enum he ?_
    have I2 : Inv X pins σ H1 { s1 with heap := h' } := I1.kept (t' := s1.toks) hk
    refine ⟨s1.heap.objs.size + 1, [s1.heap.objs.size + 1, s1.heap.objs.size], _, _, H1, rfl, I2, turn_enumT a (s1.heap.objs.size + 1) s1.heap.objs.size, ⟨⟨.none, he⟩, hit, Nat.succ_ne_self _, (Nat.ne_of_lt al).symm, Nat.ne_of_gt (Nat.lt_succ_of_lt al)⟩, fun b hb => ?_, q⟩
    have le : s1.heap.objs.size ≤ b := by
      rcases (show b = s1.heap.objs.size + 1 ∨ b = s1.heap.objs.size by simpa using hb) with z | z
      · rw [z]; exact Nat.le_add_right _ _
      · rw [z]; exact Nat.le_refl _
    exact I1.fpOk le (I1.hok.fresh le)
end FP
set_option maxHeartbeats 4000000
namespace FP
open PySem PySem.Spec PyProof.Rows L2
local macro_rules | `(tactic| walk_at "rd") => `(tactic| dsimp only [tVar, tC, tCmp, tIsN, tNotN, tB, tAnd, tOr, tNot, tAndV, tOrV, tNotV, tIf, tNext, tSeq, tBreak, tCont, tDrop, tRet, tRetN, tIfS, tNever, tAsg, tPar, tAug, tOp, tUn, tTest, tChain, tFld, tNil, tCons, tTup, tLst, tCB, iList, iTup, iStr, tLc, tM0, tM1, tPart, tNoPart, tSl, tBM, tCallS, tCallSD, tMethW, tMake, sDPut, tDisp, tPairs, WE, tDGet, tDIn, gName, gTup, gCons, gNil, gSub, sFld, sFldAug, rI, rI0, rU, rEq, rNe, rAdd, rSub, t2I, tYes, cx_K, cx_w, cx_prog])
local macro_rules | `(tactic| walk_at "rs") => `(tactic| (try simp (maxSteps := 4000000) only [L2.start, List.map_cons, List.map_nil, List.length_cons, List.length_nil, List.cons_append, List.nil_append, Nat.reduceAdd, Nat.reduceSub, Nat.zero_add, List.replicate, List.getElem?_cons_zero, List.getElem?_cons_succ, Option.some.injEq, exists_eq_left', exists_eq_left, V.int.injEq, V.str.injEq, V.bl.injEq, V.ref.injEq, List.set_cons_zero, List.set_cons_succ, exists_and_left, List.cons.injEq, and_true, true_and, wipe, if_true, if_false, Bool.not_true, Bool.not_false, Bool.false_eq_true, decide_true, decide_false]))
local macro_rules | `(tactic| walk_at "r") => `(tactic| (walk_at "rd"; walk_at "rs"))
local macro_rules | `(tactic| walk_at "T") => `(tactic| (rw [if_pos (by first | assumption | rfl | decide | exact decide_eq_true (by assumption) | (simp [tyOf]; done) | (simp; omega) | omega)]; walk_at "rs"))
local macro_rules | `(tactic| walk_at "F") => `(tactic| (rw [if_neg (by first | assumption | decide | (simp [tyOf]; done) | (simp; omega) | (simp; assumption) | omega)]; walk_at "rs"))
/-! ### the law's tokens -/
abbrev strV (x : List Nat) : V := .str (SX.S x)
def sepT : Bool → List (List (List Nat)) → List (List Nat)
  | _, [] => []
  | b, x :: r => (if b then [] else [[44]]) ++ x ++ sepT false r
theorem sepT_snoc (b : Bool) (x : List (List Nat)) : ∀ l : List (List (List Nat)), sepT b (l ++ [x]) = sepT b l ++ ((if (b && l.isEmpty) = true then [] else [[44]]) ++ x)
  | [] => by cases b <;> simp [sepT]
  | y :: r => by
    rw [List.cons_append]
    show (if b then [] else [[44]]) ++ y ++ sepT false (r ++ [x]) = ((if b then [] else [[44]]) ++ y ++ sepT false r) ++ _
    rw [sepT_snoc false x r]
    simp
theorem sepT_mem {x : List (List Nat)} : ∀ {l : List (List (List Nat))} {b : Bool}, x ∈ l → x.length ≤ (sepT b l).length
  | _ :: r, b, .head _ => by show x.length ≤ ((if b then [] else [[44]]) ++ x ++ sepT false r).length; rw [List.length_append, List.length_append]; omega
  | y :: r, b, .tail _ h => by
    have := sepT_mem (b := false) h
    show x.length ≤ ((if b then [] else [[44]]) ++ y ++ sepT false r).length
    rw [List.length_append]; omega
theorem sepT_take (i : Nat) : ∀ (l : List (List (List Nat))) (b : Bool), (sepT b (l.take i)).length ≤ (sepT b l).length := by
  induction i with
  | zero => intro l b; rw [List.take_zero]; exact Nat.zero_le _
  | succ i ih =>
    intro l b
    cases l with
    | nil => exact Nat.le_refl _
    | cons x r =>
      have := ih r false
      show ((if b then [] else [[44]]) ++ x ++ sepT false (r.take i)).length ≤ ((if b then [] else [[44]]) ++ x ++ sepT false r).length
      simp only [List.length_append]; omega
def ratT (t b : Int) : List (List Nat) := (if t < 0 then [[45]] else []) ++ (if b = 1 then [TL.numL t.natAbs] else [TL.numL t.natAbs, [47], TL.numL b.natAbs])
def tokV : Nat → PyData → List (List Nat)
  | n, d => match ratioOf d with
    | some (t, b) => ratT t b
    | none => match n, d with
      | n + 1, .tuple ds => [40] :: (sepT true (ds.map (tokV n)) ++ ((if ds.length = 1 then [[44]] else []) ++ [[41]]))
      | _, _ => []
theorem tokV_rat {n : Nat} {d : PyData} {t b : Int} (h : ratioOf d = some (t, b)) : tokV n d = ratT t b := by
  unfold tokV; rw [h]
theorem tokV_tup {n : Nat} {ds : List PyData} (h : ratioOf (.tuple ds) = none) : tokV (n + 1) (.tuple ds) = [40] :: (sepT true (ds.map (tokV n)) ++ ((if ds.length = 1 then [[44]] else []) ++ [[41]])) := by
  rw [tokV.eq_def]
  show (match ratioOf (.tuple ds) with | some (t, b) => _ | none => _) = _
  rw [h]
theorem same_none {H H' : Hp} {l : Addr} (e : Same H H') (h : H' l = none) : H l = none := by
  cases z : H l with
  | none => rfl
  | some o => have := e l o z; rw [h] at this; cases this
theorem Same.upd {H H' : Hp} {D : Addr} {o : HO} (e : Same H H') (n : H D = none) : Same H (L2.upd H' D o) := fun b u h => by
  rw [upd_ne (fun z => by rw [z, n] at h; cases h)]; exact e b u h
theorem num_V (n : Nat) : V.str (Str.ofString (toString ((n : Nat) : Int))) = strV (TL.numL n) := congrArg V.str (SX.num_S n)
section
variable {P : Program} {w : World} {K : PySem.W.Frag} {mg : Str → Option Value} {base : Heap} {f : Addr} {fd : FuncData}
end
end FP
set_option maxHeartbeats 4000000
namespace FP
open PySem PySem.Spec PyProof.Rows L2
local macro_rules | `(tactic| walk_at "rd") => `(tactic| dsimp only [tVar, tC, tCmp, tIsN, tNotN, tB, tAnd, tOr, tNot, tAndV, tOrV, tNotV, tIf, tNext, tSeq, tBreak, tCont, tDrop, tRet, tRetN, tIfS, tNever, tAsg, tPar, tAug, tOp, tUn, tTest, tChain, tFld, tNil, tCons, tTup, tLst, tCB, iList, iTup, iStr, tLc, tM0, tM1, tPart, tNoPart, tSl, tBM, tCallS, tCallSD, tMethW, tMake, sDPut, tDisp, tPairs, WE, tDGet, tDIn, gName, gTup, gCons, gNil, gSub, sFld, sFldAug, rI, rI0, rU, rEq, rNe, rAdd, rSub, t2I, tYes, cx_K, cx_w, cx_prog])
local macro_rules | `(tactic| walk_at "rs") => `(tactic| (try simp (maxSteps := 4000000) only [L2.start, List.map_cons, List.map_nil, List.length_cons, List.length_nil, List.cons_append, List.nil_append, Nat.reduceAdd, Nat.reduceSub, Nat.zero_add, List.replicate, List.getElem?_cons_zero, List.getElem?_cons_succ, Option.some.injEq, exists_eq_left', exists_eq_left, V.int.injEq, V.str.injEq, V.bl.injEq, V.ref.injEq, List.set_cons_zero, List.set_cons_succ, exists_and_left, List.cons.injEq, and_true, true_and, wipe, if_true, if_false, Bool.not_true, Bool.not_false, Bool.false_eq_true, decide_true, decide_false]))
local macro_rules | `(tactic| walk_at "r") => `(tactic| (walk_at "rd"; walk_at "rs"))
local macro_rules | `(tactic| walk_at "T") => `(tactic| (rw [if_pos (by first | assumption | rfl | decide | exact decide_eq_true (by assumption) | (simp [tyOf]; done) | (simp; omega) | omega)]; walk_at "rs"))
local macro_rules | `(tactic| walk_at "F") => `(tactic| (rw [if_neg (by first | assumption | decide | (simp [tyOf]; done) | (simp; omega) | (simp; assumption) | omega)]; walk_at "rs"))
/-- the text of tokens: a blank behind a comma that no bracket follows -/
def txtT : List (List Nat) → List Nat
  | [] => []
  | t :: r => t ++ ((if t = [44] ∧ r.head? ≠ some [41] then [32] else []) ++ txtT r)
/-- those whose flag is set -/
def fltL : List V → List Bool → List V
  | x :: xs, b :: bs => if b = true then x :: fltL xs bs else fltL xs bs
  | _, _ => []
theorem fltL_snoc (x : V) (b : Bool) : ∀ {xs : List V} {bs : List Bool}, xs.length = bs.length → fltL (xs ++ [x]) (bs ++ [b]) = fltL xs bs ++ (if b = true then [x] else [])
  | [], [], _ => by cases b <;> rfl
  | [], _ :: _, h => by simp at h
  | _ :: _, [], h => by simp at h
  | y :: ys, c :: cs, h => by
    have q := fltL_snoc x b (xs := ys) (bs := cs) (by simpa using h)
    show (if c = true then y :: fltL (ys ++ [x]) (cs ++ [b]) else fltL (ys ++ [x]) (cs ++ [b])) = (if c = true then y :: fltL ys cs else fltL ys cs) ++ _
    rw [q]
    cases c <;> rfl
theorem fltL_len : ∀ (xs : List V) (bs : List Bool), (fltL xs bs).length ≤ xs.length
  | [], _ => by cases ‹List Bool› <;> exact Nat.zero_le _
  | _ :: _, [] => Nat.zero_le _
  | x :: xs, b :: bs => by
    have := fltL_len xs bs
    show (if b = true then x :: fltL xs bs else fltL xs bs).length ≤ xs.length + 1
    split
    · simp; omega
    · omega
theorem fltL_mem {v : V} : ∀ {xs : List V} {bs : List Bool}, v ∈ fltL xs bs → v ∈ xs
  | [], [], h => nomatch h
  | [], _ :: _, h => nomatch h
  | _ :: _, [], h => nomatch h
  | x :: xs, b :: bs, h => by
    have h : v ∈ (if b = true then x :: fltL xs bs else fltL xs bs) := h
    split at h
    · rcases List.mem_cons.mp h with rfl | h
      · exact List.mem_cons_self
      · exact List.mem_cons_of_mem _ (fltL_mem h)
    · exact List.mem_cons_of_mem _ (fltL_mem h)
theorem fltL_nil : ∀ {xs : List V} {bs : List Bool}, xs.length = bs.length → (fltL xs bs).isEmpty = bs.all (!·)
  | [], [], _ => rfl
  | [], _ :: _, h => by simp at h
  | _ :: _, [], h => by simp at h
  | x :: xs, b :: bs, h => by
    have q := fltL_nil (xs := xs) (bs := bs) (by simpa using h)
    show (if b = true then x :: fltL xs bs else fltL xs bs).isEmpty = (!b && bs.all (!·))
    cases b
    · exact q
    · rfl
/-- a comprehension with a test, the items as they are -/
theorem comp_flt {J : It} {xs : List V} {G : Hp → Prop} {H1 : Hp} {D : Addr} {Rend : Hp → Prop} (w : Walk J xs.length G (YAt xs)) (small : xs.length < sizeLine) (nD : H1 D = none) (B : V → Hp → (Bool → Hp → Prop) → Prop) (ps : List Bool) (hl : ps.length = xs.length)
    (hG : ∀ H, But (· = D) (L2.upd H1 D (.lst [])) H → G H)
    (hs : ∀ (i : Nat) x b H (Kc : Bool → Hp → Prop), xs[i]? = some x → ps[i]? = some b → Same H1 H → (∀ H', Same H H' → Kc b H') → B x H Kc)
    (hd : ∀ H, Same H1 H → H D = some (.lst (fltL xs ps)) → Rend H) :
    ∃ W : Nat → Nat → Hp → Prop, (∃ m, W 0 m (L2.upd H1 D (.lst []))) ∧ ∀ i m H, W i m H →
      (J.stop i H ∧ Rend H) ∨ (J.go i H ∧ ∃ Nx : Hp → Prop, (∀ H', Nx H' → ∃ m', m' < m ∧ W (i + 1) m' H') ∧ ∀ x H', J.yld i H x H' →
        B x H' fun k H4 => if k = true then ∃ acc, H4 D = some (.lst acc) ∧ acc.length < sizeLine ∧ Nx (L2.upd H4 D (.lst (acc ++ [x]))) else Nx H4) := by
  refine ⟨fun i m H => m = xs.length - i ∧ i ≤ xs.length ∧ But (· = D) (L2.upd H1 D (.lst [])) H ∧ H D = some (.lst (fltL (xs.take i) (ps.take i))), ⟨xs.length, by simp, Nat.zero_le _, But.refl _ _, upd_same⟩, ?_⟩
  rintro i m H ⟨rfl, hi, e, hD⟩
  have q := hG H e
  by_cases hlt : i < xs.length
  · refine .inr ⟨w.goes i H hlt q, fun H' => But (· = D) (L2.upd H1 D (.lst [])) H' ∧ H' D = some (.lst (fltL (xs.take (i + 1)) (ps.take (i + 1)))), fun H' p' => ⟨xs.length - (i + 1), by omega, rfl, hlt, p'⟩, fun x H' y => ?_⟩
    obtain ⟨rfl, hy⟩ := w.yields i H x H' hlt q y
    have hp : ps[i]? = some ps[i] := List.getElem?_eq_getElem (by omega)
    have es : fltL (xs.take (i + 1)) (ps.take (i + 1)) = fltL (xs.take i) (ps.take i) ++ (if ps[i] = true then [x] else []) := by
      rw [List.take_succ, List.take_succ, hy, hp]
      exact fltL_snoc x _ (by rw [List.length_take, List.length_take, hl])
    refine hs i x _ H' _ hy hp (Same.of_but nD e) fun H4 e4 => ?_
    have hD4 := e4 _ _ hD
    by_cases hb : ps[i] = true
    · rw [if_pos hb]
      rw [if_pos hb] at es
      refine ⟨_, hD4, Nat.lt_of_le_of_lt (Nat.le_trans (fltL_len _ _) (by rw [List.length_take]; omega)) small, e.trans ((Same.but e4).trans (But.upd rfl)), by rw [upd_same, es]⟩
    · rw [if_neg hb]
      rw [if_neg hb, List.append_nil] at es
      exact ⟨e.trans (Same.but e4), by rw [es]; exact hD4⟩
  · have e1 : i = xs.length := by omega
    subst e1
    rw [List.take_length, ← hl, List.take_length] at hD
    exact .inl ⟨w.stops H q, hd H (Same.of_but nD e) hD⟩
theorem lay_all : ∀ {ds : List PyData}, (∀ d, d ∈ ds → d.canLay0 = true) → PyData.canLayAll0 ds = true
  | [], _ => rfl
  | d :: ds, h => by
    show (PyData.canLay0 d && PyData.canLayAll0 ds) = true
    rw [h d List.mem_cons_self, lay_all fun e he => h e (List.mem_cons_of_mem _ he)]; rfl
theorem depth_all {k : Nat} : ∀ {ds : List PyData}, (∀ d, d ∈ ds → d.depth ≤ k) → PyData.depthAll ds ≤ k
  | [], _ => Nat.zero_le _
  | d :: ds, h => by
    show max (PyData.depth d) (PyData.depthAll ds) ≤ k
    exact Nat.max_le.mpr ⟨h d List.mem_cons_self, depth_all fun e he => h e (List.mem_cons_of_mem _ he)⟩
theorem shapedL {k : Nat} {ds : List PyData} (h : ∀ d, d ∈ ds → d.canLay0 = true ∧ d.depth ≤ k) (hk : k < 64) : SeqAt.shaped (.list ds) = true := by
  unfold SeqAt.shaped
  rw [show PyData.canLay0 (.list ds) = true from lay_all fun d hd => (h d hd).1]
  have := depth_all (ds := ds) (k := k) fun d hd => (h d hd).2
  rw [decide_eq_true (show PyData.depth (.list ds) ≤ 64 by show PyData.depthAll ds + 1 ≤ 64; omega)]; rfl
theorem shapedT {k : Nat} {ds : List PyData} (h : ∀ d, d ∈ ds → d.canLay0 = true ∧ d.depth ≤ k) (hk : k < 64) : SeqAt.shaped (.tuple ds) = true := by
  unfold SeqAt.shaped
  rw [show PyData.canLay0 (.tuple ds) = true from lay_all fun d hd => (h d hd).1]
  have := depth_all (ds := ds) (k := k) fun d hd => (h d hd).2
  rw [decide_eq_true (show PyData.depth (.tuple ds) ≤ 64 by show PyData.depthAll ds + 1 ≤ 64; omega)]; rfl
/-- code points -/
def Cps (l : List Nat) : Prop := ∀ c, c ∈ l → c < 1114112
theorem lay_str {l : List Nat} (h : Cps l) : (PyData.str (SX.S l)).canLay0 = true := by
  show (SX.S l).cps.all (· < 0x110000) = true
  rw [← Array.all_toList]
  exact List.all_eq_true.mpr fun c hc => decide_eq_true (h c hc)
theorem eqv_nil (ds : List PyData) : PyData.eqv (.list ds) (.list []) = ds.isEmpty := by
  show PyData.eqvAll ds [] = _
  cases ds <;> rfl
theorem dp_nil {K : PySem.W.Frag} {H : Hp} {p : Addr} (h : H p = some (.lst [])) : Dp K H (.ref p) (.list []) := .lst (.inl (.inl h)) .nil
theorem shaped_nil : SeqAt.shaped (.list []) = true := rfl
theorem u64 {k : Nat} {A : Around} (r : Room k A) : A.units + 64 < cLine := by have := r.un; omega
section
variable {P : Program} {w : World} {K : PySem.W.Frag} {mg : Str → Option Value} {base : Heap} {f : Addr} {fd : FuncData}
end
end FP
set_option maxHeartbeats 4000000
namespace FP
open PySem PySem.Spec PyProof.Rows L2
local macro_rules | `(tactic| walk_at "rd") => `(tactic| dsimp only [tVar, tC, tCmp, tIsN, tNotN, tB, tAnd, tOr, tNot, tAndV, tOrV, tNotV, tIf, tNext, tSeq, tBreak, tCont, tDrop, tRet, tRetN, tIfS, tNever, tAsg, tPar, tAug, tOp, tUn, tTest, tChain, tFld, tNil, tCons, tTup, tLst, tCB, iList, iTup, iStr, tLc, tM0, tM1, tPart, tNoPart, tSl, tBM, tCallS, tCallSD, tMethW, tMake, sDPut, tDisp, tPairs, WE, tDGet, tDIn, gName, gTup, gCons, gNil, gSub, sFld, sFldAug, rI, rI0, rU, rEq, rNe, rAdd, rSub, t2I, tYes, cx_K, cx_w, cx_prog])
local macro_rules | `(tactic| walk_at "rs") => `(tactic| (try simp (maxSteps := 4000000) only [L2.start, List.map_cons, List.map_nil, List.length_cons, List.length_nil, List.cons_append, List.nil_append, Nat.reduceAdd, Nat.reduceSub, Nat.zero_add, List.replicate, List.getElem?_cons_zero, List.getElem?_cons_succ, Option.some.injEq, exists_eq_left', exists_eq_left, V.int.injEq, V.str.injEq, V.bl.injEq, V.ref.injEq, List.set_cons_zero, List.set_cons_succ, exists_and_left, List.cons.injEq, and_true, true_and, wipe, if_true, if_false, Bool.not_true, Bool.not_false, Bool.false_eq_true, decide_true, decide_false]))
local macro_rules | `(tactic| walk_at "r") => `(tactic| (walk_at "rd"; walk_at "rs"))
local macro_rules | `(tactic| walk_at "T") => `(tactic| (rw [if_pos (by first | assumption | rfl | decide | exact decide_eq_true (by assumption) | (simp [tyOf]; done) | (simp; omega) | omega)]; walk_at "rs"))
local macro_rules | `(tactic| walk_at "F") => `(tactic| (rw [if_neg (by first | assumption | decide | (simp [tyOf]; done) | (simp; omega) | (simp; assumption) | omega)]; walk_at "rs"))
/-! ### readings by what they mean -/
theorem pe_imp {X : Cx} {e : Expr} {t t' : TE} (h : PE X e t) (f : ∀ σ H Q, t' σ H Q → t σ H Q) : PE X e t' := ⟨fun pins s σ H Q I q => h.run pins s σ H Q I (f σ H Q q)⟩
theorem pt_imp {X : Cx} {e : Expr} {t t' : TT} (h : PT X e t) (f : ∀ σ H Q, t' σ H Q → t σ H Q) : PT X e t' := ⟨fun pins s σ H Q I q => h.run pins s σ H Q I (f σ H Q q)⟩
/-- tokens[lo:hi] against one token -/
theorem dp_strs {K : PySem.W.Frag} {H : Hp} : ∀ (l : List (List Nat)), DpAll K H (l.map strV) (l.map fun x => PyData.str (SX.S x))
  | [] => .nil
  | _ :: r => .cons (.str _) (dp_strs r)
theorem shaped_strs {l : List (List Nat)} (h : ∀ t, t ∈ l → Cps t) : SeqAt.shaped (.list (l.map fun x => PyData.str (SX.S x))) = true := shapedL (k := 0) (fun d hd => by
  obtain ⟨t, ht, rfl⟩ := List.mem_map.mp hd
  exact ⟨lay_str (h t ht), Nat.le_refl 0⟩) (by decide)
end FP
set_option maxHeartbeats 4000000
/-! a lambda without parameters handed to a def that calls it: as in HandS.Lambda, with what ExcCtx knows of an error (its context is None) -/
namespace FP
open PySem PySem.Spec PyProof.Rows L2 LamX
/-- what the lambda's body wants of an error -/
def xeN (X : Cx) (A : Around) (outer : List Env) (s : Shared) (H : Hp) (E : XK) (sc : Scope) (f c : Addr) : Value → Shared → Prop := fun e t =>
  wpAny (model X.prog X.w) (A.deeper (lamEnv X sc s.heap.objs.size f c)) (leaving (lamEnv X sc s.heap.objs.size f c) e) (fun _ r => L2N.CX X.prog X.w outer H s E e r) (fun e2 r => L2N.CX X.prog X.w outer H s E e2 r) t
def lamN (X : Cx) (A : Around) (outer : List Env) (s : Shared) (H : Hp) (E : XK) (sc : Scope) (f c : Addr) : Cx := (lamCx X A outer s H E sc f c).tr [] (xeN X A outer s H E sc f c)
theorem tkN {X : Cx} {A : Around} {outer : List Env} {s : Shared} {H : Hp} {E : XK} {sc : Scope} {f c : Addr} : L2N.Takes (lamN X A outer s H E sc f c) (fun cls d _ H => E cls d H) := tk_of rfl rfl rfl rfl
section
variable {X : Cx} {pins : List (Addr × Obj)} {σ : L2.St} {H : Hp} {s : Shared}
/-- the call of what was handed over -/
theorem pe_actN {CXg : CXT} {Eg : XK} {Ng : List Str} {qg : Str} {sg : Scope} {g f c : Addr} {cdg pm ctv : Value} {params : Arguments} {body : Expr} {sc : Scope} {k i : Nat} {a : Str} {pn : List (Addr × Obj)} {xe : Value → Shared → Prop} {W : WX} {tb : XK → TE} {p1 p2 : Pos}
    (I : Inv X pins σ H s) (L : LamS X.env.scope sc) (hf : s.heap.get? f = some (PySem.W.kla_obj "<lambda>" (X.env.qual ++ "<lambda>") params body sc (cloFrom X.env.cells sc.names []) pm c ctv)) (nf : H f = none) (ff : f ∉ frs X.stack)
    (hbind : bindArgs (PySem.W.kla_fn "<lambda>" (X.env.qual ++ "<lambda>") params body sc (cloFrom X.env.cells sc.names []) pm (.ref c) ctv) ⟨[], []⟩ = pure [])
    (tk : L2N.Takes ((cxOf CXg X.prog X.w X.K X.mg X.base Ng qg sg g cdg X.A X.stack s H Eg).tr pn xe) W) (hr : Room (k + 1) (X.A.deeper (envOfC qg sg s.heap.objs.size g cdg)))
    (hbody : ∀ (A : Around) (outer : List Env) (s : Shared) (H : Hp) (E : XK), Room k (A.deeper (lamEnv X sc s.heap.objs.size f c)) → PE (lamN X A outer s H E sc f c) body (tb E))
    (hN : Ng[i]? = some a) (hv : Vis sg a) (hd : (a == ("__debug__" : Str)) = false := by decide) (hcd : (a == ("__classdict__" : Str)) = false := by decide) :
    PE ((cxOf CXg X.prog X.w X.K X.mg X.base Ng qg sg g cdg X.A X.stack s H Eg).tr pn xe) (.Call (.Name a p1) [] [] p2) (fun σZ HZ Q => σZ[i]? = some (some (.ref f)) ∧ HZ c = some (CodeO c (X.env.qual ++ "<lambda>")) ∧ tb (WE W σZ) σ HZ Q) := by
  refine ⟨fun pZ sZ σZ HZ Q IZ ⟨h1, h2, h3⟩ => ?_⟩
  refine wpAny_Call_Name_kw (thn ((pe_var (pos := p1) (i := i) hN hv hd hcd).run pZ sZ σZ HZ (fun v J => v = .ref f ∧ J = HZ) IZ ⟨.ref f, h1, rfl, rfl⟩) fun u t ⟨v, J, IJ, ru, ev, eJ⟩ => ?_)
  subst ev
  subst eJ
  obtain rfl : u = Value.ref f := ru
  have at1 : t.heap.get? f = some (PySem.W.kla_obj "<lambda>" (X.env.qual ++ "<lambda>") params body sc (cloFrom X.env.cells sc.names []) pm c ctv) := IJ.base.keep f _ hf nf ff (fun z => nomatch (show f ∈ ([] : List Addr) from z))
  refine PySem.W.callWith_F0 ⟨_, _, _, _, at1⟩ ?_
  obtain ⟨⟨oc, vs, tt, g1, g2, g3⟩, _, _⟩ := IJ.hok c _ h2
  have un : Un (frs X.stack) [] H J s.heap t.heap := IJ.base
  refine wpAny_call (codeAny_mono (?_ : codeAny (model X.prog X.w) _ (.call (.ref f) ⟨[], []⟩) (CR (L2N.CX X.prog X.w) (envOfC qg sg s.heap.objs.size g cdg :: X.stack) X.prog X.w J t Q (WE W σZ)) t) fun r t2 hq => ?_)
  · refine PySem.W.kla_callFunE hr.depth at1 rfl L.co L.gen rfl ⟨c, oc, vs, tt, rfl, g1, g2, g3⟩ ?_
    rw [hbind]
    refine wpAny_pure (wpAny_newFunctionEnv (fun y hy => (L.own y hy).2) (fun y hy => absurd hy (by simp)) (fun h2 hns sb => ⟨IJ.nolimit.fresh _ sb, ?_⟩) L.kind)
    have kp : ∀ b o, t.heap.get? b = some o → h2.get? b = some o := fun b o e => sb.extBut b o (Nat.ne_of_lt (Heap.lt_size e)) (Heap.get?_push_of_some _ e)
    have J0 : Inv (lamN X (X.A.deeper (envOfC qg sg s.heap.objs.size g cdg)) (envOfC qg sg s.heap.objs.size g cdg :: X.stack) t J (WE W σZ) sc f c) [] σ J { t with heap := h2, toks := t.toks + ([] : List (Str × Value)).length } :=
      Inv.toTry (lam_start2 (E := WE W σZ) I L IJ.env0 hr.hd un hns kp) _
    exact PySem.W.kla_codeExpr (wpAny_mono ((hbody _ _ t J _ (hr.deeper _)).run [] _ _ J Q J0 h3) (fun v t3 ⟨w3, H3, J3, rv, q⟩ => ⟨w3, H3, J3.os, J3.bare, J3.base, J3.hok, rv, q⟩) fun e t3 hq => hq)
  · cases r with
    | error e => exact L2N.passAt tk σZ pZ J t e t2 IJ hq
    | ok fl =>
      cases fl with
      | ret u => exact IJ.after hq
      | next | brk | cont => exact False.elim hq
end
/-- a def that calls what it got -/
def GivesN (X : Cx) (Ng : List Str) (x : Str) (sg : Scope) (g : Addr) (cdg : Value) (bg : List Stmt) (a q : Str) (TT : (XK → Hp → VK → Prop) → Hp → VK → Prop) (k : Nat) : Prop :=
  ∀ (f c : Addr) (s : Shared) (H : Hp) (Q : VK) (tl : XK → Hp → VK → Prop), Room (k + 1) (X.A.deeper (envOfC x sg s.heap.objs.size g cdg)) →
    (∀ (W : WX) (pn : List (Addr × Obj)) (xe : Value → Shared → Prop) (p1 p2 : Pos), L2N.Takes ((cxOf C8.CX0 X.prog X.w X.K X.mg X.base Ng x sg g cdg X.A X.stack s H C8.E0).tr pn xe) W →
      PE ((cxOf C8.CX0 X.prog X.w X.K X.mg X.base Ng x sg g cdg X.A X.stack s H C8.E0).tr pn xe) (.Call (.Name a p1) [] [] p2) (fun σZ HZ Q => σZ[0]? = some (some (.ref f)) ∧ HZ c = some (CodeO c q) ∧ tl (WE W σZ) HZ Q)) →
    H c = some (CodeO c q) → TT tl H Q →
    ∃ t, PSs (cxOf C8.CX0 X.prog X.w X.K X.mg X.base Ng x sg g cdg X.A X.stack s H C8.E0).nox bg t ∧ t { nx := fun _ H' => Q .non H', rt := Q } (L2.start Ng [.ref f]) H
section
variable {X : Cx}
/-- x(lambda: body) -/
theorem pe_lamN {T : List (Addr × Str)} {TT : (XK → Hp → VK → Prop) → Hp → VK → Prop} {x a : Str} {g c P : Addr} {k : Nat} {pg : Arguments} {bg : List Stmt} {sg : Scope} {dV kV doc pm cdv ct oc : Value} {an od : Option Addr} {osl : Array (Option Value)} {Ng : List Str}
    {params : Arguments} {body : Expr} {sc : Scope} {t : XK → TE} {p lpos pos : Pos} (hg : Gl X x) (hm : X.mg x = some (.ref g)) (hk : PySem.W.keepIn X.K (.ref g) = true)
    (lk : X.K.lookup g = some ⟨oc, od, .func (PySem.W.fnOf x x pg bg sg dV kV doc pm an cdv ct), osl⟩) (hcg : PySem.W.codeIn X.K cdv x = true) (hb : L2.Binds X.K (PySem.W.fnOf x x pg bg sg dV kV doc pm an cdv ct) [a] []) (Sg : FnScope Ng [a] sg) (hNg : Ng[0]? = some a) (hva : Vis sg a)
    (hG : GivesN X Ng x sg g cdv bg a (X.env.qual ++ "<lambda>") TT k) (TB : TabB X.base X.mg c P) (hcode : X.env.code = .ref c) (hmT : (P, X.env.qual ++ "<lambda>") ∈ T) (hu : ∀ p ∈ T, p.1 = P → p.2 = X.env.qual ++ "<lambda>") (hr : Room (k + 2) X.A) (L : LamS X.env.scope sc) (hdef : defaultsOf params X.env = ([], []))
    (hbind : ∀ (q : Str) (cl : List (Str × Addr)) (pm cv ctv : Value), bindArgs (PySem.W.kla_fn "<lambda>" q params body sc cl pm cv ctv) ⟨[], []⟩ = pure [])
    (hbody : ∀ (A : Around) (outer : List Env) (s : Shared) (H : Hp) (E : XK) (f c : Addr) (L : Addr), Room k (A.deeper (lamEnv X sc L f c)) → PE (lamN X A outer s H E sc f c) body (t E))
    (hdb : (x == ("__debug__" : Str)) = false := by decide) (hd : (a == ("__debug__" : Str)) = false := by decide) (hcd : (a == ("__classdict__" : Str)) = false := by decide) : PE X (.Call (.Name x p) [.Lambda params body sc lpos] [] pos) (tLam T TT t) := by
  refine ⟨fun pins s σ H Q I ⟨hT, h⟩ => ?_⟩
  refine wpAny_Call_Name_kw (ld_glob I hg hm (PySem.W.callWith_K (h₀ := X.base) I.ok.mod.kin hk ?_ (by rfl) (by rfl)) hdb)
  refine Calls.spliced_cons (lam_make2 I TB hcode hmT hu hT hdef (L.has I.ok) fun f c1 pm1 ct1 H1 s1 I1 eN T1 hf nf ff hco => Calls.spliced_nil ⟨I1.kIn, ?_⟩)
  refine wpAny_call (codeAny_mono (show codeAny (model X.prog X.w) X.A (.call (.ref g) ⟨[.ref f], []⟩) (CR C8.CX0 X.stack X.prog X.w H1 s1 Q C8.E0) s1 from run_ofS (N := Ng) (ps := [a]) (us := [.ref f]) (vs := [.ref f]) lk hcg Sg hr I1.env0 (hb s1 [.ref f] I1.kIn rfl) (.cons rfl .nil) rfl fun hr1 => ?_) fun r s2 hq => ?_)
  · obtain ⟨t1, ht1, hq1⟩ := hG f c1 s1 H1 Q (fun E H' Q' => t E σ H' Q') hr1 (fun W pn xe p1 p2 tk => pe_actN (i := 0) I1 L hf nf ff (hbind _ _ _ _ _) tk hr1 (fun A outer s H E hr2 => hbody A outer s H E f c1 _ hr2) hNg hva hd hcd) hco (h H1 eN T1)
    exact ⟨t1, ht1.nox, hq1⟩
  · cases r with
    | error e => exact (show False from hq).elim
    | ok fl =>
      cases fl with
      | ret u => exact I1.after hq
      | next | brk | cont => exact False.elim hq
end
end FP
set_option maxHeartbeats 4000000
/-! a caught error with a dict of its own is handed on, within the except suite, to a def: its class, its fields, isinstance -/
namespace FP
open PySem PySem.Spec PySem.Calls PyProof.Rows L2 L2H
section
open PySem.W
variable {prog : Program} {w : World} {A : Around} {E : Value → Shared → Prop} {s : Shared} {K : Frag} {x D : Addr} {ox od : Obj}
theorem findObj_dataD {C : Addr} {y : Str} {a g : Value} (hc : (clsIn K C).isSome = true) (h1 : findIn K (.ref C) y = some (some a)) (h2 : specialIn K a "__get__" = some (some g)) (h3 : takesIn K a = some true) : findObj K C (some od) y = some (.bind g a) := by
  obtain ⟨cd, hc⟩ := Option.isSome_iff_exists.mp hc
  unfold findObj
  rw [hc, Option.bind_some, h1, Option.bind_some]
  simp [h2, h3]
/-- e.__class__ of an error that has a dict -/
theorem classD {Q : Option Value → Shared → Prop} (C : L2.ExcC K D) (X : K.In s.heap) (I : InstAt s.heap x ox D (some od)) (h : Q (some (.ref D)) { s with toks := s.toks + 1 }) : wpAny (model prog w) A (getAttr? (.ref x) "__class__") Q E s := by
  obtain ⟨g1, g2, g3, g4, g5, g6, g7, g8⟩ := C
  have hf : findObj K D (some od) "__class__" = some (.bind (.builtin "getset_descriptor.__get__") (.builtin "object.__class__")) := findObj_dataD (by obtain ⟨cd, hc, _⟩ := any_some g4; rw [hc]; rfl) g5 g6 g7
  obtain ⟨hp, g, d, t, os⟩ := s
  have T0 := I.type (M := model prog w)
  have T1 := looks_findIn (M := model prog w) X g1
  have T2 := looks_findIn (M := model prog w) X g2
  have T3 := looks_find (M := model prog w) X I hf
  have isB : Looks (model prog w) hp (isInstance (.ref x) (.type "BaseException")) true := T0.andThen (looks_subIn X g3)
  have e0 : (false && onTheHeap (Value.builtin "BaseException.__getattribute__")) = false := rfl
  have e2 : (Value.builtin "BaseException.__getattribute__" == Value.builtin "object.__getattribute__") = false := by decide +kernel
  have e1 : (onTheHeap (Value.ref D) && Value.builtin "BaseException.__getattribute__" == Value.builtin "object.__getattribute__") = false := by rw [e2]; rfl
  unfold getAttr? getAttrBy? getAttrBy
  refine wpAny_bind (wpAny_mkText (wpAny_bind (wpAny_attempt (wpAny_holding (wpAny_bind (T0.at (wpAny_bind (T1.at ?_))))))))
  show wpAny _ _ (if (onTheHeap (Value.ref D) && Value.builtin "BaseException.__getattribute__" == Value.builtin "object.__getattribute__") = true then _ else _) _ _ _
  rw [e1, if_neg Bool.false_ne_true]
  unfold getAttrByItsOwn hookBefore
  refine wpAny_bind ?_
  rw [if_pos (show onTheHeap (Value.ref D) = true from rfl)]
  refine T2.at (wpAny_bind (wpAny_attempt (wpAny_holding ?_)))
  unfold callGetattribute
  rw [e0, if_neg Bool.false_ne_true]
  unfold boundAndCalled
  rw [PySem.F.excAttr_ValueError.ga.bind (.ref x)]
  refine wpAny_bind (wpAny_pure ?_)
  show wpAny _ _ (call (.builtin "BaseException.__getattribute__") [.ref x, .str "__class__" t]) _ _ _
  refine wpAny_call (codeAny_call_builtin PySem.F.excAttr_ValueError.ga.plain PySem.F.entry_bexc_ga ?_)
  refine @check_slot (model prog w) _ _ ⟨hp, g, d, t + 1, os⟩ "BaseException.__getattribute__" "BaseException" "__getattribute__" (.ref x) [.str "__class__" t] [] _ (by decide +kernel) (by decide +kernel) isB (PySem.F.args_bexc_ga (.ref x) (.str "__class__" t)) ?_
  unfold Builtin.«object.__getattribute__»
  refine wpAny_bind (wpAny_of_eq (a := ((Value.ref x : Value), [Value.str "__class__" t])) (by first | rfl | (simp only [slotArgs]; rfl)) ?_)
  refine wpAny_bind (wpAny_pure (wpAny_bind (T0.at (wpAny_bind (T3.at ?_)))))
  show wpAny _ _ (holding [Value.builtin "object.__class__"] (call (.builtin "getset_descriptor.__get__") [.builtin "object.__class__", .ref x, .ref D]) >>= ret) _ _ _
  refine wpAny_bind (wpAny_holding (wpAny_call (class_get (s := ⟨hp, g, d, t + 1, os⟩) (ox := ox) (od := some od) X I g8 (wpAny_pure ?_))))
  show wpAny _ _ (handedOut (.ref D)) _ _ _
  rw [handedOut_of (v := .ref D) rfl]
  first
    | exact wpAny_pure (wpAny_pure h)
    | exact wpAny_pure h
    | exact wpAny_pure (wpAny_bind (wpAny_pure (wpAny_pure h)))
theorem kitD (C : L2.ExcC K D) : KitX K (.ref x) (.ref D) (fun h => ∃ od, InstAt h x ox D (some od)) where
  ty := fun _ _ _ ⟨_, I⟩ => I.type
  it := fun _ _ X _ => by
    obtain ⟨cd, hc, _⟩ := any_some C.hd
    unfold clsIn at hc
    split at hc
    · rename_i c' d' cd' sl' ho
      intro A' Q' E' s' k q
      unfold isType loadHead
      exact wpAny_bind (wpAny_loadPart (k _ _ (X _ _ ho)) (wpAny_pure q))
    · cases hc
  ne := fun h tp dd its n sl X htp => by
    obtain ⟨cd, hc, _⟩ := any_some C.hd
    refine Bool.eq_false_iff.mpr fun q => ?_
    have e : D = tp := Value.ref.inj (beq_iff_eq.mp q)
    subst e
    unfold clsIn at hc
    split at hc
    · rename_i c' d' cd' sl' ho
      have z := (X _ _ ho).symm.trans htp
      cases z
    · cases hc
  ca := fun X ⟨_, I⟩ k => classD C X I k
end
/-- the context bears the error at a, as it is handled: its class, its dict, no context -/
structure HE (A : Around) (pn : List (Addr × Obj)) (a : Addr) (cls : Value) (d : Option Addr) : Prop where
  ex : ∃ oe, (a, oe) ∈ pn ∧ A.handled = some (.ref a) ∧ (∃ vs : Array Value, oe.data = .fields vs ∧ vs[2]? = some .none) ∧ Zc cls d oe
section
variable {X : Cx} {a C : Addr} {cls : Value} {d : Option Addr} {e : Expr} {te : TE} {pos : Pos} {n : Str}
theorem HE.suite {oe : Obj} {pn : List (Addr × Obj)} (hz : L2N.Zn cls d oe) (hf : ∃ vs, oe.data = .fields vs) : HE (X.suite a ((a, oe) :: pn)).A (X.suite a ((a, oe) :: pn)).pn a cls d := by
  obtain ⟨vs, h⟩ := hf
  exact ⟨oe, List.mem_cons_self, rfl, ⟨vs, h, hz.2.2 vs h⟩, hz.zc⟩
/-- a field of it -/
theorem pe_xfE (T : XfC X.K C) (no : PySem.W.findIn X.K (.ref C) n = some none) (hh : HE X.A X.pn a cls d) (he : PE X e te) (hb : attributeBase e n X.env (eval e X.env) = eval e X.env := by rfl) : PE X (.Attribute e n pos) (tXf a cls d C n te) := by
  obtain ⟨oe, hm, _, ⟨vs, hd, _⟩, hz⟩ := hh.ex
  refine ⟨fun pins s σ H Q I h => attr_of hb (thn (he.run pins s σ H _ I h) fun u t ⟨x, J, IJ, rx, ex, ec, dd, fs, v, ed, ea, l, q⟩ => ?_)⟩
  subst ex ec ed
  obtain rfl : u = Value.ref a := rx
  have ha := (IJ.pin (a, oe) (List.mem_append_left _ hm)).1
  obtain ⟨mA, hns, hr⟩ := (IJ.hok dd _ ea : ObjOk X.prog X.w J t.heap dd (.xd fs))
  obtain ⟨od, ho, hl⟩ := lookIn_ns hns
  obtain ⟨u, hu, ru⟩ := RelO.some_of (v := v) (o := mA n) (by rw [← l]; exact hr n)
  have IA : PySem.W.InstAt t.heap a oe C (some od) := ⟨ha, hz.1, by unfold PySem.W.notCls; rw [hd] <;> rfl, by rw [hz.2]; exact ho⟩
  exact HandSPX.exc_get IJ.kIn IA T.ga T.gg T.exC (PySem.W.findObj_own T.hdC no rfl (by rw [hl, hu])) (handed_of ru) ⟨v, J, IJ.tok _, ru, q⟩
/-- isinstance(it, c) -/
theorem call_isX (hh : HE X.A X.pn a (.ref C) d) (hC : L2.ExcC X.K C) : CallR X (.builtin "isinstance") (fun xs H Q => ∃ (c : V) (cv : Value) (b : Bool) (dd : Addr) (fs : List (Str × V)), xs = [.ref a, c] ∧ (∀ u, RelV c u → u = cv) ∧ PySem.W.kitOne X.K (.ref C) cv = some b ∧ d = some dd ∧ H dd = some (.xd fs) ∧ Q (.bl b) H) := by
  intro pins s σ H xs us Q I r ⟨c, cv, b, dd, fs, ex, hcv, k, ed, ea, q⟩
  subst ex ed
  obtain ⟨oe, hm, _, ⟨vs, hd, _⟩, hz⟩ := hh.ex
  cases r with
  | cons rx rr =>
    cases rr with
    | cons rt rr =>
      cases rr
      cases rx
      obtain rfl := hcv _ rt
      have ha := (I.pin (a, oe) (List.mem_append_left _ hm)).1
      obtain ⟨mA, hns, hr⟩ := (I.hok dd _ ea : ObjOk X.prog X.w H s.heap dd (.xd fs))
      obtain ⟨od, ho, hl⟩ := lookIn_ns hns
      have IA : PySem.W.InstAt s.heap a oe C (some od) := ⟨ha, hz.1, by unfold PySem.W.notCls; rw [hd] <;> rfl, by rw [hz.2]; exact ho⟩
      exact PySem.W.kia_one (kitD hC) I.kIn ⟨od, IA⟩ k (fun z => nomatch z) fun tk => ⟨.bl b, H, I.kept (t' := tk) fun _ _ z => z, rfl, q⟩
end
/-- what a def promises that is called there on the error -/
structure FnE (P : Program) (w : World) (K : PySem.W.Frag) (mg : Str → Option Value) (base : Heap) (k : Nat) (f : Addr) (fd : FuncData) (ps : List Str) (sp : Addr → Value → Option Addr → Sp) : Prop where
  len : ∀ a cls d vs H Q E, sp a cls d vs H Q E → vs.length = ps.length
  run : ∀ (A : Around) (outer : List Env) (s : Shared) (H : Hp) (args : Args) (us : List Value) (vs : List V) (Q : VK) (E : XK) (a : Addr) (oe : Obj) (cls : Value) (d : Option Addr), RoomH k A → A.guards = some [] → HE A [(a, oe)] a cls d → PinOk outer H s (a, oe) → Env0 P w K mg base A outer s H → BindsTo s fd args (ps.zip us) → Vals vs us → sp a cls d vs H Q E →
    codeAny (model P w) A (.call (.ref f) args) (CR (L2N.CX P w) outer P w H s Q E) s
theorem hot1_of {A : Around} {a : Addr} {oe : Obj} {cls : Value} {d : Option Addr} (h : HE A [(a, oe)] a cls d) : Hot1 A (a, oe) := by
  obtain ⟨o2, hm, h1, ⟨vs, h2, h3⟩, _⟩ := h.ex
  obtain rfl : o2 = oe := by simpa using hm
  exact ⟨h1, vs, h2, h3⟩
theorem fnE_of {P : Program} {w : World} {K : PySem.W.Frag} {mg : Str → Option Value} {base : Heap} {k : Nat} {x qual : Str} {st : Stmt} {f : Addr} {fd : FuncData} {N ps : List Str} {sp : Addr → Value → Option Addr → Sp} (F : C8.Fun K x qual st f fd) (S : FnScope N ps (C8.fnScope st)) (len : ∀ a cls d vs H Q E, sp a cls d vs H Q E → vs.length = ps.length)
    (hbody : ∀ (cdv : Value) (A : Around) (outer : List Env) (s : Shared) (H : Hp) (vs : List V) (Q : VK) (E : XK) (a : Addr) (oe : Obj) (cls : Value) (d : Option Addr), HE A [(a, oe)] a cls d → A.guards = some [] → RoomH k (A.deeper (envOfC qual (C8.fnScope st) s.heap.objs.size f cdv)) → sp a cls d vs H Q E →
      ∃ t, PSs (cxH (L2N.CX P w) P w K mg base N qual (C8.fnScope st) f cdv A outer s H E (a, oe)) (C8.fnBody st) t ∧ t { nx := fun _ H' => Q .non H', rt := Q } (L2.start N vs) H) : FnE P w K mg base (k + 1) f fd ps sp := by
  obtain ⟨oc, od, dV, kV, doc, pm, an, cdv, ct, osl, rfl, lk, hcd⟩ := F.ex
  refine ⟨len, fun A outer s H args us vs Q E a oe cls d hr hg hh hpin e0 hb r hsp => ?_⟩
  have KX : K.In s.heap := e0.mod.kin.keeps fun b o e => (e0.bs b o e).1
  refine codeAny_call_function hr.depth (KX _ _ lk) rfl S.co S.gen rfl (PySem.W.codeRec_of KX hcd) (hb _ _ _ _ (wpAny_newFunctionEnv_cells S.kind (fun ⟨y, v⟩ hy => ?_) fun env he s1 i => ?_))
  · exact (S.par y (List.of_mem_zip hy).1).imp id fun q => ⟨q, PySem.W.cellsFrom_some _ _ _ (.inl q)⟩
  subst he
  obtain ⟨t, ht, hq⟩ := hbody cdv A outer s H vs Q E a oe cls d hh hg (hr.deeper _) hsp
  have I : Inv (cxH (L2N.CX P w) P w K mg base N qual (C8.fnScope st) f cdv A outer s H E (a, oe)) [] (L2.start N vs) H s1 := inv_startH S hpin e0 (len _ _ _ _ _ _ _ hsp) r i
  refine ⟨(e0.mod.nolimit.keeps fun b o e => (e0.bs b o e).1).keeps i.toInCall.keep, codeAny_func (wpAny_mono (ht.run [] s1 (L2.start N vs) H _ I hq) (fun fl s2 z => ?_) fun e s2 z => z)⟩
  cases fl with
  | ret u =>
    obtain ⟨v, σ2, H2, J, rv, q⟩ := z
    exact ⟨v, H2, J.os, J.bare, J.base, J.hok, rv, q⟩
  | next =>
    obtain ⟨σ2, H2, J, q⟩ := z
    exact ⟨.non, H2, J.os, J.bare, J.base, J.hok, rfl, q⟩
  | brk | cont =>
    obtain ⟨_, _, _, q⟩ := z
    exact False.elim q
/-- a def that takes the error -/
structure CalE (P : Program) (w : World) (K : PySem.W.Frag) (mg : Str → Option Value) (base : Heap) (k : Nat) (x : Str) (sp : Addr → Value → Option Addr → Sp) : Prop where
  ex : ∃ (f : Addr) (fd : FuncData) (ps : List Str), FnE P w K mg base k f fd ps sp ∧ mg x = some (.ref f) ∧ PySem.W.keepIn K (.ref f) = true ∧ Binds K fd ps []
section
variable {X : Cx} {k j : Nat} {x : Str} {sp : Addr → Value → Option Addr → Sp} {W : WX} {p pos : Pos} {e : Expr} {es : List Expr} {t : TA} {a : Addr} {cls : Value} {d : Option Addr}
theorem pe_xE (c : CalE X.prog X.w X.K X.mg X.base k x sp) (hr : RoomH j X.A) (hk : k ≤ j) (hg : X.A.guards = some []) (hh : HE X.A X.pn a cls d) (tk : L2N.Takes X W) (gx : Gl X x) (ha : PA X (e :: es) t)
    (hdb : (x == ("__debug__" : Str)) = false := by decide) (he : starEach (e :: es) X.env = (false, eval e X.env) :: starEach es X.env := by rfl) (hpl : (backTo pos (starEach es X.env)).any (·.1) = false := by rfl) :
    PE X (.Call (.Name x p) (e :: es) [] pos) (tCallS (sp a cls d) (WE W) t) := by
  obtain ⟨f, fd, ps, F, hm, kp, b⟩ := c.ex
  obtain ⟨oe, hin, h1, h2, h3⟩ := hh.ex
  refine ⟨fun pins s σ H Q I h => wpAny_Call_Name_kw (ld_glob I gx hm ?_ hdb)⟩
  refine PySem.W.callWith_K (h₀ := X.base) I.ok.mod.kin kp (thn (ha.run pos pins s σ H _ I h) fun us s1 ⟨vs, H1, I1, r, q⟩ => ⟨I1.kIn, ?_⟩) he hpl
  have hl : us.length = ps.length := by rw [← r.length]; exact F.len _ _ _ _ _ _ _ q
  have bb := b s1 us I1.kIn (by rw [List.append_nil]; exact hl)
  rw [List.append_nil] at bb
  have P1 := I1.pin (a, oe) (List.mem_append_left _ hin)
  have hpin : PinOk X.stack H1 s1 (a, oe) := ⟨P1.1, P1.2.1, fun hm => (List.mem_cons.mp (I1.stkSub a hm)).elim P1.2.2.1 P1.2.2.2.1, P1.2.2.2.2⟩
  refine wpAny_call (codeAny_mono (F.run X.A X.stack s1 H1 ⟨us, []⟩ us vs Q (WE W σ) a oe cls d ⟨by have := hr.dp; omega, by have := hr.un; omega⟩ hg ⟨oe, List.mem_cons_self, h1, h2, h3⟩ hpin I1.env0 bb r q) fun r s2 hq => ?_)
  cases r with
  | error e => exact L2N.passAt tk σ pins H1 s1 e s2 I1 hq
  | ok fl =>
    cases fl with
    | ret u => exact I1.after hq
    | next | brk | cont => exact False.elim hq
end
end FP
set_option maxHeartbeats 1000000
namespace FP
open PySem PySem.Spec PyProof.Rows L2
local macro_rules | `(tactic| walk_at "rd") => `(tactic| dsimp only [tVar, tC, tCmp, tIsN, tNotN, tB, tAnd, tOr, tNot, tAndV, tOrV, tNotV, tIf, tNext, tSeq, tBreak, tCont, tDrop, tRet, tRetN, tIfS, tNever, tAsg, tPar, tAug, tOp, tUn, tTest, tChain, tFld, tNil, tCons, tTup, tLst, tCB, iList, iTup, iStr, tLc, tM0, tM1, tPart, tNoPart, tSl, tBM, tCallS, tCallSD, tMethW, tMake, sDPut, tDisp, tPairs, tXf, WE, tDGet, tDIn, gName, gTup, gCons, gNil, gSub, sFld, sFldAug, rI, rI0, rU, rEq, rNe, rAdd, rSub, t2I, tYes, cx_K, cx_w, cx_prog])
local macro_rules | `(tactic| walk_at "rs") => `(tactic| (try simp (maxSteps := 4000000) only [L2.start, List.map_cons, List.map_nil, List.length_cons, List.length_nil, List.cons_append, List.nil_append, Nat.reduceAdd, Nat.reduceSub, Nat.zero_add, List.replicate, List.getElem?_cons_zero, List.getElem?_cons_succ, Option.some.injEq, exists_eq_left', exists_eq_left, V.int.injEq, V.str.injEq, V.bl.injEq, V.ref.injEq, List.set_cons_zero, List.set_cons_succ, exists_and_left, List.cons.injEq, and_true, true_and, wipe, if_true, if_false, Bool.not_true, Bool.not_false, Bool.false_eq_true, decide_true, decide_false]))
local macro_rules | `(tactic| walk_at "r") => `(tactic| (walk_at "rd"; walk_at "rs"))
local macro_rules | `(tactic| walk_at "T") => `(tactic| (rw [if_pos (by first | assumption | rfl | decide | exact decide_eq_true (by assumption) | (simp [tyOf]; done) | (simp; omega) | omega)]; walk_at "rs"))
local macro_rules | `(tactic| walk_at "F") => `(tactic| (rw [if_neg (by first | assumption | decide | (simp [tyOf]; done) | (simp; omega) | (simp; assumption) | omega)]; walk_at "rs"))
theorem tkh {P : Program} {w : World} {K : PySem.W.Frag} {mg : Str → Option Value} {base : Heap} {N : List Str} {qual : Str} {sc : Scope} {f : Addr} {cd : Value} {A : Around} {outer : List Env} {s : Shared} {H : Hp} {E : XK} {p : Addr × Obj} : L2N.Takes (L2H.cxH (L2N.CX P w) P w K mg base N qual sc f cd A outer s H E p) (fun cls d _ H => E cls d H) := tk_of rfl rfl rfl rfl
/-! ### repr of data -/
/-- what repr may be asked of here: data without dicts, or an empty dict -/
def RD (K : PySem.W.Frag) (H : Hp) (v : V) (d : PyData) : Prop := (Dp K H v d ∧ d.hasDict = false ∧ d.showable = true ∧ d.depth ≤ 20 ∧ d.shown.length ≤ 10000) ∨ (∃ a, v = .ref a ∧ H a = some (.dK []) ∧ d = .dict [])
theorem call_reprD {X : Cx} (hg : X.A.guards = some []) (hu : X.A.units + 30 < cLine) : CallR X (.builtin "repr") (fun xs H Q => ∃ v d, xs = [v] ∧ RD X.K H v d ∧ Q (.str d.shown) H) := by
  intro pins s σ H xs us Q I r h
  obtain ⟨v, d, rfl, hd, q⟩ := h
  obtain ⟨u, rfl, rv⟩ := vals1 r
  rcases hd with ⟨hd, nd, sh, dp, hl⟩ | ⟨a, rfl, ha, rfl⟩
  · obtain ⟨as, rd⟩ := Dp.reads I d v u hd rv
    have go : ∀ {a : Addr}, u = .ref a → wpAny (model X.prog X.w) X.A (call (.builtin "repr") [u]) (EP X pins σ Q) X.xe s := by
      intro a e
      subst e
      exact repr_of_reads' rd sh (fun h => by rw [nd] at h; cases h) hg (by omega) (fun _ _ h => h) (fun h' t tk hk => ⟨.str d.shown, H, I.kept (t' := tk) hk, ⟨t, rfl⟩, q⟩) (sz (by omega))
    cases hd with
    | non => obtain rfl : u = Value.none := rv; exact PySem.P.repr_of_none ⟨.str _, H, I.tok _, ⟨_, rfl⟩, q⟩
    | bl b => obtain rfl : u = Value.bool b := rv; exact PySem.P.repr_of_bool ⟨.str _, H, I.tok _, ⟨_, rfl⟩, by cases b <;> exact q⟩
    | int i => obtain ⟨t, rfl⟩ := (show ∃ t, u = Value.int i t from rv); exact PySem.P.repr_of_int (of_decide_eq_true sh) ⟨.str _, H, I.tok _, ⟨_, rfl⟩, q⟩
    | str x => obtain ⟨t, rfl⟩ := (show ∃ t, u = Value.str x t from rv); exact PySem.P.repr_of_str ⟨.str _, H, I.tok _, ⟨_, rfl⟩, q⟩ (sz (by show (PyData.shown (.str x)).length ≤ _; omega))
    | lst _ _ => exact go (show u = Value.ref _ from rv)
    | tup _ _ => exact go (show u = Value.ref _ from rv)
  · obtain rfl : u = Value.ref a := rv
    obtain ⟨z, y, vs, kv, o, es, ep, g1, g2, g3, g4, g5, g6⟩ := dk_of I.hok ha
    cases kv
    have e0 : es.toList = [] := by
      cases hs : es.toList with
      | nil => rfl
      | cons x r => rw [hs] at g5; cases g5
    have rd : Reads s.heap (.ref a) (.dict []) ([a]) := Reads.dict (as := []) (bs := []) (kvs := []) g1 g2.1 g3 (by rw [e0]; exact .nil) (by rw [e0]; exact .nil)
    refine repr_of_reads' rd rfl (fun _ hm => ?_) hg (by show X.A.units + (1 + 1) < cLine; omega) (fun _ _ h => h) (fun h' t tk hk => ⟨.str _, H, I.kept (t' := tk) hk, ⟨t, rfl⟩, q⟩) (sz (by decide))
    rw [List.mem_singleton.mp hm, beq_self_eq_true] at y
    cases y

theorem RD.same {K : PySem.W.Frag} {H H' : Hp} {v : V} {d : PyData} (h : RD K H v d) (e : Same H H') : RD K H' v d := by
  rcases h with ⟨h1, h2⟩ | ⟨a, h1, h2, h3⟩
  · exact .inl ⟨Dp.same e h1, h2⟩
  · exact .inr ⟨a, h1, e _ _ h2, h3⟩
theorem u30 {k : Nat} {A : Around} (r : L2H.RoomH k A) : A.units + 30 < cLine := by have := r.un; omega
theorem isx_no {K : PySem.W.Frag} {C aX dd : Addr} {H : Hp} {fs : List (Str × V)} {T S : Prop} (k : PySem.W.kitOne K (.ref C) (.ref aX) = some false) (h : H dd = some (.xd fs)) (q : S) :
    ∃ x, (∀ u, L2.RelV (.ref aX) u → u = x) ∧ ∃ b, PySem.W.kitOne K (.ref C) x = some b ∧ ∃ fs, H dd = some (.xd fs) ∧ if b = true then T else S := ⟨_, fun _ h => h, _, k, _, h, q⟩
theorem isx_yes {K : PySem.W.Frag} {C aX dd : Addr} {H : Hp} {fs : List (Str × V)} {T S : Prop} (k : PySem.W.kitOne K (.ref C) (.ref aX) = some true) (h : H dd = some (.xd fs)) (q : T) :
    ∃ x, (∀ u, L2.RelV (.ref aX) u → u = x) ∧ ∃ b, PySem.W.kitOne K (.ref C) x = some b ∧ ∃ fs, H dd = some (.xd fs) ∧ if b = true then T else S := ⟨_, fun _ h => h, _, k, _, h, q⟩
section
variable {P : Program} {w : World} {K : PySem.W.Frag} {mg : Str → Option Value} {base : Heap} {f : Addr} {fd : FuncData} {C : Addr}
def sp_more : Addr → Value → Option Addr → Sp := fun a cls d vs H Q _ => vs = [.ref a] ∧ ∃ C dd fs, cls = .ref C ∧ d = some dd ∧ H dd = some (.xd fs) ∧ ∀ l H', Same H H' → H' l = some (.lst []) → H l = none → Q (.ref l) H'
theorem ok_more (Z : Zb mg) (D : C8.Def K mg "_law_more_kinds" s_law_more_kinds f fd) (b : Binds K fd ["e"] []) (hC : L2.ExcC K C) {a_NoName : Addr} (G_NoName : mg "NoName" = some (.ref a_NoName)) (k_NoName : PySem.W.kitOne K (.ref C) (.ref a_NoName) = some false) {a_TakenName : Addr} (G_TakenName : mg "TakenName" = some (.ref a_TakenName)) (k_TakenName : PySem.W.kitOne K (.ref C) (.ref a_TakenName) = some false) {a_Unlike : Addr} (G_Unlike : mg "Unlike" = some (.ref a_Unlike)) (k_Unlike : PySem.W.kitOne K (.ref C) (.ref a_Unlike) = some false) {a_NotThere : Addr} (G_NotThere : mg "NotThere" = some (.ref a_NotThere)) (k_NotThere : PySem.W.kitOne K (.ref C) (.ref a_NotThere) = some false) {a_TooMany : Addr} (G_TooMany : mg "TooMany" = some (.ref a_TooMany)) (k_TooMany : PySem.W.kitOne K (.ref C) (.ref a_TooMany) = some false) {a_NotKept : Addr} (G_NotKept : mg "NotKept" = some (.ref a_NotKept)) (k_NotKept : PySem.W.kitOne K (.ref C) (.ref a_NotKept) = some false) {a_NothingToUndo : Addr} (G_NothingToUndo : mg "NothingToUndo" = some (.ref a_NothingToUndo)) (k_NothingToUndo : PySem.W.kitOne K (.ref C) (.ref a_NothingToUndo) = some false) {a_NothingToRedo : Addr} (G_NothingToRedo : mg "NothingToRedo" = some (.ref a_NothingToRedo)) (k_NothingToRedo : PySem.W.kitOne K (.ref C) (.ref a_NothingToRedo) = some false) : CalE P w K mg base 1 "_law_more_kinds" (fun a cls d vs H Q E => cls = .ref C ∧ sp_more a cls d vs H Q E) := by
  have nd := sc_law_more_kinds.nd
  refine ⟨f, fd, ["e"], fnE_of D.fn sc_law_more_kinds (fun a cls d vs H Q E h => by rw [h.2.1]; rfl) fun cdv A outer s H vs Q E a oe cls d hh hg hr h => ?_, D.mgf, D.kp, b⟩
  obtain ⟨rfl, rfl, C', dd, fs, hc, rfl, hdd, q⟩ := h
  replace hh : HE (A.deeper (envOfC "_law_more_kinds" (C8.fnScope s_law_more_kinds) s.heap.objs.size f cdv)) [(a, oe)] a (.ref C) (some dd) := ⟨hh.ex⟩
  refine ⟨_, (pss_cons (ps_set (i := 1) nd rfl (Or.inl rfl) (pe_lst pa_nil))
    (pss_cons (ps_if (pt_val (pe_callB (call_isX hh hC) rfl Z.isinstance PyProof.Rows.boot_isinstance (pa_cons (pv 0) (pa_cons (pe_ref rfl G_NoName) pa_nil)))) pss_never pss_nil)
    (pss_cons (ps_if (pt_val (pe_callB (call_isX hh hC) rfl Z.isinstance PyProof.Rows.boot_isinstance (pa_cons (pv 0) (pa_cons (pe_ref rfl G_TakenName) pa_nil)))) pss_never pss_nil)
    (pss_cons (ps_if (pt_val (pe_callB (call_isX hh hC) rfl Z.isinstance PyProof.Rows.boot_isinstance (pa_cons (pv 0) (pa_cons (pe_ref rfl G_Unlike) pa_nil)))) pss_never pss_nil)
    (pss_cons (ps_if (pt_val (pe_callB (call_isX hh hC) rfl Z.isinstance PyProof.Rows.boot_isinstance (pa_cons (pv 0) (pa_cons (pe_ref rfl G_NotThere) pa_nil)))) pss_never pss_nil)
    (pss_cons (ps_if (pt_val (pe_callB (call_isX hh hC) rfl Z.isinstance PyProof.Rows.boot_isinstance (pa_cons (pv 0) (pa_cons (pe_ref rfl G_TooMany) pa_nil)))) pss_never pss_nil)
    (pss_cons (ps_if (pt_val (pe_callB (call_isX hh hC) rfl Z.isinstance PyProof.Rows.boot_isinstance (pa_cons (pv 0) (pa_cons (pe_ref rfl G_NotKept) pa_nil)))) pss_never pss_nil)
    (pss_cons (ps_if (pt_val (pe_callB (call_isX hh hC) rfl Z.isinstance PyProof.Rows.boot_isinstance (pa_cons (pv 0) (pa_cons (pe_ref rfl G_NothingToUndo) pa_nil)))) pss_never pss_nil)
    (pss_cons (ps_if (pt_val (pe_callB (call_isX hh hC) rfl Z.isinstance PyProof.Rows.boot_isinstance (pa_cons (pv 0) (pa_cons (pe_ref rfl G_NothingToRedo) pa_nil)))) pss_never pss_nil)
    (pss_one (ps_ret (pv 1)))))))))))), ?_⟩
  walk_at "r"
  refine ⟨sz (by decide), fun p np => ?_⟩
  have e1 := same_new np (.lst [])
  have hd2 := e1 _ _ hdd
  refine isx_no k_NoName hd2 ?_; refine isx_no k_TakenName hd2 ?_; refine isx_no k_Unlike hd2 ?_; refine isx_no k_NotThere hd2 ?_; refine isx_no k_TooMany hd2 ?_; refine isx_no k_NotKept hd2 ?_; refine isx_no k_NothingToUndo hd2 ?_; refine isx_no k_NothingToRedo hd2 ?_;
  exact q _ _ e1 upd_same np
def sp_kinds (K : PySem.W.Frag) (CT CR : Addr) : Addr → Value → Option Addr → Sp := fun a cls d vs H Q _ => vs = [.ref a] ∧
  ((∃ dd lv wv, cls = .ref CT ∧ d = some dd ∧ H dd = some (.xd [("word", .int wv), ("line", .int lv)]) ∧ ∀ l t H', Same H H' → H' l = some (.lst [.ref t]) → SqT K H' t [.str "text", .int lv, .int wv] → H l = none → Q (.ref l) H') ∨
   (∃ dd, cls = .ref CR ∧ d = some dd ∧ H dd = some (.xd [("what", .str "book")]) ∧ ∀ l t H', Same H H' → H' l = some (.lst [.ref t]) → SqT K H' t [.str "paper", .str "book"] → H l = none → Q (.ref l) H'))
theorem kindsT (Z : Zb mg) (hC : L2.ExcC K C) (XT : XfC K C) (N_line : PySem.W.findIn K (.ref C) "line" = some none) (N_word : PySem.W.findIn K (.ref C) "word" = some none) {a_BadNumber : Addr} (G_BadNumber : mg "BadNumber" = some (.ref a_BadNumber)) (k_BadNumber : PySem.W.kitOne K (.ref C) (.ref a_BadNumber) = some false) {a_BadRow : Addr} (G_BadRow : mg "BadRow" = some (.ref a_BadRow)) (k_BadRow : PySem.W.kitOne K (.ref C) (.ref a_BadRow) = some false) {a_BadTable : Addr} (G_BadTable : mg "BadTable" = some (.ref a_BadTable)) (k_BadTable : PySem.W.kitOne K (.ref C) (.ref a_BadTable) = some false) {a_BadPoly : Addr} (G_BadPoly : mg "BadPoly" = some (.ref a_BadPoly)) (k_BadPoly : PySem.W.kitOne K (.ref C) (.ref a_BadPoly) = some false) {a_BadPaper : Addr} (G_BadPaper : mg "BadPaper" = some (.ref a_BadPaper)) (k_BadPaper : PySem.W.kitOne K (.ref C) (.ref a_BadPaper) = some false) {a_BadName : Addr} (G_BadName : mg "BadName" = some (.ref a_BadName)) (k_BadName : PySem.W.kitOne K (.ref C) (.ref a_BadName) = some false) {a_BadText : Addr} (G_BadText : mg "BadText" = some (.ref a_BadText)) (k_BadText : PySem.W.kitOne K (.ref C) (.ref a_BadText) = some true) {a_NoPlace : Addr} (G_NoPlace : mg "NoPlace" = some (.ref a_NoPlace)) (k_NoPlace : PySem.W.kitOne K (.ref C) (.ref a_NoPlace) = some false) (c_law_more_kinds : CalE P w K mg base 1 "_law_more_kinds" (fun a cls d vs H Q E => cls = .ref C ∧ sp_more a cls d vs H Q E))
    {cdv : Value} {A : Around} {outer : List Env} {s : Shared} {H : Hp} {Q : VK} {E : XK} {a : Addr} {oe : Obj} {dd : Addr} {lv wv : Int} (hh : HE A [(a, oe)] a (.ref C) (some dd)) (hg : A.guards = some []) (hr : L2H.RoomH 1 (A.deeper (envOfC "_law_kinds" (C8.fnScope s_law_kinds) s.heap.objs.size f cdv)))
    (hdd : H dd = some (.xd [("word", .int wv), ("line", .int lv)])) (q : ∀ l t H', Same H H' → H' l = some (.lst [.ref t]) → SqT K H' t [.str "text", .int lv, .int wv] → H l = none → Q (.ref l) H') :
    ∃ t, PSs (L2H.cxH (L2N.CX P w) P w K mg base ["e", "found"] "_law_kinds" (C8.fnScope s_law_kinds) f cdv A outer s H E (a, oe)) (C8.fnBody s_law_kinds) t ∧ t { nx := fun _ H' => Q .non H', rt := Q } (L2.start ["e", "found"] [.ref a]) H := by
  have nd := sc_law_kinds.nd
  replace hh : HE (A.deeper (envOfC "_law_kinds" (C8.fnScope s_law_kinds) s.heap.objs.size f cdv)) [(a, oe)] a (.ref C) (some dd) := ⟨hh.ex⟩
  refine ⟨_, (pss_cons (ps_set (i := 1) nd rfl (Or.inl rfl) (pe_lst pa_nil))
    (pss_cons (ps_if (pt_val (pe_callB (call_isX hh hC) rfl Z.isinstance PyProof.Rows.boot_isinstance (pa_cons (pv 0) (pa_cons (pe_ref rfl G_BadNumber) pa_nil)))) pss_never pss_nil)
    (pss_cons (ps_if (pt_val (pe_callB (call_isX hh hC) rfl Z.isinstance PyProof.Rows.boot_isinstance (pa_cons (pv 0) (pa_cons (pe_ref rfl G_BadRow) pa_nil)))) pss_never pss_nil)
    (pss_cons (ps_if (pt_val (pe_callB (call_isX hh hC) rfl Z.isinstance PyProof.Rows.boot_isinstance (pa_cons (pv 0) (pa_cons (pe_ref rfl G_BadTable) pa_nil)))) pss_never pss_nil)
    (pss_cons (ps_if (pt_val (pe_callB (call_isX hh hC) rfl Z.isinstance PyProof.Rows.boot_isinstance (pa_cons (pv 0) (pa_cons (pe_ref rfl G_BadPoly) pa_nil)))) pss_never pss_nil)
    (pss_cons (ps_if (pt_val (pe_callB (call_isX hh hC) rfl Z.isinstance PyProof.Rows.boot_isinstance (pa_cons (pv 0) (pa_cons (pe_ref rfl G_BadPaper) pa_nil)))) pss_never pss_nil)
    (pss_cons (ps_if (pt_val (pe_callB (call_isX hh hC) rfl Z.isinstance PyProof.Rows.boot_isinstance (pa_cons (pv 0) (pa_cons (pe_ref rfl G_BadName) pa_nil)))) pss_never pss_nil)
    (pss_cons (ps_if (pt_val (pe_callB (call_isX hh hC) rfl Z.isinstance PyProof.Rows.boot_isinstance (pa_cons (pv 0) (pa_cons (pe_ref rfl G_BadText) pa_nil)))) (pss_one (ps_expr (pe_bm PySem.F.plainAttrs_list PySem.F.slot_list_append PySem.F.type_list_append mt_append (pv 1) (pa_cons (pe_tup (pa_cons pe_str (pa_cons (pe_xfE XT N_line hh (pv 0)) (pa_cons (pe_xfE XT N_word hh (pv 0)) pa_nil)))) pa_nil)))) pss_nil)
    (pss_cons (ps_if (pt_val (pe_callB (call_isX hh hC) rfl Z.isinstance PyProof.Rows.boot_isinstance (pa_cons (pv 0) (pa_cons (pe_ref rfl G_NoPlace) pa_nil)))) pss_never pss_nil)
    (pss_one (ps_ret (pe_op op_cat (pv 1) (pe_xE c_law_more_kinds hr (by(decide)) hg hh tkh rfl (pa_cons (pv 0) pa_nil)))))))))))))), ?_⟩
  walk_at "r"
  refine ⟨sz (by decide), fun p np => ?_⟩
  have e1 := same_new np (.lst [])
  have hd2 := e1 _ _ hdd
  refine isx_no k_BadNumber hd2 ?_; refine isx_no k_BadRow hd2 ?_; refine isx_no k_BadTable hd2 ?_; refine isx_no k_BadPoly hd2 ?_; refine isx_no k_BadPaper hd2 ?_; refine isx_no k_BadName hd2 ?_;
  refine isx_yes k_BadText hd2 ?_
  refine ⟨tyL upd_same, _, hd2, _, rfl, _, hd2, _, rfl, sz (by decide), fun p1 np1 => ?_⟩
  have e2 := e1.trans (same_new np1 (.tup [V.str (Str.ofString "text"), .int lv, .int wv]))
  have hp : (upd (upd H p (.lst [])) p1 (.tup [V.str (Str.ofString "text"), .int lv, .int wv])) p = some (.lst []) := (same_new np1 _) _ _ upd_same
  have nep : p ≠ p1 := fun z => by rw [← z, upd_same] at np1; cases np1
  refine ⟨p, _, _, rfl, rfl, hp, szL (by decide), ?_⟩
  have e3 := Same.upd (o := .lst ([] ++ [V.ref p1])) e2 np
  refine isx_no k_NoPlace (e3 _ _ hdd) ?_
  refine ⟨rfl, C, dd, _, rfl, rfl, e3 _ _ hdd, fun l H' e4 hl nl => ?_⟩
  refine ⟨p, l, _, _, rfl, rfl, e4 _ _ upd_same, hl, sz (show 1 ≤ 1000000 by decide), fun y ny => ?_⟩
  have e5 := same_new ny (.lst ([] ++ [V.ref p1] ++ []))
  refine q y p1 _ ((e3.trans e4).trans e5) upd_same (.inl (.inl (e5 _ _ (e4 _ _ (by rw [upd_ne (Ne.symm nep), upd_same]))))) (same_none (e3.trans e4) ny)
theorem kindsR (Z : Zb mg) (hC : L2.ExcC K C) (XT : XfC K C) (N_what : PySem.W.findIn K (.ref C) "what" = some none) {a_BadNumber : Addr} (G_BadNumber : mg "BadNumber" = some (.ref a_BadNumber)) (k_BadNumber : PySem.W.kitOne K (.ref C) (.ref a_BadNumber) = some false) {a_BadRow : Addr} (G_BadRow : mg "BadRow" = some (.ref a_BadRow)) (k_BadRow : PySem.W.kitOne K (.ref C) (.ref a_BadRow) = some false) {a_BadTable : Addr} (G_BadTable : mg "BadTable" = some (.ref a_BadTable)) (k_BadTable : PySem.W.kitOne K (.ref C) (.ref a_BadTable) = some false) {a_BadPoly : Addr} (G_BadPoly : mg "BadPoly" = some (.ref a_BadPoly)) (k_BadPoly : PySem.W.kitOne K (.ref C) (.ref a_BadPoly) = some false) {a_BadPaper : Addr} (G_BadPaper : mg "BadPaper" = some (.ref a_BadPaper)) (k_BadPaper : PySem.W.kitOne K (.ref C) (.ref a_BadPaper) = some true) {a_BadName : Addr} (G_BadName : mg "BadName" = some (.ref a_BadName)) (k_BadName : PySem.W.kitOne K (.ref C) (.ref a_BadName) = some false) {a_BadText : Addr} (G_BadText : mg "BadText" = some (.ref a_BadText)) (k_BadText : PySem.W.kitOne K (.ref C) (.ref a_BadText) = some false) {a_NoPlace : Addr} (G_NoPlace : mg "NoPlace" = some (.ref a_NoPlace)) (k_NoPlace : PySem.W.kitOne K (.ref C) (.ref a_NoPlace) = some false) (c_law_more_kinds : CalE P w K mg base 1 "_law_more_kinds" (fun a cls d vs H Q E => cls = .ref C ∧ sp_more a cls d vs H Q E))
    {cdv : Value} {A : Around} {outer : List Env} {s : Shared} {H : Hp} {Q : VK} {E : XK} {a : Addr} {oe : Obj} {dd : Addr} (hh : HE A [(a, oe)] a (.ref C) (some dd)) (hg : A.guards = some []) (hr : L2H.RoomH 1 (A.deeper (envOfC "_law_kinds" (C8.fnScope s_law_kinds) s.heap.objs.size f cdv)))
    (hdd : H dd = some (.xd [("what", .str "book")])) (q : ∀ l t H', Same H H' → H' l = some (.lst [.ref t]) → SqT K H' t [.str "paper", .str "book"] → H l = none → Q (.ref l) H') :
    ∃ t, PSs (L2H.cxH (L2N.CX P w) P w K mg base ["e", "found"] "_law_kinds" (C8.fnScope s_law_kinds) f cdv A outer s H E (a, oe)) (C8.fnBody s_law_kinds) t ∧ t { nx := fun _ H' => Q .non H', rt := Q } (L2.start ["e", "found"] [.ref a]) H := by
  have nd := sc_law_kinds.nd
  replace hh : HE (A.deeper (envOfC "_law_kinds" (C8.fnScope s_law_kinds) s.heap.objs.size f cdv)) [(a, oe)] a (.ref C) (some dd) := ⟨hh.ex⟩
  refine ⟨_, (pss_cons (ps_set (i := 1) nd rfl (Or.inl rfl) (pe_lst pa_nil))
    (pss_cons (ps_if (pt_val (pe_callB (call_isX hh hC) rfl Z.isinstance PyProof.Rows.boot_isinstance (pa_cons (pv 0) (pa_cons (pe_ref rfl G_BadNumber) pa_nil)))) pss_never pss_nil)
    (pss_cons (ps_if (pt_val (pe_callB (call_isX hh hC) rfl Z.isinstance PyProof.Rows.boot_isinstance (pa_cons (pv 0) (pa_cons (pe_ref rfl G_BadRow) pa_nil)))) pss_never pss_nil)
    (pss_cons (ps_if (pt_val (pe_callB (call_isX hh hC) rfl Z.isinstance PyProof.Rows.boot_isinstance (pa_cons (pv 0) (pa_cons (pe_ref rfl G_BadTable) pa_nil)))) pss_never pss_nil)
    (pss_cons (ps_if (pt_val (pe_callB (call_isX hh hC) rfl Z.isinstance PyProof.Rows.boot_isinstance (pa_cons (pv 0) (pa_cons (pe_ref rfl G_BadPoly) pa_nil)))) pss_never pss_nil)
    (pss_cons (ps_if (pt_val (pe_callB (call_isX hh hC) rfl Z.isinstance PyProof.Rows.boot_isinstance (pa_cons (pv 0) (pa_cons (pe_ref rfl G_BadPaper) pa_nil)))) (pss_one (ps_expr (pe_bm PySem.F.plainAttrs_list PySem.F.slot_list_append PySem.F.type_list_append mt_append (pv 1) (pa_cons (pe_tup (pa_cons pe_str (pa_cons (pe_xfE XT N_what hh (pv 0)) pa_nil))) pa_nil)))) pss_nil)
    (pss_cons (ps_if (pt_val (pe_callB (call_isX hh hC) rfl Z.isinstance PyProof.Rows.boot_isinstance (pa_cons (pv 0) (pa_cons (pe_ref rfl G_BadName) pa_nil)))) pss_never pss_nil)
    (pss_cons (ps_if (pt_val (pe_callB (call_isX hh hC) rfl Z.isinstance PyProof.Rows.boot_isinstance (pa_cons (pv 0) (pa_cons (pe_ref rfl G_BadText) pa_nil)))) pss_never pss_nil)
    (pss_cons (ps_if (pt_val (pe_callB (call_isX hh hC) rfl Z.isinstance PyProof.Rows.boot_isinstance (pa_cons (pv 0) (pa_cons (pe_ref rfl G_NoPlace) pa_nil)))) pss_never pss_nil)
    (pss_one (ps_ret (pe_op op_cat (pv 1) (pe_xE c_law_more_kinds hr (by(decide)) hg hh tkh rfl (pa_cons (pv 0) pa_nil)))))))))))))), ?_⟩
  walk_at "r"
  refine ⟨sz (by decide), fun p np => ?_⟩
  have e1 := same_new np (.lst [])
  have hd2 := e1 _ _ hdd
  refine isx_no k_BadNumber hd2 ?_; refine isx_no k_BadRow hd2 ?_; refine isx_no k_BadTable hd2 ?_; refine isx_no k_BadPoly hd2 ?_;
  refine isx_yes k_BadPaper hd2 ?_
  refine ⟨tyL upd_same, _, hd2, _, rfl, sz (by decide), fun p1 np1 => ?_⟩
  have e2 := e1.trans (same_new np1 (.tup [V.str (Str.ofString "paper"), .str (Str.ofString "book")]))
  have hp : (upd (upd H p (.lst [])) p1 (.tup [V.str (Str.ofString "paper"), .str (Str.ofString "book")])) p = some (.lst []) := (same_new np1 _) _ _ upd_same
  have nep : p ≠ p1 := fun z => by rw [← z, upd_same] at np1; cases np1
  refine ⟨p, _, _, rfl, rfl, hp, szL (by decide), ?_⟩
  have e3 := Same.upd (o := .lst ([] ++ [V.ref p1])) e2 np
  refine isx_no k_BadName (e3 _ _ hdd) ?_; refine isx_no k_BadText (e3 _ _ hdd) ?_; refine isx_no k_NoPlace (e3 _ _ hdd) ?_;
  refine ⟨rfl, C, dd, _, rfl, rfl, e3 _ _ hdd, fun l H' e4 hl nl => ?_⟩
  refine ⟨p, l, _, _, rfl, rfl, e4 _ _ upd_same, hl, sz (show 1 ≤ 1000000 by decide), fun y ny => ?_⟩
  have e5 := same_new ny (.lst ([] ++ [V.ref p1] ++ []))
  refine q y p1 _ ((e3.trans e4).trans e5) upd_same (.inl (.inl (e5 _ _ (e4 _ _ (by rw [upd_ne (Ne.symm nep), upd_same]))))) (same_none (e3.trans e4) ny)
end
end FP
set_option maxHeartbeats 1000000
namespace FP
open PySem PySem.Spec PyProof.Rows L2
local macro_rules | `(tactic| walk_at "rd") => `(tactic| dsimp only [tVar, tC, tCmp, tIsN, tNotN, tB, tAnd, tOr, tNot, tAndV, tOrV, tNotV, tIf, tNext, tSeq, tBreak, tCont, tDrop, tRet, tRetN, tIfS, tNever, tAsg, tPar, tAug, tOp, tUn, tTest, tChain, tFld, tNil, tCons, tTup, tLst, tCB, iList, iTup, iStr, tLc, tM0, tM1, tPart, tNoPart, tSl, tBM, tCallS, tCallSD, tMethW, tMake, sDPut, tDisp, tPairs, tXf, WE, tDGet, tDIn, gName, gTup, gCons, gNil, gSub, sFld, sFldAug, rI, rI0, rU, rEq, rNe, rAdd, rSub, t2I, tYes, cx_K, cx_w, cx_prog])
local macro_rules | `(tactic| walk_at "rs") => `(tactic| (try simp (maxSteps := 4000000) only [L2.start, List.map_cons, List.map_nil, List.length_cons, List.length_nil, List.cons_append, List.nil_append, Nat.reduceAdd, Nat.reduceSub, Nat.zero_add, List.replicate, List.getElem?_cons_zero, List.getElem?_cons_succ, Option.some.injEq, exists_eq_left', exists_eq_left, V.int.injEq, V.str.injEq, V.bl.injEq, V.ref.injEq, List.set_cons_zero, List.set_cons_succ, exists_and_left, List.cons.injEq, and_true, true_and, wipe, if_true, if_false, Bool.not_true, Bool.not_false, Bool.false_eq_true, decide_true, decide_false]))
local macro_rules | `(tactic| walk_at "r") => `(tactic| (walk_at "rd"; walk_at "rs"))
local macro_rules | `(tactic| walk_at "T") => `(tactic| (rw [if_pos (by first | assumption | rfl | decide | exact decide_eq_true (by assumption) | (simp [tyOf]; done) | (simp; omega) | omega)]; walk_at "rs"))
local macro_rules | `(tactic| walk_at "F") => `(tactic| (rw [if_neg (by first | assumption | decide | (simp [tyOf]; done) | (simp; omega) | (simp; assumption) | omega)]; walk_at "rs"))
section
variable {P : Program} {w : World} {K : PySem.W.Frag} {mg : Str → Option Value} {base : Heap} {f : Addr} {fd : FuncData}
theorem ok_kinds {CT CR : Addr} (D : C8.Def K mg "_law_kinds" s_law_kinds f fd) (b : Binds K fd ["e"] [])
    (hT : ∀ {cdv : Value} {A : Around} {outer : List Env} {s : Shared} {H : Hp} {Q : VK} {E : XK} {a : Addr} {oe : Obj} {dd : Addr} {lv wv : Int}, HE A [(a, oe)] a (.ref CT) (some dd) → A.guards = some [] → L2H.RoomH 1 (A.deeper (envOfC "_law_kinds" (C8.fnScope s_law_kinds) s.heap.objs.size f cdv)) →
      H dd = some (.xd [("word", .int wv), ("line", .int lv)]) → (∀ l t H', Same H H' → H' l = some (.lst [.ref t]) → SqT K H' t [.str "text", .int lv, .int wv] → H l = none → Q (.ref l) H') →
      ∃ t, PSs (L2H.cxH (L2N.CX P w) P w K mg base ["e", "found"] "_law_kinds" (C8.fnScope s_law_kinds) f cdv A outer s H E (a, oe)) (C8.fnBody s_law_kinds) t ∧ t { nx := fun _ H' => Q .non H', rt := Q } (L2.start ["e", "found"] [.ref a]) H)
    (hR : ∀ {cdv : Value} {A : Around} {outer : List Env} {s : Shared} {H : Hp} {Q : VK} {E : XK} {a : Addr} {oe : Obj} {dd : Addr}, HE A [(a, oe)] a (.ref CR) (some dd) → A.guards = some [] → L2H.RoomH 1 (A.deeper (envOfC "_law_kinds" (C8.fnScope s_law_kinds) s.heap.objs.size f cdv)) →
      H dd = some (.xd [("what", .str "book")]) → (∀ l t H', Same H H' → H' l = some (.lst [.ref t]) → SqT K H' t [.str "paper", .str "book"] → H l = none → Q (.ref l) H') →
      ∃ t, PSs (L2H.cxH (L2N.CX P w) P w K mg base ["e", "found"] "_law_kinds" (C8.fnScope s_law_kinds) f cdv A outer s H E (a, oe)) (C8.fnBody s_law_kinds) t ∧ t { nx := fun _ H' => Q .non H', rt := Q } (L2.start ["e", "found"] [.ref a]) H) : CalE P w K mg base 2 "_law_kinds" (sp_kinds K CT CR) := by
  refine ⟨f, fd, ["e"], fnE_of D.fn sc_law_kinds (fun a cls d vs H Q E h => by rw [h.1]; rfl) fun cdv A outer s H vs Q E a oe cls d hh hg hr h => ?_, D.mgf, D.kp, b⟩
  obtain ⟨rfl, ⟨dd, lv, wv, rfl, rfl, hdd, q⟩ | ⟨dd, rfl, rfl, hdd, q⟩⟩ := h
  · exact hT hh hg hr hdd q
  · exact hR hh hg hr hdd q
end
/-- isinstance, the class told by the reading -/
theorem call_isG {X : Cx} {a : Addr} {cls : Value} {d : Option Addr} (hh : HE X.A X.pn a cls d) : CallR X (.builtin "isinstance") (fun xs H Q => ∃ (C : Addr) (c : V) (cv : Value) (b : Bool) (dd : Addr) (fs : List (Str × V)), cls = .ref C ∧ L2.ExcC X.K C ∧ xs = [.ref a, c] ∧ (∀ u, RelV c u → u = cv) ∧ PySem.W.kitOne X.K (.ref C) cv = some b ∧ d = some dd ∧ H dd = some (.xd fs) ∧ Q (.bl b) H) := by
  intro pins s σ H xs us Q I r ⟨C, c, cv, b, dd, fs, ec, hC, h⟩
  subst ec
  exact call_isX hh hC pins s σ H xs us Q I r ⟨c, cv, b, dd, fs, h⟩
/-- what the fault's def makes of an error -/
def FltE (K : PySem.W.Frag) (CT CR : Addr) (Q : VK) : XK := fun cls d H' =>
  (∃ dd lv wv, cls = .ref CT ∧ d = some dd ∧ H' dd = some (.xd [("word", .int wv), ("line", .int lv)]) ∧ ∀ t H2, Same H' H2 → SqT K H2 t [.str "text", .int lv, .int wv] → Q (.ref t) H2) ∨
  (∃ dd, cls = .ref CR ∧ d = some dd ∧ H' dd = some (.xd [("what", .str "book")]) ∧ ∀ t H2, Same H' H2 → SqT K H2 t [.str "paper", .str "book"] → Q (.ref t) H2)
def rIsG (K : PySem.W.Frag) (a : Addr) (cls : Value) (d : Option Addr) : List V → Hp → VK → Prop := fun xs H Q => ∃ (C : Addr) (c : V) (cv : Value) (b : Bool) (dd : Addr) (fs : List (Str × V)), cls = .ref C ∧ L2.ExcC K C ∧ xs = [.ref a, c] ∧ (∀ u, L2.RelV c u → u = cv) ∧ PySem.W.kitOne K (.ref C) cv = some b ∧ d = some dd ∧ H dd = some (.xd fs) ∧ Q (.bl b) H
def rLn (K : PySem.W.Frag) : List V → Hp → VK → Prop := fun xs H Q => ∃ x n, xs = [x] ∧ LenV K x H n ∧ Q (.int (n : Nat)) H
def tSuite (K : PySem.W.Frag) (CT CR : Addr) (a : Addr) (cls : Value) (d : Option Addr) : TS :=
  tSeq (tAsg (tCallS (sp_kinds K CT CR a cls d) (WE fun _ _ _ _ => False) (tCons (tVar 2) tNil)) (gName 1))
    (tAsg (tIf (tAnd (tTest (tOp rEq (tCB (rLn K) (tCons (tVar 1) tNil)) (tC (.int 1)))) (tB (tCB (rIsG K a cls d) (tCons (tVar 2) (tCons (tC (.ty "ValueError")) tNil))))) (tOp (rIxL K) (tVar 1) (tC (.int 0))) (tTup (tCons (tC (.str "several")) (tCons (tCB (rLn K) (tCons (tVar 1) tNil)) tNil)))) (gName 1))
def TTflt (K : PySem.W.Frag) (CT CR : Addr) : (XK → Hp → VK → Prop) → Hp → VK → Prop := fun tl H Q => ∀ E : XK, (∀ cls d H', FltE K CT CR Q cls d H' → E cls d H') → tl E H (fun _ H' => Q .non H')
theorem flt_gives {X : Cx} {CT CR CF : Addr} {q : Str} {g : Addr} {cdg : Value} (Z : Zb X.mg) (hg : X.A.guards = some []) (G_FieldError : X.mg "FieldError" = some (.ref CF)) (xT : PySem.W.exmOne X.K (.ref CT) (.ref CF) = some true) (xR : PySem.W.exmOne X.K (.ref CR) (.ref CF) = some true)
    (hCT : L2.ExcC X.K CT) (hCR : L2.ExcC X.K CR) (vT : PySem.W.kitOne X.K (.ref CT) (.type "ValueError") = some true) (vR : PySem.W.kitOne X.K (.ref CR) (.type "ValueError") = some true) (nV : X.mg "ValueError" = none)
    (c_law_kinds : CalE X.prog X.w X.K X.mg X.base 2 "_law_kinds" (sp_kinds X.K CT CR)) :
    ∀ {k : Nat}, 2 ≤ k → GivesN X ["call", "found", "e"] "_law_fault" (C8.fnScope s_law_fault) g cdg (C8.fnBody s_law_fault) "call" q (TTflt X.K CT CR) k := by
  intro k hk f c s H Q tl hr act hc h
  have nd := sc_law_fault.nd
  refine ⟨_, pss_cons (ps_set (i := 1) nd rfl (Or.inl rfl) pe_non) (pss_cons (L2N.ps_try_as (X := (cxOf C8.CX0 X.prog X.w X.K X.mg X.base ["call", "found", "e"] "_law_fault" (C8.fnScope s_law_fault) g cdg X.A X.stack s H C8.E0).nox) (i := 2) (c := .ref CF) (ts := tSuite X.K CT CR) rfl rfl nd rfl rfl ⟨rfl, by decide, .inl G_FieldError⟩ tk0
      (fun W pn xe tk _ => pss_one (ps_expr (act W pn xe _ _ tk)))
      (fun a oe cls d pn hz hf => pss_cons (ps_set (i := 1) nd rfl (Or.inl rfl) (pe_xE c_law_kinds (L2H.RoomH.mk (k := k + 1) hr.dp hr.un) (by omega) hg (HE.suite hz hf) tk0 rfl (pa_cons (pv 2) pa_nil)))
        (pss_one (ps_set (i := 1) nd rfl (Or.inl rfl) (pe_ifExp (PW.pt (pw_and (pt_cmpR op_eq (pe_callB (r := rLn X.K) call_len rfl Z.len PySem.boot_len (pa_cons (pv 1) pa_nil)) pe_int (nomark _)) (pw_and1 (pt_val (pe_callB (r := rIsG X.K a cls d) (call_isG (HE.suite hz hf)) rfl Z.isinstance PyProof.Rows.boot_isinstance (pa_cons (pv 2) (pa_cons (pe_ty rfl nV (by decide +kernel)) pa_nil)))))))
          (pe_ix ix_list (pv 1) pe_int (fun _ _ => rfl)) (pe_tup (pa_cons pe_str (pa_cons (pe_callB (r := rLn X.K) call_len rfl Z.len PySem.boot_len (pa_cons (pv 1) pa_nil)) pa_nil)))))))) (pss_one (ps_ret (pv 1)))), ?_⟩
  walk_at "r"
  refine ⟨hc, h _ fun cls d H' hf => ?_⟩
  rcases hf with ⟨dd, lv, wv, rfl, rfl, hdd, k⟩ | ⟨dd, rfl, rfl, hdd, k⟩
  · refine ⟨true, xT, fun _ a na => ?_, fun z => nomatch z⟩
    unfold tSuite
    walk_at "r"
    refine ⟨rfl, .inl ⟨dd, lv, wv, rfl, rfl, hdd, fun l t H2 e2 hl ht nl => ?_⟩⟩
    refine ⟨_, 1, rfl, .inl ⟨_, .inl (.inl hl), rfl⟩, rfl, ?_⟩
    rw [if_pos (by decide)]
    refine ⟨CT, _, .type "ValueError", true, dd, _, rfl, hCT, rfl, fun _ z => z, vT, rfl, e2 _ _ hdd, true, rfl, ?_⟩
    rw [if_pos rfl]
    exact ixL (.inl (.inl hl)) (atI_nat (j := 0) rfl) (k t H2 e2 ht)
  · refine ⟨true, xR, fun _ a na => ?_, fun z => nomatch z⟩
    unfold tSuite
    walk_at "r"
    refine ⟨rfl, .inr ⟨dd, rfl, rfl, hdd, fun l t H2 e2 hl ht nl => ?_⟩⟩
    refine ⟨_, 1, rfl, .inl ⟨_, .inl (.inl hl), rfl⟩, rfl, ?_⟩
    rw [if_pos (by decide)]
    refine ⟨CR, _, .type "ValueError", true, dd, _, rfl, hCR, rfl, fun _ z => z, vR, rfl, e2 _ _ hdd, true, rfl, ?_⟩
    rw [if_pos rfl]
    exact ixL (.inl (.inl hl)) (atI_nat (j := 0) rfl) (k t H2 e2 ht)
end FP
set_option maxHeartbeats 1000000
namespace FP
open PySem PySem.Spec PyProof.Rows L2
local macro_rules | `(tactic| walk_at "rd") => `(tactic| dsimp only [tVar, tC, tCmp, tIsN, tNotN, tB, tAnd, tOr, tNot, tAndV, tOrV, tNotV, tIf, tNext, tSeq, tBreak, tCont, tDrop, tRet, tRetN, tIfS, tNever, tAsg, tPar, tAug, tOp, tUn, tTest, tChain, tFld, tNil, tCons, tTup, tLst, tCB, iList, iTup, iStr, tLc, tM0, tM1, tPart, tNoPart, tSl, tBM, tCallS, tCallSD, tMethW, tMake, sDPut, tDisp, tPairs, tXf, WE, tDGet, tDIn, gName, gTup, gCons, gNil, gSub, sFld, sFldAug, rI, rI0, rU, rEq, rNe, rAdd, rSub, t2I, tYes, cx_K, cx_w, cx_prog])
local macro_rules | `(tactic| walk_at "rs") => `(tactic| (try simp (maxSteps := 4000000) only [L2.start, List.map_cons, List.map_nil, List.length_cons, List.length_nil, List.cons_append, List.nil_append, Nat.reduceAdd, Nat.reduceSub, Nat.zero_add, List.replicate, List.getElem?_cons_zero, List.getElem?_cons_succ, Option.some.injEq, exists_eq_left', exists_eq_left, V.int.injEq, V.str.injEq, V.bl.injEq, V.ref.injEq, List.set_cons_zero, List.set_cons_succ, exists_and_left, List.cons.injEq, and_true, true_and, wipe, if_true, if_false, Bool.not_true, Bool.not_false, Bool.false_eq_true, decide_true, decide_false]))
local macro_rules | `(tactic| walk_at "r") => `(tactic| (walk_at "rd"; walk_at "rs"))
local macro_rules | `(tactic| walk_at "T") => `(tactic| (rw [if_pos (by first | assumption | rfl | decide | exact decide_eq_true (by assumption) | (simp [tyOf]; done) | (simp; omega) | omega)]; walk_at "rs"))
local macro_rules | `(tactic| walk_at "F") => `(tactic| (rw [if_neg (by first | assumption | decide | (simp [tyOf]; done) | (simp; omega) | (simp; assumption) | omega)]; walk_at "rs"))
/-! ### _law_is -/
/-- whole numbers, texts, tuples of such -/
inductive Fl : Nat → PyData → Prop
  | int {n : Nat} (i : Int) : Fl n (.int i)
  | str {n : Nat} (x : Str) : Fl n (.str x)
  | tup {n : Nat} {ds : List PyData} : (∀ d, d ∈ ds → Fl n d) → ds.length ≤ 1000 → Fl (n + 1) (.tuple ds)
theorem op_isC {X : Cx} : OpR X (compareOp .Is) (fun x y H Q => (∃ b, y = .bl b) ∧ ((∃ i, x = .int i) ∨ ∃ z, x = .str z) ∧ Q (.bl false) H) := by
  intro pins s σ H x y v u Q I rx ry ⟨⟨b, ey⟩, ex, q⟩
  subst ey
  cases (show u = Value.bool b from ry)
  rcases ex with ⟨i, rfl⟩ | ⟨z, rfl⟩
  · obtain ⟨t, rfl⟩ := (show ∃ t, v = Value.int i t from rx)
    exact wpAny_is_other rfl (fun z => nomatch z) ⟨.bl false, H, I, rfl, q⟩
  · obtain ⟨t, rfl⟩ := (show ∃ t, v = Value.str z t from rx)
    exact wpAny_is_other rfl (fun z => nomatch z) ⟨.bl false, H, I, rfl, q⟩
theorem walk_rngY {n : Nat} : Walk (Itr 0 n) ((List.range n).map fun i => V.int (i : Nat)).length (fun _ => True) (YAt ((List.range n).map fun i => V.int (i : Nat))) := by
  have w : Walk (Itr 0 n) n (fun _ => True) (YFn fun i => .int (0 + i)) := walk_range
  rw [List.length_map, List.length_range]
  refine w.mono (fun _ h => h) fun i H x H' hi _ y => ⟨y.1, ?_⟩
  rw [List.getElem?_map, List.getElem?_range hi, y.2]
  show some (V.int _) = some (V.int _)
  rw [Int.zero_add]
theorem fltL_none : ∀ (xs : List V) (bs : List Bool), (∀ b, b ∈ bs → b = false) → fltL xs bs = []
  | [], [], _ => rfl
  | [], _ :: _, _ => rfl
  | _ :: _, [], _ => rfl
  | x :: xs, b :: bs, h => by
    show (if b = true then x :: fltL xs bs else fltL xs bs) = []
    rw [h b List.mem_cons_self, if_neg Bool.false_ne_true]
    exact fltL_none xs bs fun c hc => h c (List.mem_cons_of_mem _ hc)
section
variable {P : Program} {w : World} {K : PySem.W.Frag} {mg : Str → Option Value} {base : Heap} {f : Addr} {fd : FuncData}
def sp_law_is (K : PySem.W.Frag) (n : Nat) : Sp := fun vs H Q _ => ∃ v u d, vs = [v, u] ∧ Dp K H v d ∧ Dp K H u d ∧ Fl n d ∧ ∀ H', Same H H' → Q (.bl true) H'
theorem fn_law_is (Z : Zb mg) (D : C8.Def K mg "_law_is" s_law_is f fd) (b : Binds K fd ["told", "due"] []) {n : Nat} (c_law_is : CalX P w K mg base n "_law_is" (fun vs H Q E => 0 < n ∧ sp_law_is K (n - 1) vs H Q E)) : CalX P w K mg base (n + 1) "_law_is" (sp_law_is K n) := by
  have nd := sc_law_is.nd
  refine calX D b sc_law_is (fun vs H Q E h => by obtain ⟨v, u, d, rfl, _⟩ := h; rfl) fun cdv A outer s H vs Q E hr h => ?_
  obtain ⟨v, u, d, rfl, hv, hu, fl, q⟩ := h
  refine ⟨_, (pss_cons (ps_if (pt_val (pe_callB call_isi rfl Z.isinstance PyProof.Rows.boot_isinstance (pa_cons (pv 1) (pa_cons (pe_ty rfl Z.tuple PyProof.Rows.boot_tuple) pa_nil)))) (pss_cons (ps_if (PW.pt (pw_or (pt_not (pt_val (pe_callB call_isi rfl Z.isinstance PyProof.Rows.boot_isinstance (pa_cons (pv 0) (pa_cons (pe_ty rfl Z.tuple PyProof.Rows.boot_tuple) pa_nil))))) (pw_or1 (pt_cmpR op_ne (pe_callB call_len rfl Z.len PySem.boot_len (pa_cons (pv 0) pa_nil)) (pe_callB call_len rfl Z.len PySem.boot_len (pa_cons (pv 1) pa_nil)) (nomark _))))) (pss_one (ps_ret pe_bl)) pss_nil)
    (pss_one (ps_ret (pe_cmpR (op_eqD (u64 hr)) (pe_lc (own := [("at", 2)]) rfl nd (pi_range1 rfl Z.range (pa_cons (pe_callB call_len rfl Z.len PySem.boot_len (pa_cons (pv 1) pa_nil)) pa_nil)) (blkOk_by (N := ["told", "due", "at"]) (sc := C8.fnScope s_law_is) (by decide +kernel)) (fun _ _ _ _ _ => (pg_name (i := 2) nd rfl (Or.inl rfl))) (fun _ _ _ _ _ => pts_one (pt_not (pt_val (pe_x c_law_is hr (by(omega)) tk0 rfl (pa_cons (pe_ix (r := rIxT K) ix_tup (pv 0) (pv 2) (fun _ _ => rfl)) (pa_cons (pe_ix (r := rIxT K) ix_tup (pv 1) (pv 2) (fun _ _ => rfl)) pa_nil)))))) (fun _ _ _ _ _ => (pv 2))) (pe_lst pa_nil) (nomark _))))) pss_nil)
    (pss_cons (ps_if (pt_cmp (pc_isN (pv 1))) (pss_one (ps_ret (pe_cmp (pc_isN (pv 0))))) pss_nil)
    (pss_cons (ps_if (pt_cmpR op_isC (pv 1) pe_bl (nomark _)) (pss_one (ps_ret (pe_cmpR op_isC (pv 0) pe_bl (nomark _)))) pss_nil)
    (pss_cons (ps_if (pt_cmpR op_isC (pv 1) pe_bl (nomark _)) (pss_one (ps_ret (pe_cmpR op_isC (pv 0) pe_bl (nomark _)))) pss_nil)
    (pss_cons (ps_if (pt_val (pe_callB call_isi rfl Z.isinstance PyProof.Rows.boot_isinstance (pa_cons (pv 1) (pa_cons (pe_ty rfl Z.str PyProof.Rows.boot_str) pa_nil)))) (pss_one (ps_ret (pe_and (pe_callB call_isi rfl Z.isinstance PyProof.Rows.boot_isinstance (pa_cons (pv 0) (pa_cons (pe_ty rfl Z.str PyProof.Rows.boot_str) pa_nil))) (pe_one (pe_cmpR op_eq (pv 0) (pv 1) (nomark _)))))) pss_nil)
    (pss_one (ps_ret (pe_and (pe_callB call_isi rfl Z.isinstance PyProof.Rows.boot_isinstance (pa_cons (pv 0) (pa_cons (pe_ty rfl Z.int PyProof.Rows.boot_int) pa_nil))) (pe_and (pe_not (pe_callB call_isi rfl Z.isinstance PyProof.Rows.boot_isinstance (pa_cons (pv 0) (pa_cons (pe_ty rfl Z.bool PyProof.Rows.boot_bool) pa_nil)))) (pe_one (pe_cmpR op_eq (pv 0) (pv 1) (nomark _)))))))))))), ?_⟩
  walk_at "r"
  cases fl with
  | int i =>
    have eu := Dp.intI hu
    have ev := Dp.intI hv
    subst eu ev
    refine isi_tuple (Dp.kd hu) ⟨false, rfl, ?_⟩
    rw [if_neg (by decide), if_neg (by intro z; exact nomatch of_decide_eq_true z)]
    refine ⟨⟨_, rfl⟩, .inl ⟨_, rfl⟩, ⟨_, rfl⟩, .inl ⟨_, rfl⟩, isi_str (Dp.kd hu) ⟨false, rfl, ?_⟩⟩
    rw [if_neg (by decide)]
    refine isi_int (Dp.kd hv) ⟨true, rfl, ?_⟩
    rw [if_pos rfl]
    refine isi_bool (Dp.kd hv) ⟨false, rfl, ?_⟩
    rw [if_pos (by decide)]
    refine ⟨rfl, ?_⟩
    rw [decide_eq_true rfl]
    exact q _ (Same.refl _)
  | str x =>
    have eu := Dp.strI hu
    have ev := Dp.strI hv
    subst eu ev
    refine isi_tuple (Dp.kd hu) ⟨false, rfl, ?_⟩
    rw [if_neg (by decide), if_neg (by intro z; exact nomatch of_decide_eq_true z)]
    refine ⟨⟨_, rfl⟩, .inr ⟨_, rfl⟩, ⟨_, rfl⟩, .inr ⟨_, rfl⟩, isi_str (Dp.kd hu) ⟨true, rfl, ?_⟩⟩
    rw [if_pos rfl]
    refine isi_str (Dp.kd hv) ⟨true, rfl, ?_⟩
    rw [if_pos rfl]
    refine ⟨rfl, ?_⟩
    rw [decide_eq_true rfl]
    exact q _ (Same.refl _)
  | @tup m ds hds hlen =>
    refine isi_tuple (Dp.kd hu) ⟨true, rfl, ?_⟩
    rw [if_pos rfl]
    refine isi_tuple (Dp.kd hv) ⟨true, rfl, ?_⟩
    rw [if_neg (by decide)]
    obtain ⟨a, xs, rfl, ha, al⟩ := Dp.tupI hv
    obtain ⟨c, ys, rfl, hc, bl⟩ := Dp.tupI hu
    have lx := DpAll.length al
    have ly := DpAll.length bl
    refine lenT ha (lenT hc ⟨rfl, ?_⟩)
    rw [if_neg (by rw [lx, ly, decide_eq_true rfl]; decide)]
    refine ⟨_, rfl, _, rfl, _, .inr ⟨ys, hc, rfl⟩, _, rfl, by omega, by omega, ?_⟩
    intro D nD
    refine comp_flt (walk_rngY (n := ys.length)) (by rw [List.length_map, List.length_range]; exact szL (by omega)) nD (fun x H' Kc => rIxT K (.ref a) x H' fun x1 H1 => rIxT K (.ref c) x H1 fun x2 H1 => 0 < m + 1 ∧ sp_law_is K (m + 1 - 1) [x1, x2] H1 (fun x3 H1 => ∃ c, x3 = V.bl c ∧ Kc (!c) H1) _) (List.replicate ys.length false) (by simp) (fun _ _ => trivial) ?_ ?_
    · intro i x bb H2 Kc hx hb e q2
      rw [List.getElem?_map] at hx
      cases hi : (List.range ys.length)[i]? with
      | none => rw [hi] at hx; cases hx
      | some k =>
        rw [hi] at hx
        cases hx
        obtain ⟨hlt, rfl⟩ := List.getElem?_eq_some_iff.mp hi
        rw [List.length_range] at hlt
        rw [List.getElem_range]
        have hbf : bb = false := List.eq_of_mem_replicate (List.mem_of_getElem? hb)
        subst hbf
        have hdi : ds[i]? = some (ds[i]'(by omega)) := List.getElem?_eq_getElem (by omega)
        obtain ⟨x1, h1, d1⟩ := DpAll.get al hdi
        obtain ⟨x2, h2, d2⟩ := DpAll.get bl hdi
        exact ixT (SqT.same e ha) (atI_nat h1) (ixT (SqT.same e hc) (atI_nat h2) ⟨Nat.succ_pos _, x1, x2, _, rfl, Dp.same e d1, Dp.same e d2, hds _ (List.getElem_mem _), fun H' e' => ⟨true, rfl, q2 _ e'⟩⟩)
    · intro H2 e hD
      rw [fltL_none _ _ (fun b hb => List.eq_of_mem_replicate hb)] at hD
      refine ⟨sz (by decide), fun p np => ?_⟩
      have e2 := same_new np (.lst [])
      refine ⟨.list [], .list [], dp_nil (e2 _ _ hD), dp_nil upd_same, shaped_nil, shaped_nil, ?_⟩
      exact q _ (e.trans e2)
end
section
variable {P : Program} {w : World} {K : PySem.W.Frag} {mg : Str → Option Value} {base : Heap} {f : Addr} {fd : FuncData}
theorem ok_law_is (Z : Zb mg) (D : C8.Def K mg "_law_is" s_law_is f fd) (b : Binds K fd ["told", "due"] []) : ∀ n : Nat, CalX P w K mg base (n + 1) "_law_is" (sp_law_is K n)
  | 0 => fn_law_is Z D b ((CalX.none D b _).imp fun _ _ _ _ h => absurd h.1 (Nat.lt_irrefl 0))
  | n + 1 => fn_law_is Z D b ((ok_law_is Z D b n).imp fun _ _ _ _ h => h.2)
end
end FP
set_option maxHeartbeats 4000000
/-! defs whose promise is asked only where the guards are none; the law's end with such a def -/
namespace FP
open PySem PySem.Spec PyProof.Rows L2 LamX
structure FnG (P : Program) (w : World) (K : PySem.W.Frag) (mg : Str → Option Value) (base : Heap) (k : Nat) (f : Addr) (fd : FuncData) (ps : List Str) (sp : Sp) : Prop where
  len : ∀ vs H Q E, sp vs H Q E → vs.length = ps.length
  run : ∀ (A : Around) (outer : List Env) (s : Shared) (H : Hp) (args : Args) (us : List Value) (vs : List V) (Q : VK) (E : XK), A.guards = some [] → Room k A → Env0 P w K mg base A outer s H → BindsTo s fd args (ps.zip us) → Vals vs us → sp vs H Q E →
    codeAny (model P w) A (.call (.ref f) args) (CR (L2N.CX P w) outer P w H s Q E) s
structure CalG (P : Program) (w : World) (K : PySem.W.Frag) (mg : Str → Option Value) (base : Heap) (k : Nat) (x : Str) (sp : Sp) : Prop where
  ex : ∃ (f : Addr) (fd : FuncData) (ps : List Str), FnG P w K mg base k f fd ps sp ∧ mg x = some (.ref f) ∧ PySem.W.keepIn K (.ref f) = true ∧ Binds K fd ps []
section
variable {P : Program} {w : World} {K : PySem.W.Frag} {mg : Str → Option Value} {base : Heap}
/-- a def by its body, its code object known -/
theorem fnG {x qual : Str} {st : Stmt} {f c : Addr} {fd : FuncData} {N ps : List Str} {k : Nat} {sp : Sp} (F : C8.Fun K x qual st f fd) (hc : fd.code = .ref c) (S : FnScope N ps (C8.fnScope st)) (len : ∀ vs H Q E, sp vs H Q E → vs.length = ps.length)
    (hbody : ∀ (A : Around) (outer : List Env) (s : Shared) (H : Hp) (vs : List V) (Q : VK) (E : XK), A.guards = some [] → Room k (A.deeper (envOfC qual (C8.fnScope st) s.heap.objs.size f (.ref c))) → sp vs H Q E →
      ∃ t, PSs (cxOf (L2N.CX P w) P w K mg base N qual (C8.fnScope st) f (.ref c) A outer s H E) (C8.fnBody st) t ∧ t { nx := fun _ H' => Q .non H', rt := Q } (start N vs) H) : FnG P w K mg base (k + 1) f fd ps sp := by
  obtain ⟨oc, od, dV, kV, doc, pm, an, cdv, ct, osl, rfl, lk, hcd⟩ := F.ex
  cases (show cdv = .ref c from hc)
  exact ⟨len, fun A outer s H args us vs Q E hg hr e0 hb r hsp => run_ofS lk hcd S hr e0 hb r (len _ _ _ _ hsp) fun hr1 => hbody A outer s H vs Q E hg hr1 hsp⟩
theorem CalG.imp {x : Str} {k : Nat} {sp sp' : Sp} (c : CalG P w K mg base k x sp) (h : ∀ vs H Q E, sp' vs H Q E → sp vs H Q E) : CalG P w K mg base k x sp' := by
  obtain ⟨f, fd, ps, F, m, kp, b⟩ := c.ex
  exact ⟨f, fd, ps, ⟨fun vs H Q E q => F.len vs H Q E (h _ _ _ _ q), fun A outer s H args us vs Q E hg hr e bb v q => F.run A outer s H args us vs Q E hg hr e bb v (h _ _ _ _ q)⟩, m, kp, b⟩
theorem calG {x : Str} {st : Stmt} {f c : Addr} {fd : FuncData} {N ps : List Str} {k : Nat} {sp : Sp} (D : C8.Def K mg x st f fd) (hc : fd.code = .ref c) (b : Binds K fd ps []) (S : FnScope N ps (C8.fnScope st)) (len : ∀ vs H Q E, sp vs H Q E → vs.length = ps.length)
    (hbody : ∀ (A : Around) (outer : List Env) (s : Shared) (H : Hp) (vs : List V) (Q : VK) (E : XK), A.guards = some [] → Room k (A.deeper (envOfC x (C8.fnScope st) s.heap.objs.size f (.ref c))) → sp vs H Q E →
      ∃ t, PSs (cxOf (L2N.CX P w) P w K mg base N x (C8.fnScope st) f (.ref c) A outer s H E) (C8.fnBody st) t ∧ t { nx := fun _ H' => Q .non H', rt := Q } (start N vs) H) : CalG P w K mg base (k + 1) x sp :=
  ⟨f, fd, ps, fnG D.fn hc S len hbody, D.mgf, D.kp, b⟩
end
section
variable {X : Cx} {k j : Nat} {x : Str} {sp : Sp} {W : WX} {p pos : Pos} {e : Expr} {es : List Expr} {t : TA}
theorem pe_xG (c : CalG X.prog X.w X.K X.mg X.base k x sp) (hr : Room j X.A) (hk : k ≤ j) (hg : X.A.guards = some []) (tk : L2N.Takes X W) (gx : Gl X x) (ha : PA X (e :: es) t)
    (hdb : (x == ("__debug__" : Str)) = false := by decide) (he : starEach (e :: es) X.env = (false, eval e X.env) :: starEach es X.env := by rfl) (hpl : (backTo pos (starEach es X.env)).any (·.1) = false := by rfl) :
    PE X (.Call (.Name x p) (e :: es) [] pos) (tCallS sp (WE W) t) := by
  obtain ⟨f, fd, ps, F, hm, kp, b⟩ := c.ex
  refine ⟨fun pins s σ H Q I h => wpAny_Call_Name_kw (ld_glob I gx hm ?_ hdb)⟩
  refine PySem.W.callWith_K (h₀ := X.base) I.ok.mod.kin kp (thn (ha.run pos pins s σ H _ I h) fun us s1 ⟨vs, H1, I1, r, q⟩ => ⟨I1.kIn, ?_⟩) he hpl
  have hl : us.length = ps.length := by rw [← r.length]; exact F.len _ _ _ _ q
  have bb := b s1 us I1.kIn (by rw [List.append_nil]; exact hl)
  rw [List.append_nil] at bb
  refine wpAny_call (codeAny_mono (F.run X.A X.stack s1 H1 ⟨us, []⟩ us vs Q (WE W σ) hg (hr.mono hk) I1.env0 bb r q) fun r s2 hq => ?_)
  cases r with
  | error e => exact L2N.passAt tk σ pins H1 s1 e s2 I1 hq
  | ok fl =>
    cases fl with
    | ret u => exact I1.after hq
    | next | brk | cont => exact False.elim hq
end
theorem law_callG {P : Program} {w : World} {K : PySem.W.Frag} {mg mb : Str → Option Value} {k : Nat} {fa la : Addr} {cs : List (Addr × Addr)} {fd : FuncData} {x : Str} {sp : Sp} {sA : Shared} {vls : List Value} {nums : List Int}
    (KX : K.In sA.heap) (hNs : sA.heap.Ns mainGlobals mg) (hbu : sA.heap.Ns builtinsNs mb) (hbb : ∀ x : Str, x ≠ "__name__" → mb x = bootBuiltins x) (hlim : sA.heap.NoLimit) (hg : sA.gens = #[])
    (hTb : ∀ pr ∈ cs, sA.heap.get? pr.2 = some { cls := .none, data := .fields #[] }) (nT : ∀ pr ∈ cs, K.lookup pr.2 = none) (C : ∀ pr ∈ cs, PySem.W.CodeHd sA.heap pr.1 pr.2)
    (hbm : ∃ (bmo : Addr) (obj : Obj), mg "__builtins__" = some (.ref bmo) ∧ bmo ≠ builtinsNs ∧ sA.heap.get? bmo = some obj ∧ obj.cls = .type "module" ∧ obj.dict = some builtinsNs ∧ obj.data = .plain)
    (ha : sA.heap.get? la = some { cls := .type "list", data := .seq vls.toArray }) (hi : IntsAre vls nums) (hl : nums.length ≤ sizeLine) (hr : Room k callerA)
    (F : ∀ base : Heap, K.In base → base.Ns mainGlobals mg → (∀ pr ∈ cs, TabB base mg pr.1 pr.2) → FnG P w K mg base k fa fd [x] sp) (hbind : ∀ (s : Shared) (uu : Value), BindsTo s fd ⟨[uu], []⟩ [(x, uu)])
    (hsp : ∀ HA : Hp, (∀ pr ∈ cs, HA pr.2 = some (.tbl #[])) → SqL K HA la (nums.map V.int) → sp [.ref la] HA (fun v _ => v = .bl true) fun _ _ _ => False)
    :
    codeAny (model P w) callerA (.call (.ref fa) ⟨[.ref la], []⟩) (fun r s' => r = .ok (.ret (.bool true)) ∧ OldK sA.heap s'.heap ∧ s'.os = sA.os ∧ AllBare s'.gens) sA := by
  have rv := vals_ints hi
  have lenV := hi.length
  have atT : ∀ ad : Addr, ad ∈ cs.map (·.2) → sA.heap.get? ad = some { cls := .none, data := .fields #[] } := fun ad hbu => by
    obtain ⟨pr, hpr, ee⟩ := List.mem_map.mp hbu
    rw [← ee]
    exact hTb pr hpr
  have aT : la ∉ cs.map (·.2) := fun zz => by
    have qq := atT la zz
    rw [ha] at qq
    have z' : Data.seq vls.toArray _ = Data.fields #[] := congrArg Obj.data (Option.some.inj qq)
    cases z'
  have memT : ∀ pr ∈ cs, pr.2 ∈ cs.map (·.2) := fun pr hpr => List.mem_map.mpr ⟨pr, hpr, rfl⟩
  -- over what may be tracked: the script and the tables
  have mid : ∀ HA : Hp, (∀ pr ∈ cs, HA pr.2 = some (.tbl #[])) → (∀ ad, HA ad = none ∨ ad ∈ cs.map (·.2) ∨ ∃ oj xs, HA ad = some (.frz oj (.lst xs))) → SqL K HA la (nums.map V.int) → HOk P w HA sA.heap → (∀ ad, HA ad ≠ none → ad = la ∨ ad ∈ cs.map (·.2)) → (HA la ≠ none → K.lookup la = none) →
      codeAny (model P w) callerA (.call (.ref fa) ⟨[.ref la], []⟩) (fun r s' => r = .ok (.ret (.bool true)) ∧ OldK sA.heap s'.heap ∧ s'.os = sA.os ∧ AllBare s'.gens) sA := by
    intro HA hH hO hS hokk hAa hK
    have basO : ∀ {ad : Addr} {oj : Obj}, sA.heap.get? ad = some oj → HA ad = none → (hidT sA.heap HA).get? ad = some oj := fun ee n => hidT_get ee n
    have nod : ∀ {ad : Addr} {oj : Obj}, sA.heap.get? ad = some oj → (∀ vls n, oj.data ≠ .seq vls n) → oj.data ≠ .fields #[] → HA ad = none := fun {ad oj} ee h1 h2 => by
      cases qq : HA ad with
      | none => rfl
      | some uu =>
        rcases hAa ad (by rw [qq]; simp) with e' | e'
        · rw [e', ha] at ee
          cases ee
          exact (h1 _ _ rfl).elim
        · rw [atT ad e'] at ee
          cases ee
          exact (h2 rfl).elim
    have noa : ∀ {ad : Addr} {oj : Obj} {ents : Array DictEntry} {ep : Nat}, sA.heap.get? ad = some oj → oj.data = .dict ents ep → HA ad = none := fun {ad oj ents ep} ee d => by
      refine nod ee (fun vls n zz => ?_) fun zz => ?_
      · rw [d] at zz
        cases zz
      · rw [d] at zz
        cases zz
    have nsk : ∀ {ad : Addr} {m : Str → Option Value}, sA.heap.Ns ad m → (hidT sA.heap HA).Ns ad m := fun {ad m} ⟨oj, ents, ep, ee, d, r⟩ => ⟨oj, ents, ep, basO ee (noa ee d), d, r⟩
    have hKb : K.In (hidT sA.heap HA) := fun ad oj ee => basO (KX ad oj ee) (by
      cases qq : HA ad with
      | none => rfl
      | some uu =>
        rcases hAa ad (by rw [qq]; simp) with e' | e'
        · rw [e'] at ee qq
          rw [hK (by rw [qq]; simp)] at ee
          cases ee
        · obtain ⟨pr, hpr, ep⟩ := List.mem_map.mp e'
          rw [← ep, nT pr hpr] at ee
          cases ee)
    have hM : L2.Mod K mg (hidT sA.heap HA) := ⟨hKb, nsk hNs, ⟨mb, nsk hbu, hbb⟩, let ⟨mc, h1, h2⟩ := hlim; ⟨mc, nsk h1, h2⟩⟩
    have TB : ∀ pr ∈ cs, TabB (hidT sA.heap HA) mg pr.1 pr.2 := fun pr hpr => by
      have hTp := hTb pr hpr
      refine ⟨?_, ?_, fun zz => ?_⟩
      · obtain ⟨oj, us, file, tf, flags, tg, inF, text, tt, e1, r1, r2, r3, r4, r5, r6, r7, r8, hne⟩ := C pr hpr
        refine ⟨oj, us, file, tf, flags, tg, inF, text, tt, basO e1 (nod e1 (fun vls n zz => ?_) fun zz => ?_), r1, r2, r3, r4, r5, r6, r7, r8, hne⟩
        · rw [r2] at zz
          cases zz
        · rw [r2] at zz
          cases zz
          simp at r3
      · obtain ⟨bmo, obj, b1, b2, b3, b4, b5, b6⟩ := hbm
        have nG : bmo ≠ mainGlobals := fun qq => by
          obtain ⟨oj, ents, ep, ee, hd, _⟩ := hNs
          rw [qq, ee] at b3
          cases b3
          rw [hd] at b6
          cases b6
        have nP : bmo ≠ pr.2 := fun qq => by
          rw [qq, hTp] at b3
          cases b3
          cases b6
        refine ⟨bmo, obj, b1, b2, nG, nP, basO b3 (nod b3 (fun vls n zz => ?_) fun zz => ?_), b4, b5, b6⟩
        · rw [b6] at zz
          cases zz
        · rw [b6] at zz
          cases zz
      · obtain ⟨oj, ents, ep, ee, hd, _⟩ := hNs
        rw [zz, hTp] at ee
        cases ee
        cases hd
    have en0 : Env0 P w K mg (hidT sA.heap HA) callerA [] sA HA := ⟨rfl, hM, fun ad oj ee => of_hidT ee, Nat.le_of_eq (hidT_size _ _), trivial, fun ad hbu => absurd (show ad ∈ ([] : List Addr) from hbu) (by simp), hokk, .of_eq hg⟩
    refine codeAny_mono ((F _ hKb (nsk hNs) TB).run callerA [] sA HA ⟨[.ref la], []⟩ [.ref la] [.ref la] _ _ rfl hr en0 (hbind sA (.ref la)) (.cons rfl .nil) (hsp HA hH hS)) fun r s' h => ?_
    cases r with
    | error ee => 
      obtain ⟨_, _, _, _, _, _, _, _, _, _, _, _, zE⟩ := h
      exact zE.elim
    | ok fl =>
      cases fl with
      | next => exact False.elim h
      | brk => exact False.elim h
      | cont => exact False.elim h
      | ret uu =>
        obtain ⟨v, H', os, bare, un, hok', r', qq⟩ := h
        have q' : v = .bl true := qq
        subst q'
        obtain rfl : uu = Value.bool true := r'
        have key : ∀ ad oj, ad ∉ cs.map (·.2) → sA.heap.get? ad = some oj → s'.heap.get? ad = some oj := fun ad oj nb ee => by
          cases qq : HA ad with
          | none => exact un.keep ad oj ee qq (by intro zz; exact absurd (show ad ∈ ([] : List Addr) from zz) (by simp)) (by simp)
          | some uu =>
            rcases hO ad with zz | zz | ⟨obj, xs, zz⟩
            · rw [qq] at zz; cases zz
            · exact absurd zz nb
            · have z2 := un.frzs ad obj _ zz
              obtain ⟨e1, _⟩ := hokk ad _ zz
              obtain ⟨e2, _⟩ := hok' ad _ z2
              rw [ee] at e1; cases e1
              exact e2
        have grown : ∀ pr ∈ cs, ∃ more : Array Value, s'.heap.get? pr.2 = some { cls := .none, data := .fields more } := fun pr hpr => by
          obtain ⟨more, zz⟩ := un.tbls pr.2 #[] (hH pr hpr)
          exact ⟨_, hok' pr.2 _ zz⟩
        refine ⟨rfl, ⟨fun ad oj ee => ?_, fun ad oj ee => ?_⟩, os, bare⟩
        · by_cases hbu : ad ∈ cs.map (·.2)
          · obtain ⟨pr, hpr, ep⟩ := List.mem_map.mp hbu
            obtain ⟨more, hm⟩ := grown pr hpr
            rw [← ep] at ee ⊢
            rw [hTb pr hpr] at ee
            cases ee
            exact .inr (.inl ⟨((C pr hpr).tab (hTb pr hpr)).isCodeTable, rfl, #[], more, rfl, by rw [Array.empty_append]; exact hm⟩)
          · exact .inl (key ad oj hbu ee)
        · by_cases hbu : ad ∈ cs.map (·.2)
          · obtain ⟨pr, hpr, ep⟩ := List.mem_map.mp hbu
            obtain ⟨more, hm⟩ := grown pr hpr
            rw [← ep]
            exact ⟨_, hm⟩
          · exact ⟨oj, key ad oj hbu ee⟩
  cases hk : K.lookup la with
  | some oj =>
    have ee := KX la oj hk
    rw [ha] at ee
    cases ee
    refine mid (fun ad => if ad ∈ cs.map (·.2) then some (.tbl #[]) else none) (fun pr hpr => if_pos (memT pr hpr)) (fun ad => ?_) (.inr ⟨_, vls.toArray, _, hk, rfl, rfl, rfl, by rw [List.size_toArray, lenV]; exact hl, by simpa using rv⟩) (fun ad uu zz => ?_) (fun ad zz => ?_) fun zz => absurd (show (if la ∈ cs.map (·.2) then some (HO.tbl #[]) else none) = none from if_neg aT) zz
    · by_cases hbu : ad ∈ cs.map (·.2)
      · exact .inr (.inl hbu)
      · exact .inl (if_neg hbu)
    · by_cases hbu : ad ∈ cs.map (·.2)
      · have z' := (if_pos hbu).symm.trans zz
        cases z'
        exact atT ad hbu
      · have z' := (if_neg hbu).symm.trans zz
        cases z'
    · by_cases hbu : ad ∈ cs.map (·.2)
      · exact .inr hbu
      · exact absurd (if_neg hbu) zz
  | none =>
    refine mid (fun ad => if ad = la then some (.frz { cls := .type "list", data := .seq vls.toArray } (.lst (nums.map V.int))) else if ad ∈ cs.map (·.2) then some (.tbl #[]) else none) (fun pr hpr => (if_neg (show ¬ pr.2 = la from fun zz => aT (by rw [← zz]; exact memT pr hpr))).trans (if_pos (memT pr hpr))) (fun ad => ?_)
      (.inl (.inr ⟨{ cls := .type "list", data := .seq vls.toArray }, if_pos rfl⟩)) (fun ad uu zz => ?_) (fun ad zz => ?_) fun _ => hk
    · by_cases hbu : ad = la
      · exact .inr (.inr ⟨_, _, if_pos hbu⟩)
      · by_cases hb2 : ad ∈ cs.map (·.2)
        · exact .inr (.inl hb2)
        · exact .inl ((if_neg hbu).trans (if_neg hb2))
    · by_cases hbu : ad = la
      · have z' := (if_pos hbu).symm.trans zz
        cases z'
        rw [hbu]
        exact ⟨ha, by rw [List.length_map]; exact hl, vls, _, rv, ha⟩
      · have z1 := (if_neg hbu).symm.trans zz
        by_cases hb2 : ad ∈ cs.map (·.2)
        · have z2 := (if_pos hb2).symm.trans z1
          cases z2
          exact atT ad hb2
        · have z2 := (if_neg hb2).symm.trans z1
          cases z2
    · by_cases hbu : ad = la
      · exact .inl hbu
      · by_cases hb2 : ad ∈ cs.map (·.2)
        · exact .inr hb2
        · exact absurd ((if_neg hbu).trans (if_neg hb2)) zz
/-- the law's promise at the heap h -/
def LawAtG (l : PySem.W.OpenLaw) (w : World) (K : PySem.W.Frag) (k n : Nat) (x : Str) (mg : Str → Option Value) (fa : Addr) (h : Heap) : Prop :=
  ∃ (fd : FuncData) (tabs : List (Addr × Addr)) (sp : Sp), (∀ pr ∈ tabs, h.get? pr.2 = some { cls := .none, data := .fields #[] }) ∧ (∀ pr ∈ tabs, K.lookup pr.2 = none) ∧ (∀ pr ∈ tabs, PySem.W.CodeHd h pr.1 pr.2) ∧ (∀ (s : Shared) (uu : Value), BindsTo s fd ⟨[uu], []⟩ [(x, uu)]) ∧
    (∀ (HA : Hp) (la : Addr) (nums : List Int), nums.length ≤ n → (∀ zz ∈ nums, Builtin.Int.intBits zz ≤ 1048576) → (∀ pr ∈ tabs, HA pr.2 = some (.tbl #[])) → SqL K HA la (nums.map V.int) → sp [.ref la] HA (fun v _ => v = .bl true) fun _ _ _ => False) ∧
    ∀ base : Heap, K.In base → base.Ns mainGlobals mg → (∀ pr ∈ tabs, TabB base mg pr.1 pr.2) → FnG l.prog w K mg base k fa fd [x] sp
theorem walk_ofOwnG {l : PySem.W.OpenLaw} {n k : Nat} {pq : Program} {loose : List Str} {XP : (Str → Option Value) → Heap → Prop} {YP : World → Heap → Prop} {d : DefRec} {K : Params → PySem.W.Frag} {x : Str}
    (hN : l.most = some n) (n2 : n ≤ sizeLine) (hDfl : d.params.defaults = []) (hRm : Room k callerA) (hRec : ((recsOf pq).any fun e => e.name == d.name) = true) (hYw : ∀ (w : World) (h : Heap), YP w h → (K w.params).In h)
    (Fw : ∀ (w : World) (mg : Str → Option Value) (fa : Addr) (h : Heap), YP w h → (K w.params).In h → h.Ns mainGlobals mg → mg d.name = some (.ref fa) → OwnTab (K w.params) fa h → LawAtG l w (K w.params) k n x mg fa h) :
    PySem.W.WalkO pq loose XP YP l.row.toRowW d [] (fun f vs => PySem.call f vs) := by
  refine Att.attach_callB hN hDfl fun w s₀ s₁ mg mb fa o pm cd doc la vs nums G Y ho hd hcd hmg hobj hints hlen hbits hg => ?_
  have KIn := hYw w _ Y
  have tabE : OwnTab (K w.params) fa s₁.heap := fun c P oz fz e dd vz sl l1 l2 l3 l4 l5 => by
    obtain ⟨dl, hM, n1⟩ := List.any_eq_true.mp hRec
    have n2 : dl.name = d.name := beq_iff_eq.mp n1
    obtain ⟨a', o', fd', c', P', r1, r2, r3, r4, r5, r6⟩ := G.T.tab dl hM
    rw [n2, hmg] at r1
    cases r1
    have f1 := KIn _ _ l1
    rw [f1] at r2
    cases r2
    rw [l2] at r3
    cases r3
    rw [l3] at r4
    cases r4
    obtain ⟨⟨oc, vc, i1, _, i3, i4⟩, hTab⟩ := r6
    have f2 := KIn _ _ l4
    rw [f2] at i1
    cases i1
    cases i3
    rw [l5] at i4
    cases i4
    exact hTab
  obtain ⟨fd, tabs, sp, hT, nT, C, hbd, hsp, hF⟩ := Fw w mg fa _ Y KIn G.T.g hmg tabE
  exact law_callG KIn G.T.g G.T.b G.T.builtins G.T.nolimit hg hT nT C G.T.bmain hobj hints (Nat.le_trans hlen n2) hRm hF hbd (fun HA hH hS => hsp HA la nums hlen hbits hH hS)
end FP
set_option maxHeartbeats 4000000
/-! the tables of code objects of the defs that hold a lambda -/
namespace FP
open PySem PySem.Spec PyProof.Rows L2 LamX
/-- the table of the def at f, as K tells it -/
def tabOf (K : PySem.W.Frag) (f : Addr) : Option Addr := match K.lookup f with
  | some ⟨_, _, .func fd, _⟩ => (match fd.code with
    | .ref c => (match K.lookup c with
      | some ⟨_, _, .fields vs, _⟩ => (match (vs[11]? : Option Value) with
        | some (Value.ref P) => some P
        | _ => none)
      | _ => none)
    | _ => none)
  | _ => none
def TabsAt (q : Program) (mg : Str → Option Value) (h : Heap) : Prop := ∀ d ∈ recsOf q, ∃ a o fd c P, mg d.name = some (.ref a) ∧ h.get? a = some o ∧ o.data = .func fd ∧ fd.code = .ref c ∧ h.IsCode c P #[] ∧ h.TableAt c P #[]
theorem def_tab {q : Program} {K : PySem.W.Frag} {mg : Str → Option Value} {h : Heap} {x : Str} {st : Stmt} {f : Addr} {fd : FuncData} (T : TabsAt q mg h) (KIn : K.In h) (D : C8.Def K mg x st f fd) (hx : ((recsOf q).any fun e => e.name == x) = true) :
    ∃ c P, fd.code = .ref c ∧ PySem.W.CodeHd h c P ∧ h.get? P = some { cls := .none, data := .fields #[] } ∧ tabOf K f = some P := by
  obtain ⟨dl, hm, n1⟩ := List.any_eq_true.mp hx
  have n2 : dl.name = x := beq_iff_eq.mp n1
  obtain ⟨a, o, fd', c, P, r1, r2, r3, r4, r5, r6⟩ := T dl hm
  rw [n2, D.mgf] at r1
  cases r1
  obtain ⟨oc, od, dV, kV, doc, pm, an, cdv, ct, osl, rfl, lk, hcd⟩ := D.fn.ex
  have f1 := KIn _ _ lk
  rw [f1] at r2
  cases r2
  cases r3
  cases (show cdv = .ref c from r4)
  refine ⟨c, P, rfl, PySem.W.CodeHd.of r5 r6, r6.2, ?_⟩
  obtain ⟨⟨oo, vs, i1, _, i3, i4⟩, _⟩ := r6
  unfold PySem.W.codeIn at hcd
  dsimp only at hcd
  cases hl : K.lookup c with
  | none => rw [hl] at hcd; cases hcd
  | some ob =>
    obtain ⟨b1, b2, b3, b4⟩ := ob
    have g := KIn _ _ hl
    rw [g] at i1
    cases i1
    cases (show b3 = .fields vs from i3)
    unfold tabOf
    rw [lk]
    simp only [PySem.W.fnOf]
    rw [hl]
    simp only
    rw [i4]
/-- the end, the tables of all defs told -/
theorem walk_tabsG {l : PySem.W.OpenLaw} {n k : Nat} {q : Program} {loose : List Str} {XP : (Str → Option Value) → Heap → Prop} {YP : World → Heap → Prop} {d : DefRec} {K : Params → PySem.W.Frag} {x : Str}
    (hn : l.most = some n) (hn2 : n ≤ sizeLine) (hdf : d.params.defaults = []) (hr : Room k callerA) (hY : ∀ (w : World) (h : Heap), YP w h → (K w.params).In h)
    (F : ∀ (w : World) (mg : Str → Option Value) (fa : Addr) (h : Heap), YP w h → (K w.params).In h → h.Ns mainGlobals mg → mg d.name = some (.ref fa) → TabsAt q mg h → LawAtG l w (K w.params) k n x mg fa h) :
    PySem.W.WalkO q loose XP YP l.row.toRowW d [] (fun f vs => PySem.call f vs) := by
  refine Att.attach_callB hn hdf fun w s0 s1 mg mb fa o pm cd doc la vs nums G Y ho hd hcd hmg hobj hints hlen hbits hg => ?_
  have KX := hY w _ Y
  obtain ⟨fd, tabs, sp, hT, nT, C, hb, hsp, hF⟩ := F w mg fa _ Y KX G.T.g hmg G.T.tab
  exact law_callG KX G.T.g G.T.b G.T.builtins G.T.nolimit hg hT nT C G.T.bmain hobj hints (Nat.le_trans hlen hn2) hr hF hb (fun HA hH hS => hsp HA la nums hlen hbits hH hS)
end FP
set_option maxHeartbeats 4000000
/-! the plain law: drawn values -/
namespace FP
open PySem PySem.Spec PyProof.Rows L2
inductive Dt : Nat → PyData → Prop
  | rat {n : Nat} {d : PyData} {t b : Int} : ratioOf d = some (t, b) → t.natAbs < 10 ^ 40 → b ≤ 10 ^ 40 → Dt n d
  | tup {n : Nat} {ds : List PyData} : ratioOf (.tuple ds) = none → ds.length ≤ 3 → (∀ e, e ∈ ds → Dt n e) → Dt (n + 1) (.tuple ds)
theorem Dt.up {n : Nat} {d : PyData} (h : Dt n d) : Dt (n + 1) d := by
  induction h with
  | rat h1 h2 h3 => exact .rat h1 h2 h3
  | tup h1 h2 h3 ih => exact .tup h1 h2 ih
theorem Dt.int {n : Nat} {i : Int} (h : Dt n (.int i)) : i.natAbs < 10 ^ 40 := by
  cases h with
  | rat h1 h2 h3 =>
    rcases ratio_some h1 with ⟨e, _⟩ | ⟨e, _⟩
    · cases e; exact h2
    · cases e
theorem Dv.dt : ∀ {n : Nat} {d : PyData}, Dv n d → Dt n d
  | 0, d, ⟨t, b, h1, h2, h3⟩ => .rat h1 h2 h3
  | n + 1, d, .inl ⟨t, b, h1, h2, h3⟩ => .rat h1 h2 h3
  | n + 1, d, .inr ⟨ds, e, hl, h⟩ => by
    have ih : ∀ x, x ∈ ds → Dt n x := fun x hx => Dv.dt (h x hx)
    subst e
    cases hr : ratioOf (.tuple ds) with
    | none => exact .tup hr hl ih
    | some p =>
      obtain ⟨t, b⟩ := p
      rcases ratio_some hr with ⟨e, _⟩ | ⟨e, b1, _⟩
      · cases e
      · cases e
        have h1 := (ih (.int t) List.mem_cons_self).int
        have h2 := (ih (.int b) (List.mem_cons_of_mem _ List.mem_cons_self)).int
        exact .rat hr h1 (by have : b.natAbs < 10 ^ 40 := h2; omega)
theorem Dt.small {t b : Int} (h1 : t.natAbs < 10 ^ 40) (h2 : b ≤ 10 ^ 40) : smallB t b = true := by
  have e : (10 : Int) ^ 40 < M400 := by decide +kernel
  unfold smallB
  rw [decide_eq_true (show (t.natAbs : Int) < M400 by omega), decide_eq_true (show b < M400 by omega)]
  rfl
theorem Dt.tw {n : Nat} {d : PyData} (h : Dt n d) : Tw n d := by
  induction h with
  | rat h1 h2 h3 => exact .rat h1 (Dt.small h2 h3)
  | tup h1 h2 h3 ih => exact .tup h1 ih (by omega)
theorem Dt.pl {n : Nat} {d : PyData} (h : Dt n d) : plB n d = true := by
  induction h with
  | rat h1 h2 h3 => rw [plB_ratio h1]; exact Dt.small h2 h3
  | @tup n ds h1 h2 h3 ih =>
    rw [plB.eq_def]
    show (match ratioOf (.tuple ds) with | some (t, b) => _ | none => _) = _
    rw [h1]
    exact List.all_eq_true.mpr ih
theorem leaf_int {i : Int} : leaf (.int i) := ⟨fun _ z => (nomatch z), fun _ z => (nomatch z)⟩
theorem Dt.fine {n : Nat} {d : PyData} (h : Dt n d) : fine (n + 1) d := by
  induction h with
  | @rat n d t b h1 h2 h3 =>
    rcases ratio_some h1 with ⟨rfl, _⟩ | ⟨rfl, _⟩
    · exact .inl leaf_int
    · refine .inr ⟨_, .inr rfl, by show 2 ≤ 100; decide, fun e he => ?_⟩
      have : ∃ i, e = .int i := by
        rcases List.mem_cons.mp he with h | he
        · exact ⟨_, h⟩
        · exact ⟨_, List.mem_singleton.mp he⟩
      obtain ⟨i, rfl⟩ := this
      cases n with
      | zero => exact leaf_int
      | succ m => exact .inl leaf_int
  | tup h1 h2 h3 ih => exact .inr ⟨_, .inr rfl, by omega, ih⟩
theorem Dt.fl {n : Nat} {d : PyData} (h : Dt n d) : Fl (n + 1) d := by
  induction h with
  | @rat n d t b h1 h2 h3 =>
    rcases ratio_some h1 with ⟨rfl, _⟩ | ⟨rfl, _⟩
    · exact .int _
    · refine .tup (fun e he => ?_) (by show 2 ≤ 1000; decide)
      rcases List.mem_cons.mp he with h | he
      · rw [h]; exact .int _
      · rw [List.mem_singleton.mp he]; exact .int _
  | tup h1 h2 h3 ih => exact .tup ih (by omega)
theorem asTup_of : ∀ {n : Nat} {d : PyData}, Nol d → asTup n d = d
  | 0, d, _ => by cases d <;> rfl
  | n + 1, .none, _ => rfl
  | n + 1, .bool _, _ => rfl
  | n + 1, .int _, _ => rfl
  | n + 1, .str _, _ => rfl
  | n + 1, .tuple ds, .tup h => by
    show PyData.tuple (ds.map (asTup n)) = .tuple ds
    congr 1
    conv => rhs; rw [← List.map_id ds]
    exact List.map_congr_left fun e he => asTup_of (h e he)
end FP
set_option maxHeartbeats 4000000
/-! the plain law: tokens and texts -/
namespace FP
open PySem PySem.Spec PyProof.Rows L2
def Symt (t : List Nat) : Prop := ∃ c, t = [c] ∧ c ≠ 32 ∧ c ∉ figL ∧ c ∉ letL
def Gtok (t : List Nat) : Prop := Symt t ∨ (t ≠ [] ∧ ∀ x, x ∈ t → x ∈ figL) ∨ (t ≠ [] ∧ ∀ x, x ∈ t → x ∈ letL)
theorem Toks.add {t r : List Nat} {ts : List (List Nat)} (g : Gtok t) (h : Toks r ts) (hh : Symt t ∨ ∀ x, r.head? = some x → x ∉ figL ∧ x ∉ letL) : Toks (t ++ r) (t :: ts) := by
  rcases g with ⟨c, rfl, h1, h2, h3⟩ | ⟨hn, hf⟩ | ⟨hn, hf⟩
  · exact .one h1 h2 h3 h
  · cases t with
    | nil => exact absurd rfl hn
    | cons c w =>
      rcases hh with ⟨c', e, _, h2, _⟩ | hh
      · cases e
        exact absurd (hf c List.mem_cons_self) h2
      · exact .fig hf (fun x hx => (hh x hx).1) h
  · cases t with
    | nil => exact absurd rfl hn
    | cons c w =>
      rcases hh with ⟨c', e, _, _, h3⟩ | hh
      · cases e
        exact absurd (hf c List.mem_cons_self) h3
      · exact .ltr hf (fun x hx => (hh x hx).2) h
theorem Toks.blanks {ts : List (List Nat)} : ∀ {S r : List Nat}, (∀ x, x ∈ S → x = 32) → Toks r ts → Toks (S ++ r) ts
  | [], _, _, h => h
  | x :: S, r, hS, h => by
    have e : x = 32 := hS x List.mem_cons_self
    subst e
    exact .sp (Toks.blanks (fun y hy => hS y (List.mem_cons_of_mem _ hy)) h)
theorem blank_hd {x : Nat} (h : x = 32) : x ∉ figL ∧ x ∉ letL := by subst h; decide
theorem blanks_hd {S r : List Nat} (hn : S ≠ []) (hS : ∀ x, x ∈ S → x = 32) : ∀ x, (S ++ r).head? = some x → x ∉ figL ∧ x ∉ letL := fun x hx => by
  cases S with
  | nil => exact absurd rfl hn
  | cons y S => rw [← (Option.some.inj hx : y = x)]; exact blank_hd (hS y List.mem_cons_self)
/-- tokens with blanks between -/
theorem toks_join {S suf : List Nat} (hn : S ≠ []) (hS : ∀ x, x ∈ S → x = 32) (hu : ∀ x, x ∈ suf → x = 32) : ∀ {ts : List (List Nat)}, (∀ t, t ∈ ts → Gtok t) → Toks (TL.joinL S ts ++ suf) ts
  | [], _ => by
    have := Toks.blanks (ts := []) (r := []) hu .nil
    rw [List.append_nil] at this
    exact this
  | [p], h => by
    show Toks (p ++ suf) [p]
    have b := Toks.blanks (ts := []) (r := []) hu .nil
    rw [List.append_nil] at b
    refine .add (h p List.mem_cons_self) b (.inr fun x hx => ?_)
    cases suf with
    | nil => cases hx
    | cons y s => rw [← (Option.some.inj hx : y = x)]; exact blank_hd (hu y List.mem_cons_self)
  | p :: q :: r, h => by
    show Toks ((p ++ (S ++ TL.joinL S (q :: r))) ++ suf) (p :: q :: r)
    rw [List.append_assoc, List.append_assoc]
    exact .add (h p List.mem_cons_self) (Toks.blanks hS (toks_join hn hS hu fun t ht => h t (List.mem_cons_of_mem _ ht))) (.inr (blanks_hd hn hS))
/-! ### the text without blanks -/
def Sep : List (List Nat) → Prop
  | t :: u :: r => (Symt t ∨ Symt u) ∧ Sep (u :: r)
  | _ => True
theorem Sep.cons {c : List Nat} (hc : Symt c) : ∀ {y : List (List Nat)}, Sep y → Sep (c :: y)
  | [], _ => trivial
  | _ :: _, h => ⟨.inl hc, h⟩
theorem Sep.app {c : List Nat} {y : List (List Nat)} (hc : Symt c) (hy : Sep (c :: y)) : ∀ {x : List (List Nat)}, Sep x → Sep (x ++ c :: y)
  | [], _ => hy
  | [t], _ => ⟨.inr hc, hy⟩
  | t :: u :: r, h => ⟨h.1, Sep.app hc hy (x := u :: r) h.2⟩
theorem toks_txt : ∀ {ts : List (List Nat)}, (∀ t, t ∈ ts → Gtok t) → Sep ts → Toks (txtT ts) ts
  | [], _, _ => .nil
  | [t], h, _ => by
    show Toks (t ++ ((if t = [44] ∧ ([] : List (List Nat)).head? ≠ some [41] then [32] else []) ++ [])) [t]
    refine .add (h t List.mem_cons_self) (.blanks (fun x hx => ?_) .nil) ?_
    · split at hx
      · exact List.mem_singleton.mp hx
      · cases hx
    · by_cases e : t = [44]
      · exact .inl ⟨44, e, by decide, by decide, by decide⟩
      · rw [if_neg (fun z => e z.1)]
        exact .inr fun x hx => nomatch hx
  | t :: u :: r, h, s => by
    show Toks (t ++ ((if t = [44] ∧ (u :: r).head? ≠ some [41] then [32] else []) ++ txtT (u :: r))) (t :: u :: r)
    have ih := toks_txt (ts := u :: r) (fun x hx => h x (List.mem_cons_of_mem _ hx)) s.2
    refine .add (h t List.mem_cons_self) (.blanks (fun x hx => ?_) ih) ?_
    · split at hx
      · exact List.mem_singleton.mp hx
      · cases hx
    · rcases s.1 with z | ⟨c, rfl, h1, h2, h3⟩
      · exact .inl z
      · by_cases e : t = [44]
        · exact .inl ⟨44, e, by decide, by decide, by decide⟩
        · rw [if_neg (fun z => e z.1)]
          refine .inr fun x hx => ?_
          cases hx
          exact ⟨h2, h3⟩
theorem txtT_app {y : List (List Nat)} : ∀ {x : List (List Nat)}, x.getLast? ≠ some [44] → txtT (x ++ y) = txtT x ++ txtT y
  | [], _ => rfl
  | [t], h => by
    have ht : ¬ t = [44] := fun e => h (by rw [e]; rfl)
    show t ++ ((if t = [44] ∧ y.head? ≠ some [41] then [32] else []) ++ txtT y) = (t ++ ((if t = [44] ∧ _ then [32] else []) ++ [])) ++ txtT y
    rw [if_neg (fun z => ht z.1), if_neg (fun z => ht z.1)]
    simp
  | t :: u :: r, h => by
    have ih := txtT_app (y := y) (x := u :: r) (by rw [List.getLast?_cons_cons] at h; exact h)
    show t ++ ((if t = [44] ∧ (u :: r).head? ≠ some [41] then [32] else []) ++ txtT ((u :: r) ++ y)) = (t ++ ((if t = [44] ∧ (u :: r).head? ≠ some [41] then [32] else []) ++ txtT (u :: r))) ++ txtT y
    rw [ih, List.append_assoc, List.append_assoc]
end FP
set_option maxHeartbeats 4000000
/-! the plain law: the tokens of a drawn value -/
namespace FP
open PySem PySem.Spec PyProof.Rows L2
theorem numL_fig {n x : Nat} (h : x ∈ TL.numL n) : x ∈ figL := by
  have h1 : ¬ (x < 48 ∨ 57 < x) := fun z => TL.numL_free z h
  have : x = 48 ∨ x = 49 ∨ x = 50 ∨ x = 51 ∨ x = 52 ∨ x = 53 ∨ x = 54 ∨ x = 55 ∨ x = 56 ∨ x = 57 := by omega
  rcases this with h | h | h | h | h | h | h | h | h | h <;> subst h <;> decide
theorem numL_g (n : Nat) : Gtok (TL.numL n) := .inr (.inl ⟨TL.numL_ne n, fun _ h => numL_fig h⟩)
theorem numL_hd : ∀ (k n : Nat), n ≤ k → 0 < n → (TL.numL n).head? ≠ some 48 := by
  intro k
  induction k with
  | zero => intro n h1 h2; omega
  | succ k ih =>
    intro n h1 h2
    by_cases h : n < 10
    · rw [TL.numL_lt h]
      intro z
      have : 48 + n = 48 := Option.some.inj z
      omega
    · rw [TL.numL_step (by omega)]
      have := ih (n / 10) (by omega) (by omega)
      cases e : TL.numL (n / 10) with
      | nil => exact absurd e (TL.numL_ne _)
      | cons c w => rw [e] at this; exact this
theorem numL_num {n : Nat} (h : (TL.numL n).length ≤ 400) : isNum (TL.numL n) = true := by
  unfold isNum
  rw [decide_eq_true (TL.numL_ne n), decide_eq_true h, (List.all_eq_true.mpr fun c hc => decide_eq_true (numL_fig hc) : (TL.numL n).all (fun c => decide (c ∈ figL)) = true)]
  by_cases h0 : n = 0
  · subst h0; rfl
  · rw [decide_eq_true (numL_hd n n (Nat.le_refl _) (by omega)), Bool.or_true]; rfl
theorem numL_not {n : Nat} {t : Nat} (h : t ∉ figL) : TL.numL n ≠ [t] := fun e => h (numL_fig (n := n) (by rw [e]; exact List.mem_cons_self))
theorem sy40 : Symt [40] := ⟨40, rfl, by decide, by decide, by decide⟩
theorem sy41 : Symt [41] := ⟨41, rfl, by decide, by decide, by decide⟩
theorem sy44 : Symt [44] := ⟨44, rfl, by decide, by decide, by decide⟩
theorem sy45 : Symt [45] := ⟨45, rfl, by decide, by decide, by decide⟩
theorem sy47 : Symt [47] := ⟨47, rfl, by decide, by decide, by decide⟩
/-- what the tokens of a value are like -/
structure TkO (N : Nat) (ts : List (List Nat)) : Prop where
  good : ∀ t, t ∈ ts → Gtok t ∧ t.length ≤ 41
  sep : Sep ts
  ne : ts ≠ []
  hd : ts.head? ≠ some [41]
  lst : ts.getLast? ≠ some [44]
  few : ts.length ≤ 6 * 4 ^ N
  deep : 2 * ts.count [40] + 1 ≤ 3 ^ N
theorem tkO_rat {N : Nat} {t b : Int} (h1 : t.natAbs < 10 ^ 40) (h2 : b ≤ 10 ^ 40) (h3 : 0 < b) : TkO N (ratT t b) := by
  have l1 : (TL.numL t.natAbs).length ≤ 41 := TL.numL_len (by decide) (by omega)
  have l2 : (TL.numL b.natAbs).length ≤ 41 := TL.numL_len (by decide) (by omega)
  have g45 : Gtok [45] ∧ [45].length ≤ 41 := ⟨.inl sy45, by decide⟩
  have g47 : Gtok [47] ∧ [47].length ≤ 41 := ⟨.inl sy47, by decide⟩
  have gt : Gtok (TL.numL t.natAbs) ∧ (TL.numL t.natAbs).length ≤ 41 := ⟨numL_g _, l1⟩
  have gb : Gtok (TL.numL b.natAbs) ∧ (TL.numL b.natAbs).length ≤ 41 := ⟨numL_g _, l2⟩
  have p4 : 0 < 4 ^ N := Nat.pow_pos (by decide)
  have p3 : 0 < 3 ^ N := Nat.pow_pos (by decide)
  have n41 : TL.numL t.natAbs ≠ [41] := numL_not (by decide)
  have n44 : TL.numL t.natAbs ≠ [44] := numL_not (by decide)
  have m44 : TL.numL b.natAbs ≠ [44] := numL_not (by decide)
  have n40 : TL.numL t.natAbs ≠ [40] := numL_not (by decide)
  have m40 : TL.numL b.natAbs ≠ [40] := numL_not (by decide)
  unfold ratT
  by_cases c1 : t < 0 <;> by_cases c2 : b = 1
  all_goals first | rw [if_pos c1] | rw [if_neg c1]
  all_goals first | rw [if_pos c2] | rw [if_neg c2]
  · refine ⟨?_, ?_, by simp, by simp, by simpa using n44, by simp; omega, by simp [List.count_cons, n40]; omega⟩
    · intro x hx
      simp at hx
      rcases hx with rfl | rfl
      · exact g45
      · exact gt
    · exact Sep.cons sy45 trivial
  · refine ⟨?_, ?_, by simp, by simp, by simpa using m44, by simp; omega, by simp [List.count_cons, n40, m40]; omega⟩
    · intro x hx
      simp at hx
      rcases hx with rfl | rfl | rfl | rfl
      · exact g45
      · exact gt
      · exact g47
      · exact gb
    · exact Sep.cons sy45 ⟨.inr sy47, Sep.cons sy47 trivial⟩
  · refine ⟨?_, ?_, by simp, by simpa using n41, by simpa using n44, by simp; omega, by simp [List.count_cons, n40]; omega⟩
    · intro x hx
      simp at hx
      subst hx
      exact gt
    · exact trivial
  · refine ⟨?_, ?_, by simp, by simpa using n41, by simpa using m44, by simp; omega, by simp [List.count_cons, n40, m40]; omega⟩
    · intro x hx
      simp at hx
      rcases hx with rfl | rfl | rfl
      · exact gt
      · exact g47
      · exact gb
    · exact ⟨.inr sy47, Sep.cons sy47 trivial⟩
theorem sepT_all {t : List Nat} : ∀ {L : List (List (List Nat))} {b : Bool}, t ∈ sepT b L → t = [44] ∨ ∃ x, x ∈ L ∧ t ∈ x
  | [], _, h => nomatch h
  | x :: r, b, h => by
    have h : t ∈ (if b then [] else [[44]]) ++ x ++ sepT false r := h
    rcases List.mem_append.mp h with h | h
    · rcases List.mem_append.mp h with h | h
      · cases b with
        | true => exact nomatch h
        | false => exact .inl (List.mem_singleton.mp h)
      · exact .inr ⟨x, List.mem_cons_self, h⟩
    · rcases sepT_all h with h | ⟨y, hy, h⟩
      · exact .inl h
      · exact .inr ⟨y, List.mem_cons_of_mem _ hy, h⟩
theorem sepT_sep {c : List Nat} {y : List (List Nat)} (hc : Symt c) (hy : Sep (c :: y)) : ∀ {L : List (List (List Nat))}, (∀ x, x ∈ L → Sep x) → Sep (sepT false L ++ c :: y)
  | [], _ => hy
  | x :: r, h => by
    show Sep ([44] :: x ++ sepT false r ++ c :: y)
    have ih := sepT_sep hc hy (L := r) fun z hz => h z (List.mem_cons_of_mem _ hz)
    have hx := h x List.mem_cons_self
    rw [List.append_assoc]
    refine Sep.cons sy44 ?_
    cases r with
    | nil => exact Sep.app hc hy hx
    | cons z r => exact Sep.app (c := [44]) (y := z ++ sepT false r ++ c :: y) sy44 ih hx
theorem sepT_sep1 {c : List Nat} {y : List (List Nat)} (hc : Symt c) (hy : Sep (c :: y)) : ∀ {L : List (List (List Nat))}, (∀ x, x ∈ L → Sep x) → Sep (sepT true L ++ c :: y)
  | [], _ => hy
  | x :: r, h => by
    show Sep (x ++ sepT false r ++ c :: y)
    have ih := sepT_sep hc hy (L := r) fun z hz => h z (List.mem_cons_of_mem _ hz)
    have hx := h x List.mem_cons_self
    rw [List.append_assoc]
    cases r with
    | nil => exact Sep.app hc hy hx
    | cons z r => exact Sep.app (c := [44]) (y := z ++ sepT false r ++ c :: y) sy44 ih hx
theorem sepT_few {M : Nat} : ∀ {L : List (List (List Nat))} {b : Bool}, (∀ x, x ∈ L → x.length ≤ M) → (sepT b L).length ≤ L.length * (M + 1)
  | [], _, _ => Nat.zero_le _
  | x :: r, b, h => by
    have ih := sepT_few (b := false) (L := r) fun z hz => h z (List.mem_cons_of_mem _ hz)
    have hx := h x List.mem_cons_self
    show ((if b then [] else [[44]]) ++ x ++ sepT false r).length ≤ (r.length + 1) * (M + 1)
    rw [List.length_append, List.length_append, Nat.succ_mul]
    have : (if b then [] else [[44]] : List (List Nat)).length ≤ 1 := by cases b <;> decide
    omega
theorem sepT_count {M : Nat} : ∀ {L : List (List (List Nat))} {b : Bool}, (∀ x, x ∈ L → x.count [40] ≤ M) → (sepT b L).count [40] ≤ L.length * M
  | [], _, _ => Nat.zero_le _
  | x :: r, b, h => by
    have ih := sepT_count (b := false) (L := r) fun z hz => h z (List.mem_cons_of_mem _ hz)
    have hx := h x List.mem_cons_self
    show ((if b then [] else [[44]]) ++ x ++ sepT false r).count [40] ≤ (r.length + 1) * M
    rw [List.count_append, List.count_append, Nat.succ_mul]
    have : (if b then [] else [[44]] : List (List Nat)).count [40] = 0 := by cases b <;> decide
    omega
theorem Dt.tks {n : Nat} {d : PyData} (h : Dt n d) : TkO n (tokV n d) := by
  induction h with
  | @rat n d t b h1 h2 h3 =>
    rw [tokV_rat h1]
    exact tkO_rat h2 h3 (by rcases ratio_some h1 with ⟨_, e⟩ | ⟨_, e, _⟩ <;> omega)
  | @tup n ds h1 h2 h3 ih =>
    rw [tokV_tup h1]
    have hL : ∀ x, x ∈ ds.map (tokV n) → TkO n x := fun x hx => by
      obtain ⟨e, he, rfl⟩ := List.mem_map.mp hx
      exact ih e he
    have f1 := sepT_few (b := true) (L := ds.map (tokV n)) fun x hx => (hL x hx).few
    have f2 := sepT_count (M := (3 ^ n - 1) / 2) (b := true) (L := ds.map (tokV n)) fun x hx => by have := (hL x hx).deep; omega
    rw [List.length_map] at f1 f2
    have p4 : 0 < 4 ^ n := Nat.pow_pos (by decide)
    have p3 : 0 < 3 ^ n := Nat.pow_pos (by decide)
    refine ⟨?_, ?_, by simp, by simp, ?_, ?_, ?_⟩
    · intro t ht
      rcases List.mem_cons.mp ht with rfl | ht
      · exact ⟨.inl sy40, by decide⟩
      · rcases List.mem_append.mp ht with ht | ht
        · rcases sepT_all ht with rfl | ⟨x, hx, ht⟩
          · exact ⟨.inl sy44, by decide⟩
          · exact (hL x hx).good t ht
        · rcases List.mem_append.mp ht with ht | ht
          · split at ht
            · rw [List.mem_singleton.mp ht]; exact ⟨.inl sy44, by decide⟩
            · cases ht
          · rw [List.mem_singleton.mp ht]; exact ⟨.inl sy41, by decide⟩
    · refine Sep.cons sy40 ?_
      by_cases c : ds.length = 1
      · rw [if_pos c]
        exact sepT_sep1 (y := [[41]]) sy44 ⟨.inl sy44, trivial⟩ fun x hx => (hL x hx).sep
      · rw [if_neg c]
        exact sepT_sep1 (y := []) sy41 trivial fun x hx => (hL x hx).sep
    · rw [← List.append_assoc, ← List.cons_append, List.getLast?_concat]
      simp
    · have c1 : (if ds.length = 1 then [[44]] else [] : List (List Nat)).length ≤ 1 := by split <;> decide
      have c2 : ds.length * (6 * 4 ^ n + 1) ≤ 3 * (6 * 4 ^ n + 1) := Nat.mul_le_mul_right _ h2
      simp only [List.length_cons, List.length_append, List.length_nil]
      rw [Nat.pow_succ]
      omega
    · have c1 : (if ds.length = 1 then [[44]] else [] : List (List Nat)).count [40] = 0 := by split <;> decide
      have c2 : ds.length * ((3 ^ n - 1) / 2) ≤ 3 * ((3 ^ n - 1) / 2) := Nat.mul_le_mul_right _ h2
      have c3 : ([[41]] : List (List Nat)).count [40] = 0 := by decide
      rw [List.count_cons, List.count_append, List.count_append, c1, c3, if_pos (by decide), Nat.pow_succ]
      omega
end FP
set_option maxHeartbeats 4000000
/-! the plain law: the text of a drawn value -/
namespace FP
open PySem PySem.Spec PyProof.Rows L2
theorem txtT_1 {t : List Nat} {r : List (List Nat)} (h : t ≠ [44]) : txtT (t :: r) = t ++ txtT r := by
  show t ++ ((if t = [44] ∧ r.head? ≠ some [41] then [32] else []) ++ txtT r) = _
  rw [if_neg (fun z => h z.1)]; rfl
theorem txtT_c {r : List (List Nat)} (h : r.head? ≠ some [41]) : txtT ([44] :: r) = 44 :: 32 :: txtT r := by
  show [44] ++ ((if [44] = [44] ∧ r.head? ≠ some [41] then [32] else []) ++ txtT r) = _
  rw [if_pos ⟨rfl, h⟩]; rfl
theorem txtT_ce {r : List (List Nat)} : txtT ([44] :: [41] :: r) = 44 :: 41 :: txtT r := by
  show [44] ++ ((if [44] = [44] ∧ ([41] :: r).head? ≠ some [41] then [32] else []) ++ txtT ([41] :: r)) = _
  rw [if_neg (fun z => z.2 rfl), txtT_1 (by decide)]; rfl
theorem hd_app {x y : List (List Nat)} (h1 : x ≠ []) (h2 : x.head? ≠ some [41]) : (x ++ y).head? ≠ some [41] := by
  cases x with
  | nil => exact absurd rfl h1
  | cons a r => exact h2
def cm (x : List Nat) : List Nat := 44 :: 32 :: x
theorem txt_sep {N : Nat} : ∀ {L : List (List (List Nat))}, (∀ x, x ∈ L → TkO N x) → txtT (sepT false L ++ [[41]]) = (L.map fun x => cm (txtT x)).flatten ++ [41]
  | [], _ => by rw [show sepT false [] ++ [[41]] = [[41]] from rfl, txtT_1 (by decide)]; rfl
  | x :: r, h => by
    have hx := h x List.mem_cons_self
    have ih := txt_sep (L := r) fun z hz => h z (List.mem_cons_of_mem _ hz)
    have e : sepT false (x :: r) ++ [[41]] = [44] :: (x ++ (sepT false r ++ [[41]])) := by
      show ([[44]] ++ x ++ sepT false r) ++ [[41]] = _
      simp
    rw [e, txtT_c (hd_app hx.ne hx.hd), txtT_app hx.lst, ih]
    show _ = (cm (txtT x) ++ (r.map fun x => cm (txtT x)).flatten) ++ [41]
    unfold cm
    simp
theorem join_cm : ∀ {p : List Nat} {r : List (List Nat)}, TL.joinL [44, 32] (p :: r) = p ++ (r.map cm).flatten
  | p, [] => by show p = p ++ []; rw [List.append_nil]
  | p, q :: r => by
    show p ++ ([44, 32] ++ TL.joinL [44, 32] (q :: r)) = _
    rw [join_cm]
    show _ = p ++ (cm q ++ (r.map cm).flatten)
    unfold cm
    simp
theorem Dt.txt {n : Nat} {d : PyData} (h : Dt n d) : textV n d = txtT (tokV n d) := by
  induction h with
  | @rat n d t b h1 h2 h3 =>
    rw [tokV_rat h1, textV_rat h1]
    have n1 : TL.numL t.natAbs ≠ [44] := numL_not (by decide)
    have n2 : TL.numL b.natAbs ≠ [44] := numL_not (by decide)
    unfold ratT sizeL
    by_cases c1 : t < 0 <;> by_cases c2 : b = 1
    all_goals first | rw [if_pos c1, if_pos c1] | rw [if_neg c1, if_neg c1]
    all_goals first | rw [if_pos c2, if_pos c2] | rw [if_neg c2, if_neg c2]
    all_goals simp only [List.cons_append, List.nil_append, List.append_nil]
    · rw [txtT_1 (by decide), txtT_1 n1]; simp [txtT]
    · rw [txtT_1 (by decide), txtT_1 n1, txtT_1 (by decide), txtT_1 n2]; simp [txtT]
    · rw [txtT_1 n1]; simp [txtT]
    · rw [txtT_1 n1, txtT_1 (by decide), txtT_1 n2]; simp [txtT]
  | @tup n ds h1 h2 h3 ih =>
    rw [tokV_tup h1, txtT_1 (by decide)]
    have hT : ∀ x, x ∈ ds.map (tokV n) → TkO n x := fun x hx => by
      obtain ⟨e, he, rfl⟩ := List.mem_map.mp hx
      exact (h3 e he).tks
    match ds, h1, h2, h3, ih, hT with
    | [], h1, _, _, _, _ => 
      rw [textV_tup h1 (by decide)]
      rfl
    | [e], h1, _, h3, ih, _ =>
      rw [textV_one, ih e List.mem_cons_self, if_pos (show [e].length = 1 from rfl)]
      have t := (h3 e List.mem_cons_self).tks
      have ee : sepT true ([e].map (tokV n)) ++ ([[44]] ++ [[41]]) = tokV n e ++ [[44], [41]] := by simp [sepT]
      rw [ee, txtT_app t.lst, txtT_ce]
      rfl
    | e :: e2 :: r, h1, _, h3, ih, hT =>
      rw [textV_tup h1 (by simp), if_neg (by simp)]
      have t := (h3 e List.mem_cons_self).tks
      have ee : sepT true ((e :: e2 :: r).map (tokV n)) ++ ([] ++ [[41]]) = tokV n e ++ (sepT false ((e2 :: r).map (tokV n)) ++ [[41]]) := by
        show ([] ++ tokV n e ++ sepT false ((e2 :: r).map (tokV n))) ++ ([] ++ [[41]]) = _
        simp
      rw [ee, txtT_app t.lst, txt_sep (N := n) fun x hx => hT x (List.mem_cons_of_mem _ hx)]
      rw [show (e :: e2 :: r).map (textV n) = textV n e :: (e2 :: r).map (textV n) from rfl, join_cm, ih e List.mem_cons_self]
      have em : ((e2 :: r).map (textV n)).map cm = ((e2 :: r).map (tokV n)).map fun x => cm (txtT x) := by
        rw [List.map_map, List.map_map]
        refine List.map_congr_left fun x hx => ?_
        show cm (textV n x) = cm (txtT (tokV n x))
        rw [ih x (List.mem_cons_of_mem _ hx)]
      rw [em]
      simp
theorem txtT_len {M : Nat} : ∀ {ts : List (List Nat)}, (∀ t, t ∈ ts → t.length ≤ M) → (txtT ts).length ≤ ts.length * (M + 1)
  | [], _ => Nat.zero_le _
  | t :: r, h => by
    have ih := txtT_len (ts := r) fun z hz => h z (List.mem_cons_of_mem _ hz)
    have ht := h t List.mem_cons_self
    show (t ++ ((if t = [44] ∧ r.head? ≠ some [41] then [32] else []) ++ txtT r)).length ≤ (r.length + 1) * (M + 1)
    have : (if t = [44] ∧ r.head? ≠ some [41] then [32] else [] : List Nat).length ≤ 1 := by split <;> decide
    rw [List.length_append, List.length_append, Nat.succ_mul]
    omega
theorem TkO.comma {N : Nat} {ts : List (List Nat)} (h : TkO N ts) (i : Nat) (e : ts[i]? = some [44]) : i + 1 < ts.length := by
  have hi : i < ts.length := (List.getElem?_eq_some_iff.mp e).1
  by_cases z : i + 1 < ts.length
  · exact z
  · have : i = ts.length - 1 := by omega
    subst this
    exact absurd (by rw [List.getLast?_eq_getElem?]; exact e) h.lst
end FP
set_option maxHeartbeats 4000000
/-! the plain law: a drawn value's tokens are read back -/
namespace FP
open PySem PySem.Spec PyProof.Rows L2
theorem drop_1 {ts : List (List Nat)} {i : Nat} {a : List Nat} {r : List (List Nat)} (h : ts.drop i = a :: r) : tok ts i = a ∧ ts.drop (i + 1) = r := by
  have hi : i < ts.length := by
    by_cases z : i < ts.length
    · exact z
    · rw [List.drop_eq_nil_of_le (by omega)] at h; cases h
  have e := List.drop_eq_getElem_cons hi
  rw [h] at e
  injection e with e1 e2
  refine ⟨?_, e2.symm⟩
  unfold tok
  rw [List.getD_eq_getElem?_getD, List.getElem?_eq_getElem hi, ← e1]; rfl
theorem drop_n {ts : List (List Nat)} {i : Nat} {x r : List (List Nat)} (h : ts.drop i = x ++ r) : ts.drop (i + x.length) = r := by
  rw [← List.drop_drop, h, List.drop_left]
theorem tok_nh {ts : List (List Nat)} {i c : Nat} {r : List (List Nat)} (h : ts.drop i = r) (n : r.head? ≠ some [c]) : tok ts i ≠ [c] := by
  cases r with
  | nil =>
    have : ts.length ≤ i := List.drop_eq_nil_iff.mp h
    unfold tok
    rw [List.getD_eq_getElem?_getD, List.getElem?_eq_none this]
    intro z; cases z
  | cons a r =>
    rw [(drop_1 h).1]
    intro z
    exact n (by rw [z]; rfl)
theorem pvS_int {ts : List (List Nat)} {i n : Nat} {bl : Bool} {post : List (List Nat)} (h : ts.drop i = TL.numL n :: post) (hp : post.head? ≠ some [47]) (hl : (TL.numL n).length ≤ 400) (hz : bl = true → n ≠ 0) : pvS ts bl i = .ok (i + 1) (if bl = true then oppD (.int (n : Nat)) else .int (n : Nat)) := by
  obtain ⟨e1, e2⟩ := drop_1 h
  have e3 := tok_nh e2 hp
  have ev : numV (TL.numL n) = n := TL.numL_val n
  unfold pvS
  rw [e1, numL_num hl, ev, if_neg (by decide), if_neg (fun z => hz z.1 z.2), if_neg (fun z => e3 z.2)]
theorem pvS_rat {ts : List (List Nat)} {i n b : Nat} {bl : Bool} {post : List (List Nat)} (h : ts.drop i = TL.numL n :: [47] :: TL.numL b :: post) (hl : (TL.numL n).length ≤ 400) (hl2 : (TL.numL b).length ≤ 400) (hz : n ≠ 0) (hb : 1 < b) (g : Nat.gcd n b = 1) : pvS ts bl i = .ok (i + 3) (if bl = true then oppD (.tuple [.int (n : Nat), .int (b : Nat)]) else .tuple [.int (n : Nat), .int (b : Nat)]) := by
  obtain ⟨e1, h2⟩ := drop_1 h
  obtain ⟨e2, h3⟩ := drop_1 h2
  obtain ⟨e3, _⟩ := drop_1 h3
  have ev : numV (TL.numL n) = n := TL.numL_val n
  have ew : numV (TL.numL b) = b := TL.numL_val b
  have er : (ratioOf (.tuple [.int (n : Nat), .int (b : Nat)])).isSome = true := by
    rw [ratio_pair, if_pos ⟨by omega, by rw [Int.natAbs_natCast, Int.natAbs_natCast]; exact g⟩]; rfl
  unfold pvS
  rw [e1, e2, e3, numL_num hl, numL_num hl2, ev, ew, er, if_neg (by decide), if_neg (fun z => hz z.2), if_pos ⟨hz, rfl⟩, if_neg (by decide), if_neg (by decide)]
theorem pv_rat {ts : List (List Nat)} {i m : Nat} {d : PyData} {t b : Int} {post : List (List Nat)} (hr : ratioOf d = some (t, b)) (h1 : t.natAbs < 10 ^ 40) (h2 : b ≤ 10 ^ 40) (h : ts.drop i = ratT t b ++ post) (hp : post.head? ≠ some [47]) : PV ts m i (.ok (i + (ratT t b).length) d) := by
  have l1 : (TL.numL t.natAbs).length ≤ 400 := Nat.le_trans (TL.numL_len (k := 41) (by decide) (by omega)) (by decide)
  have b0 : 0 < b := by rcases ratio_some hr with ⟨_, e⟩ | ⟨_, e, _⟩ <;> omega
  have l2 : (TL.numL b.natAbs).length ≤ 400 := Nat.le_trans (TL.numL_len (k := 41) (by decide) (by omega)) (by decide)
  have key : tok ts i ≠ [40] ∧ (.ok (i + (ratT t b).length) d : Res) = pvR ts i := by
    rcases ratio_some hr with ⟨rfl, rfl⟩ | ⟨rfl, hb, g⟩
    · unfold ratT at h ⊢
      rw [if_pos rfl] at h ⊢
      by_cases c : t < 0
      · rw [if_pos c] at h ⊢
        obtain ⟨e1, h2⟩ := drop_1 (a := [45]) (r := TL.numL t.natAbs :: post) h
        refine ⟨by rw [e1]; decide, ?_⟩
        unfold pvR
        rw [if_pos e1, pvS_int h2 hp l1 (fun _ => by omega), if_pos rfl]
        show Res.ok (i + 2) _ = .ok (i + 1 + 1) (.int (-(t.natAbs : Nat)))
        congr 2
        omega
      · rw [if_neg c] at h ⊢
        obtain ⟨e1, _⟩ := drop_1 (a := TL.numL t.natAbs) (r := post) h
        refine ⟨by rw [e1]; exact numL_not (by decide), ?_⟩
        unfold pvR
        rw [if_neg (by rw [e1]; exact numL_not (by decide)), pvS_int (n := t.natAbs) (bl := false) h hp l1 (fun z => Bool.noConfusion z), if_neg (by decide)]
        show Res.ok (i + 1) _ = .ok (i + 1) (.int ((t.natAbs : Nat) : Int))
        congr 2
        omega
    · have hb2 : 1 < b.natAbs := by omega
      have t0 : t.natAbs ≠ 0 := fun z => by rw [z, Nat.gcd_zero_left] at g; omega
      have n1 : ¬ b = 1 := by omega
      unfold ratT at h ⊢
      rw [if_neg n1] at h ⊢
      by_cases c : t < 0
      · rw [if_pos c] at h ⊢
        obtain ⟨e1, h2⟩ := drop_1 (a := [45]) (r := TL.numL t.natAbs :: [47] :: TL.numL b.natAbs :: post) h
        refine ⟨by rw [e1]; decide, ?_⟩
        unfold pvR
        rw [if_pos e1, pvS_rat h2 l1 l2 t0 hb2 g, if_pos rfl]
        show Res.ok (i + 4) _ = .ok (i + 1 + 3) (.tuple [.int (-(t.natAbs : Nat)), .int (b.natAbs : Nat)])
        have q1 : t = -(t.natAbs : Int) := by omega
        have q2 : b = (b.natAbs : Int) := by omega
        rw [← q1, ← q2]
      · rw [if_neg c] at h ⊢
        obtain ⟨e1, _⟩ := drop_1 (a := TL.numL t.natAbs) (r := [47] :: TL.numL b.natAbs :: post) h
        refine ⟨by rw [e1]; exact numL_not (by decide), ?_⟩
        unfold pvR
        rw [if_neg (by rw [e1]; exact numL_not (by decide)), pvS_rat (n := t.natAbs) (b := b.natAbs) (post := post) h l1 l2 t0 hb2 g, if_neg (by decide)]
        show Res.ok (i + 3) _ = .ok (i + 3) (.tuple [.int (t.natAbs : Nat), .int (b.natAbs : Nat)])
        have q1 : t = (t.natAbs : Int) := by omega
        have q2 : b = (b.natAbs : Int) := by omega
        rw [← q1, ← q2]
  cases m with
  | zero => exact key
  | succ m => exact .inl key
end FP
set_option maxHeartbeats 4000000
/-! the plain law: a drawn value's tokens are read back: tuples -/
namespace FP
open PySem PySem.Spec PyProof.Rows L2
/-- reading at a place where the tokens x stand -/
def Rd (F : Nat → Res → Prop) (ts : List (List Nat)) (x : List (List Nat)) (d : PyData) : Prop := ∀ i post, ts.drop i = x ++ post → post.head? ≠ some [47] → F i (.ok (i + x.length) d)
theorem pn_rest {F : Nat → Res → Prop} {ts post : List (List Nat)} {g : PyData → List (List Nat)} : ∀ {L : List PyData} {b : Nat} {acc : List PyData}, (∀ d, d ∈ L → Rd F ts (g d) d) → ts.drop b = sepT false (L.map g) ++ [41] :: post → PN F ts L.length b acc (.ok (b + (sepT false (L.map g)).length + 1) (.tuple (acc ++ L)))
  | [], b, acc, _, h => by
    refine .inl ⟨(drop_1 h).1, ?_⟩
    show Res.ok (b + 0 + 1) (.tuple (acc ++ [])) = _
    rw [List.append_nil]
  | d :: L, b, acc, hF, h => by
    have e : sepT false ((d :: L).map g) = [44] :: (g d ++ sepT false (L.map g)) := by
      show [[44]] ++ g d ++ sepT false (L.map g) = _
      simp
    rw [e] at h ⊢
    obtain ⟨e1, h2⟩ := drop_1 (a := [44]) (r := (g d ++ sepT false (L.map g)) ++ [41] :: post) h
    rw [List.append_assoc] at h2
    have hd : (sepT false (L.map g) ++ [41] :: post).head? ≠ some [47] := by
      cases L with
      | nil => show some [41] ≠ _; intro z; cases z
      | cons x L => show some [44] ≠ _; intro z; cases z
    have f := hF d List.mem_cons_self (b + 1) _ h2 hd
    have ih := pn_rest (L := L) (acc := acc ++ [d]) (fun z hz => hF z (List.mem_cons_of_mem _ hz)) (drop_n h2)
    refine .inl ⟨e1, .inr ⟨_, d, f, ?_⟩⟩
    rw [List.append_assoc] at ih
    rw [show b + ([44] :: (g d ++ sepT false (L.map g))).length + 1 = b + 1 + (g d).length + (sepT false (L.map g)).length + 1 by simp only [List.length_cons, List.length_append]; omega]
    exact ih
theorem Dt.pv {n : Nat} {d : PyData} (h : Dt n d) : ∀ {m : Nat} {ts : List (List Nat)}, n ≤ m → Rd (PV ts m) ts (tokV n d) d := by
  induction h with
  | @rat n d t b h1 h2 h3 =>
    intro m ts _ i post h hp
    rw [tokV_rat h1] at h ⊢
    exact pv_rat h1 h2 h3 h hp
  | @tup n ds h1 h2 h3 ih =>
    intro m ts hm i post h hp
    cases m with
    | zero => omega
    | succ m =>
      have ih2 : ∀ d, d ∈ ds → Rd (PV ts m) ts (tokV n d) d := fun d hd => ih d hd (by omega)
      rw [tokV_tup h1] at h ⊢
      obtain ⟨e1, q1⟩ := drop_1 (a := [40]) (r := (sepT true (ds.map (tokV n)) ++ ((if ds.length = 1 then [[44]] else []) ++ [[41]])) ++ post) h
      refine .inr ⟨e1, ?_⟩
      match ds, h3, ih2, q1 with
      | [], _, _, q1 =>
        refine .inl ⟨(drop_1 (a := [41]) (r := post) q1).1, rfl⟩
      | [e], h3, ih2, q1 =>
        rw [if_pos (show [e].length = 1 from rfl)] at q1 ⊢
        have t := (h3 e List.mem_cons_self).tks
        have ee : (sepT true ([e].map (tokV n)) ++ ([[44]] ++ [[41]])) ++ post = tokV n e ++ [44] :: [41] :: post := by simp [sepT]
        have el : (sepT true ([e].map (tokV n)) ++ ([[44]] ++ [[41]])).length = (tokV n e).length + 2 := by simp [sepT]
        rw [ee] at q1
        have hne : tok ts (i + 1) ≠ [41] := by
          refine tok_nh q1 ?_
          exact hd_app t.ne t.hd
        have f := ih2 e List.mem_cons_self (i + 1) _ q1 (by intro z; cases z)
        obtain ⟨a1, q2⟩ := drop_1 (drop_n q1)
        obtain ⟨a2, _⟩ := drop_1 q2
        refine .inr ⟨hne, .inr ⟨_, e, f, .inr (.inl ⟨a1, a2, ?_⟩)⟩⟩
        rw [List.length_cons, el]
        congr 1
        omega
      | e :: e2 :: r, h3, ih2, q1 =>
        rw [if_neg (show ¬ (e :: e2 :: r).length = 1 by simp)] at q1 ⊢
        have t := (h3 e List.mem_cons_self).tks
        have t2 := (h3 e2 (List.mem_cons_of_mem _ List.mem_cons_self)).tks
        have eb : sepT true ((e :: e2 :: r).map (tokV n)) = tokV n e ++ ([44] :: (tokV n e2 ++ sepT false (r.map (tokV n)))) := by
          show [] ++ tokV n e ++ ([[44]] ++ tokV n e2 ++ sepT false (r.map (tokV n))) = _
          simp
        have ee : (sepT true ((e :: e2 :: r).map (tokV n)) ++ ([] ++ [[41]])) ++ post = tokV n e ++ ([44] :: (tokV n e2 ++ (sepT false (r.map (tokV n)) ++ [41] :: post))) := by rw [eb]; simp
        rw [ee] at q1
        have hne : tok ts (i + 1) ≠ [41] := by
          refine tok_nh q1 ?_
          exact hd_app t.ne t.hd
        have f := ih2 e List.mem_cons_self (i + 1) _ q1 (by intro z; cases z)
        obtain ⟨a1, q2⟩ := drop_1 (drop_n q1)
        have hne2 : tok ts (i + 1 + (tokV n e).length + 1) ≠ [41] := by
          refine tok_nh q2 ?_
          exact hd_app t2.ne t2.hd
        have hd3 : (sepT false (r.map (tokV n)) ++ [41] :: post).head? ≠ some [47] := by
          cases r with
          | nil => show some [41] ≠ _; intro z; cases z
          | cons x L => show some [44] ≠ _; intro z; cases z
        have f2 := ih2 e2 (List.mem_cons_of_mem _ List.mem_cons_self) _ _ q2 hd3
        have p := pn_rest (F := PV ts m) (g := tokV n) (L := r) (acc := [e, e2]) (fun z hz => ih2 z (List.mem_cons_of_mem _ (List.mem_cons_of_mem _ hz))) (drop_n q2)
        refine .inr ⟨hne, .inr ⟨_, e, f, .inr (.inr ⟨a1, hne2, .inr ⟨_, e2, f2, r.length, ?_, ?_⟩⟩)⟩⟩
        · have : (e :: e2 :: r).length ≤ 3 := h2
          simp only [List.length_cons] at this
          omega
        · rw [show i + ([40] :: (sepT true ((e :: e2 :: r).map (tokV n)) ++ ([] ++ [[41]]))).length = i + 1 + (tokV n e).length + 1 + (tokV n e2).length + (sepT false (r.map (tokV n))).length + 1 by rw [eb]; simp only [List.length_cons, List.length_append, List.length_nil]; omega]
          exact p
end FP
set_option maxHeartbeats 4000000
/-! the plain law: every list of tokens has an end -/
namespace FP
open PySem PySem.Spec PyProof.Rows L2
def Far (i : Nat) (r : Res) : Prop := ∀ a d, r = .ok a d → i ≤ a
theorem Far.err {i e : Nat} : Far i (.err e) := fun _ _ z => nomatch z
theorem Far.ok {i a : Nat} {d : PyData} (h : i ≤ a) : Far i (.ok a d) := fun _ _ z => by cases z; exact h
theorem Far.mono {i j : Nat} {r : Res} (h : Far i r) (e : j ≤ i) : Far j r := fun a d z => Nat.le_trans e (h a d z)
theorem pvS_far {ts : List (List Nat)} {bl : Bool} {i : Nat} : Far i (pvS ts bl i) := by
  unfold pvS
  split
  · exact .err
  · split
    · exact .err
    · split
      · split
        · exact .err
        · split
          · exact .err
          · exact .ok (by omega)
      · exact .ok (by omega)
theorem pvR_far {ts : List (List Nat)} {i : Nat} : Far i (pvR ts i) := by
  unfold pvR
  split
  · exact pvS_far.mono (by omega)
  · exact pvS_far
theorem drop_tok {ts : List (List Nat)} {i : Nat} {c : List Nat} (h : tok ts i = c) (n : c ≠ []) : i < ts.length ∧ ts.drop i = c :: ts.drop (i + 1) := by
  have hi : i < ts.length := by
    by_cases z : i < ts.length
    · exact z
    · unfold tok at h
      rw [List.getD_eq_getElem?_getD, List.getElem?_eq_none (by omega)] at h
      exact absurd h.symm n
  refine ⟨hi, ?_⟩
  rw [List.drop_eq_getElem_cons hi]
  unfold tok at h
  rw [List.getD_eq_getElem?_getD, List.getElem?_eq_getElem hi] at h
  rw [← h]; rfl
theorem drop_cnt {ts : List (List Nat)} {i j : Nat} (h : i ≤ j) : (ts.drop j).count [40] ≤ (ts.drop i).count [40] := by
  rw [show j = i + (j - i) by omega, ← List.drop_drop]
  exact (List.drop_sublist _ _).count_le _
theorem pn_tot {F : Nat → Res → Prop} {ts : List (List Nat)} {i0 : Nat} (hF : ∀ i, i0 ≤ i → ∃ r, F i r ∧ Far i r) : ∀ (m b : Nat) (acc : List PyData), i0 ≤ b → ts.length ≤ m + b → ∃ r, PN F ts m b acc r ∧ Far b r
  | 0, b, acc, _, h => by
    have e : tok ts b = [] := by
      unfold tok
      rw [List.getD_eq_getElem?_getD, List.getElem?_eq_none (by omega)]; rfl
    exact ⟨.err b, .inr ⟨by rw [e]; decide, by rw [e]; decide, rfl⟩, .err⟩
  | m + 1, b, acc, hb, h => by
    by_cases c : tok ts b = [44]
    · obtain ⟨r, hr, fr⟩ := hF (b + 1) (by omega)
      cases r with
      | err e => exact ⟨.err e, .inl ⟨c, .inl ⟨e, hr, rfl⟩⟩, .err⟩
      | ok a d =>
        have ha := fr a d rfl
        obtain ⟨r2, h2, f2⟩ := pn_tot (ts := ts) hF m a (acc ++ [d]) (by omega) (by omega)
        exact ⟨r2, .inl ⟨c, .inr ⟨a, d, hr, h2⟩⟩, f2.mono (by omega)⟩
    · by_cases c2 : tok ts b = [41]
      · exact ⟨_, .inr (.inl ⟨c2, rfl⟩), .ok (by omega)⟩
      · exact ⟨_, .inr (.inr ⟨c, c2, rfl⟩), .err⟩
theorem pv_tot {ts : List (List Nat)} (hl : ts.length ≤ 1000) : ∀ (n i : Nat), (ts.drop i).count [40] ≤ n → ∃ r, PV ts n i r ∧ Far i r
  | 0, i, h => by
    refine ⟨pvR ts i, ⟨fun z => ?_, rfl⟩, pvR_far⟩
    rw [(drop_tok z (by decide)).2, List.count_cons, if_pos (by decide)] at h
    omega
  | n + 1, i, h => by
    by_cases c : tok ts i = [40]
    · rw [(drop_tok c (by decide)).2, List.count_cons, if_pos (by decide)] at h
      have hF : ∀ j, i + 1 ≤ j → ∃ r, PV ts n j r ∧ Far j r := fun j hj => pv_tot hl n j (Nat.le_trans (drop_cnt hj) (by omega))
      by_cases c1 : tok ts (i + 1) = [41]
      · exact ⟨_, .inr ⟨c, .inl ⟨c1, rfl⟩⟩, .ok (by omega)⟩
      · obtain ⟨r, hr, fr⟩ := hF (i + 1) (Nat.le_refl _)
        cases r with
        | err e => exact ⟨.err e, .inr ⟨c, .inr ⟨c1, .inl ⟨e, hr, rfl⟩⟩⟩, .err⟩
        | ok a d =>
          have ha := fr a d rfl
          by_cases c2 : tok ts a = [44]
          · by_cases c3 : tok ts (a + 1) = [41]
            · exact ⟨_, .inr ⟨c, .inr ⟨c1, .inr ⟨a, d, hr, .inr (.inl ⟨c2, c3, rfl⟩)⟩⟩⟩, .ok (by omega)⟩
            · obtain ⟨r2, h2, f2⟩ := hF (a + 1) (by omega)
              cases r2 with
              | err e => exact ⟨.err e, .inr ⟨c, .inr ⟨c1, .inr ⟨a, d, hr, .inr (.inr ⟨c2, c3, .inl ⟨e, h2, rfl⟩⟩)⟩⟩⟩, .err⟩
              | ok b d2 =>
                have hb := f2 b d2 rfl
                obtain ⟨r3, h3, f3⟩ := pn_tot (ts := ts) hF (ts.length - b) b [d, d2] (by omega) (by omega)
                exact ⟨r3, .inr ⟨c, .inr ⟨c1, .inr ⟨a, d, hr, .inr (.inr ⟨c2, c3, .inr ⟨b, d2, h2, _, by omega, h3⟩⟩)⟩⟩⟩, f3.mono (by omega)⟩
          · exact ⟨.err a, .inr ⟨c, .inr ⟨c1, .inr ⟨a, d, hr, .inl ⟨c2, rfl⟩⟩⟩⟩, .err⟩
    · exact ⟨pvR ts i, .inl ⟨c, rfl⟩, pvR_far⟩
theorem tokV_up {n : Nat} {d : PyData} (h : Dt n d) : tokV (n + 1) d = tokV n d := by
  induction h with
  | rat h1 h2 h3 => rw [tokV_rat h1, tokV_rat h1]
  | @tup n ds h1 h2 h3 ih =>
    rw [tokV_tup h1, tokV_tup h1, List.map_congr_left ih]
end FP
set_option maxHeartbeats 4000000
/-! the plain law: what is read lies within the tokens; tokens with one thing changed -/
namespace FP
open PySem PySem.Spec PyProof.Rows L2
def Inn (L : Nat) (r : Res) : Prop := ∀ a d, r = .ok a d → a ≤ L
theorem Inn.err {L e : Nat} : Inn L (.err e) := fun _ _ z => nomatch z
theorem Inn.ok {L a : Nat} {d : PyData} (h : a ≤ L) : Inn L (.ok a d) := fun _ _ z => by cases z; exact h
theorem num_in {ts : List (List Nat)} {i : Nat} (h : isNum (tok ts i) = true) : i < ts.length := by
  by_cases z : i < ts.length
  · exact z
  · have e : tok ts i = [] := by
      unfold tok
      rw [List.getD_eq_getElem?_getD, List.getElem?_eq_none (by omega)]; rfl
    rw [e] at h
    exact absurd h (by decide)
theorem pvS_in {ts : List (List Nat)} {bl : Bool} {i : Nat} : Inn ts.length (pvS ts bl i) := by
  unfold pvS
  split
  · exact .err
  · rename_i h1
    have h1 : isNum (tok ts i) = true := by cases h : isNum (tok ts i) with | true => rfl | false => exact absurd h h1
    have := num_in h1
    split
    · exact .err
    · split
      · split
        · exact .err
        · rename_i h2
          have h2 : isNum (tok ts (i + 2)) = true := by cases h : isNum (tok ts (i + 2)) with | true => rfl | false => exact absurd h h2
          have := num_in h2
          split
          · exact .err
          · exact .ok (by omega)
      · exact .ok (by omega)
theorem pvR_in {ts : List (List Nat)} {i : Nat} : Inn ts.length (pvR ts i) := by
  unfold pvR
  split <;> exact pvS_in
theorem tok_in {ts : List (List Nat)} {i : Nat} {c : List Nat} (h : tok ts i = c) (n : c ≠ []) : i + 1 ≤ ts.length := (drop_tok h n).1
theorem pn_in {F : Nat → Res → Prop} {ts : List (List Nat)} (hF : ∀ i r, F i r → Inn ts.length r) : ∀ (m b : Nat) (acc : List PyData) (r : Res), PN F ts m b acc r → Inn ts.length r
  | 0, b, acc, r, h => by
    rcases h with ⟨h, rfl⟩ | ⟨_, _, rfl⟩
    · exact .ok (tok_in h (by decide))
    · exact .err
  | m + 1, b, acc, r, h => by
    rcases h with ⟨_, ⟨e, _, rfl⟩ | ⟨a, d, _, h⟩⟩ | ⟨h, rfl⟩ | ⟨_, _, rfl⟩
    · exact .err
    · exact pn_in hF m a _ r h
    · exact .ok (tok_in h (by decide))
    · exact .err
theorem pv_in {ts : List (List Nat)} : ∀ (n i : Nat) (r : Res), PV ts n i r → Inn ts.length r
  | 0, i, r, h => by rw [h.2]; exact pvR_in
  | n + 1, i, r, h => by
    rcases h with ⟨_, rfl⟩ | ⟨_, ⟨h, rfl⟩ | ⟨_, h⟩⟩
    · exact pvR_in
    · exact .ok (tok_in h (by decide))
    · rcases h with ⟨e, _, rfl⟩ | ⟨a, d, _, h⟩
      · exact .err
      · rcases h with ⟨_, rfl⟩ | ⟨_, h, rfl⟩ | ⟨_, _, h⟩
        · exact .err
        · exact .ok (tok_in h (by decide))
        · rcases h with ⟨e, _, rfl⟩ | ⟨b, d', _, m, _, h⟩
          · exact .err
          · exact pn_in (fun i r => pv_in n i r) m b _ r h
/-! ### one thing changed -/
def oddL : List (List Nat) := [[40], [41], [44], [45], [47], [48], [49], [50], [48, 54], [120], [43], List.replicate 401 55]
theorem odd_good : ∀ t, t ∈ oddL → Gtok t ∧ t.length ≤ 401 := by
  intro t ht
  simp only [oddL, List.mem_cons, List.not_mem_nil, or_false] at ht
  have f : ∀ (l : List Nat), l ≠ [] → (l.all fun x => decide (x ∈ figL)) = true → Gtok l := fun l h1 h2 => .inr (.inl ⟨h1, fun x hx => of_decide_eq_true (List.all_eq_true.mp h2 x hx)⟩)
  have s43 : Symt [43] := ⟨43, rfl, by decide, by decide, by decide⟩
  rcases ht with rfl | rfl | rfl | rfl | rfl | rfl | rfl | rfl | rfl | rfl | rfl | rfl
  · exact ⟨.inl sy40, by decide⟩
  · exact ⟨.inl sy41, by decide⟩
  · exact ⟨.inl sy44, by decide⟩
  · exact ⟨.inl sy45, by decide⟩
  · exact ⟨.inl sy47, by decide⟩
  · exact ⟨f _ (by decide) (by decide), by decide⟩
  · exact ⟨f _ (by decide) (by decide), by decide⟩
  · exact ⟨f _ (by decide) (by decide), by decide⟩
  · exact ⟨f _ (by decide) (by decide), by decide⟩
  · exact ⟨.inr (.inr ⟨by decide, fun x hx => by rw [List.mem_singleton.mp hx]; decide⟩), by decide⟩
  · exact ⟨.inl s43, by decide⟩
  · refine ⟨.inr (.inl ⟨by simp, fun x hx => ?_⟩), by simp⟩
    rw [(List.mem_replicate.mp hx).2]; decide
theorem sum_le {M : Nat} : ∀ {ps : List (List Nat)}, (∀ t, t ∈ ps → t.length ≤ M) → (ps.map (·.length)).sum ≤ ps.length * M
  | [], _ => Nat.zero_le _
  | p :: r, h => by
    have ih := sum_le (ps := r) fun t ht => h t (List.mem_cons_of_mem _ ht)
    have hp := h p List.mem_cons_self
    show p.length + (r.map (·.length)).sum ≤ (r.length + 1) * M
    rw [Nat.succ_mul]
    omega
/-- the four ways to change tokens -/
def chg (ts : List (List Nat)) (a : Nat) (o : List Nat) : List (List (List Nat)) := [ts.take a ++ [o] ++ ts.drop (a + 1), ts.take a ++ [o] ++ ts.drop a, ts.take a ++ ts.drop (a + 1), ts.take a]
structure Chg (us : List (List Nat)) : Prop where
  good : ∀ t, t ∈ us → Gtok t ∧ t.length ≤ 401
  few : us.length ≤ 400
  deep : us.count [40] ≤ 20
  sum : (us.map (·.length)).sum ≤ 20000
theorem chg_ok {ts : List (List Nat)} {a : Nat} {o : List Nat} (h : TkO 3 ts) (ha : a < ts.length) (ho : o ∈ oddL) {us : List (List Nat)} (hu : us ∈ chg ts a o) : Chg us := by
  have few : ts.length ≤ 384 := h.few
  have deep : 2 * ts.count [40] + 1 ≤ 27 := h.deep
  have g1 : ∀ k t, t ∈ ts.take k → Gtok t ∧ t.length ≤ 401 := fun k t ht => ⟨(h.good t (List.mem_of_mem_take ht)).1, Nat.le_trans (h.good t (List.mem_of_mem_take ht)).2 (by decide)⟩
  have g2 : ∀ k t, t ∈ ts.drop k → Gtok t ∧ t.length ≤ 401 := fun k t ht => ⟨(h.good t (List.mem_of_mem_drop ht)).1, Nat.le_trans (h.good t (List.mem_of_mem_drop ht)).2 (by decide)⟩
  have g3 : ∀ t, t ∈ [o] → Gtok t ∧ t.length ≤ 401 := fun t ht => by rw [List.mem_singleton.mp ht]; exact odd_good o ho
  have c0 : ts.count [40] = (ts.take a).count [40] + (ts.drop a).count [40] := by rw [← List.count_append, List.take_append_drop]
  have c1 : (ts.drop (a + 1)).count [40] ≤ (ts.drop a).count [40] := drop_cnt (Nat.le_succ a)
  have c2 : ([o] : List (List Nat)).count [40] ≤ 1 := Nat.le_trans List.count_le_length (by simp)
  have lt : (ts.take a).length ≤ a := by rw [List.length_take]; omega
  have u1 := sum_le (M := 41) (ps := ts.take a) fun t ht => (h.good t (List.mem_of_mem_take ht)).2
  have u2 : ∀ k, ((ts.drop k).map (·.length)).sum ≤ (ts.length - k) * 41 := fun k => by
    have := sum_le (M := 41) (ps := ts.drop k) fun t ht => (h.good t (List.mem_of_mem_drop ht)).2
    rw [List.length_drop] at this
    exact this
  have u3 := (odd_good o ho).2
  have u4 := u2 a
  have u5 := u2 (a + 1)
  simp only [chg, List.mem_cons, List.not_mem_nil, or_false] at hu
  rcases hu with rfl | rfl | rfl | rfl
  · refine ⟨fun t ht => ?_, by simp only [List.length_append, List.length_cons, List.length_nil, List.length_drop]; omega, by simp only [List.count_append]; omega, by simp only [List.map_append, List.sum_append, List.map_cons, List.map_nil, List.sum_cons, List.sum_nil]; omega⟩
    rcases List.mem_append.mp ht with ht | ht
    · rcases List.mem_append.mp ht with ht | ht
      · exact g1 _ t ht
      · exact g3 t ht
    · exact g2 _ t ht
  · refine ⟨fun t ht => ?_, by simp only [List.length_append, List.length_cons, List.length_nil, List.length_drop]; omega, by simp only [List.count_append]; omega, by simp only [List.map_append, List.sum_append, List.map_cons, List.map_nil, List.sum_cons, List.sum_nil]; omega⟩
    rcases List.mem_append.mp ht with ht | ht
    · rcases List.mem_append.mp ht with ht | ht
      · exact g1 _ t ht
      · exact g3 t ht
    · exact g2 _ t ht
  · refine ⟨fun t ht => ?_, by simp only [List.length_append, List.length_drop]; omega, by simp only [List.count_append]; omega, by simp only [List.map_append, List.sum_append, List.map_cons, List.map_nil, List.sum_cons, List.sum_nil]; omega⟩
    rcases List.mem_append.mp ht with ht | ht
    · exact g1 _ t ht
    · exact g2 _ t ht
  · exact ⟨g1 _, by omega, by omega, by omega⟩
theorem fig_cps : ∀ c, c ∈ figL → c < 1114112 := by decide
theorem one_cps {c : Nat} (h : c < 1114112) : Cps [c] := fun x hx => by rw [List.mem_singleton.mp hx]; exact h
theorem numL_cps (n : Nat) : Cps (TL.numL n) := fun c hc => fig_cps c (numL_fig hc)
theorem Dt.cps {n : Nat} {d : PyData} (h : Dt n d) : ∀ t, t ∈ tokV n d → Cps t := by
  induction h with
  | @rat n d t b h1 h2 h3 =>
    rw [tokV_rat h1]
    intro x hx
    unfold ratT at hx
    rcases List.mem_append.mp hx with hx | hx
    · split at hx
      · rw [List.mem_singleton.mp hx]; exact one_cps (by decide)
      · cases hx
    · split at hx
      · rw [List.mem_singleton.mp hx]; exact numL_cps _
      · simp only [List.mem_cons, List.not_mem_nil, or_false] at hx
        rcases hx with rfl | rfl | rfl
        · exact numL_cps _
        · exact one_cps (by decide)
        · exact numL_cps _
  | @tup n ds h1 h2 h3 ih =>
    rw [tokV_tup h1]
    intro t ht
    rcases List.mem_cons.mp ht with rfl | ht
    · exact one_cps (by decide)
    · rcases List.mem_append.mp ht with ht | ht
      · rcases sepT_all ht with rfl | ⟨x, hx, ht⟩
        · exact one_cps (by decide)
        · obtain ⟨e, he, rfl⟩ := List.mem_map.mp hx
          exact ih e he t ht
      · rcases List.mem_append.mp ht with ht | ht
        · split at ht
          · rw [List.mem_singleton.mp ht]; exact one_cps (by decide)
          · cases ht
        · rw [List.mem_singleton.mp ht]; exact one_cps (by decide)
theorem odd_cps : ∀ t, t ∈ oddL → Cps t := by
  intro t ht
  simp only [oddL, List.mem_cons, List.not_mem_nil, or_false] at ht
  rcases ht with rfl | rfl | rfl | rfl | rfl | rfl | rfl | rfl | rfl | rfl | rfl | rfl
  all_goals first
    | exact one_cps (by decide)
    | (intro c hc; have h : c ∈ figL := by { simp at hc; rcases hc with rfl | rfl <;> decide }; exact fig_cps c h)
    | (intro c hc; rw [(List.mem_replicate.mp hc).2]; decide)
theorem chg_cps {ts : List (List Nat)} {a : Nat} {o : List Nat} (h : ∀ t, t ∈ ts → Cps t) (ho : o ∈ oddL) {us : List (List Nat)} (hu : us ∈ chg ts a o) : ∀ t, t ∈ us → Cps t := by
  have g1 : ∀ k t, t ∈ ts.take k → Cps t := fun k t ht => h t (List.mem_of_mem_take ht)
  have g2 : ∀ k t, t ∈ ts.drop k → Cps t := fun k t ht => h t (List.mem_of_mem_drop ht)
  have g3 : ∀ t, t ∈ [o] → Cps t := fun t ht => by rw [List.mem_singleton.mp ht]; exact odd_cps o ho
  simp only [chg, List.mem_cons, List.not_mem_nil, or_false] at hu
  rcases hu with rfl | rfl | rfl | rfl
  · intro t ht
    rcases List.mem_append.mp ht with ht | ht
    · rcases List.mem_append.mp ht with ht | ht
      · exact g1 _ t ht
      · exact g3 t ht
    · exact g2 _ t ht
  · intro t ht
    rcases List.mem_append.mp ht with ht | ht
    · rcases List.mem_append.mp ht with ht | ht
      · exact g1 _ t ht
      · exact g3 t ht
    · exact g2 _ t ht
  · intro t ht
    rcases List.mem_append.mp ht with ht | ht
    · exact g1 _ t ht
    · exact g2 _ t ht
  · exact g1 _
end FP
set_option maxHeartbeats 4000000
/-! texts times whole numbers -/
namespace FP
open PySem PySem.Spec PyProof.Rows L2
theorem op_mulS {X : Cx} : OpR X (binaryOp .Mult) (fun x y H Q => ∃ i n, x = .str i ∧ y = .int n ∧ MulOk i n ∧ Q (.str (Txt.mul i n)) H) := by
  intro pins s σ H x y v u Q I rx ry h
  obtain ⟨i, n, rfl, rfl, hok, q⟩ := h
  obtain ⟨t, rfl⟩ := rx
  obtain ⟨t', rfl⟩ := ry
  exact SB.mul hok fun t' tk => ⟨.str (Txt.mul i n), H, I.tok _, ⟨_, rfl⟩, q⟩
theorem mul7 : Txt.mul (Str.ofString "7") 401 = SX.S (List.replicate 401 55) := by decide +kernel
theorem mul7k : MulOk (Str.ofString "7") 401 := ⟨by decide +kernel, fun _ _ => by decide +kernel, fun _ _ => by decide +kernel⟩
theorem mul0 : Txt.mul (Str.ofString "0") 400 = SX.S (List.replicate 400 48) := by decide +kernel
theorem mul0k : MulOk (Str.ofString "0") 400 := ⟨by decide +kernel, fun _ _ => by decide +kernel, fun _ _ => by decide +kernel⟩
end FP
set_option maxHeartbeats 1000000
namespace FP
open PySem PySem.Spec PyProof.Rows L2
local macro_rules | `(tactic| walk_at "rd") => `(tactic| dsimp only [tVar, tC, tCmp, tIsN, tNotN, tB, tAnd, tOr, tNot, tAndV, tOrV, tNotV, tIf, tNext, tSeq, tBreak, tCont, tDrop, tRet, tRetN, tIfS, tNever, tAsg, tPar, tAug, tOp, tUn, tTest, tChain, tFld, tNil, tCons, tTup, tLst, tCB, iList, iTup, iStr, tLc, tM0, tM1, tPart, tNoPart, tSl, tBM, tCallS, tCallSD, tMethW, tMake, sDPut, tDisp, tPairs, tXf, WE, tDGet, tDIn, gName, gTup, gCons, gNil, gSub, sFld, sFldAug, rI, rI0, rU, rEq, rNe, rAdd, rSub, t2I, tYes, cx_K, cx_w, cx_prog])
local macro_rules | `(tactic| walk_at "rs") => `(tactic| (try simp (maxSteps := 4000000) only [L2.start, List.map_cons, List.map_nil, List.length_cons, List.length_nil, List.cons_append, List.nil_append, Nat.reduceAdd, Nat.reduceSub, Nat.zero_add, List.replicate, List.getElem?_cons_zero, List.getElem?_cons_succ, Option.some.injEq, exists_eq_left', exists_eq_left, V.int.injEq, V.str.injEq, V.bl.injEq, V.ref.injEq, List.set_cons_zero, List.set_cons_succ, exists_and_left, List.cons.injEq, and_true, true_and, wipe, if_true, if_false, Bool.not_true, Bool.not_false, Bool.false_eq_true, decide_true, decide_false]))
local macro_rules | `(tactic| walk_at "r") => `(tactic| (walk_at "rd"; walk_at "rs"))
local macro_rules | `(tactic| walk_at "T") => `(tactic| (rw [if_pos (by first | assumption | rfl | decide | exact decide_eq_true (by assumption) | (simp [tyOf]; done) | (simp; omega) | omega)]; walk_at "rs"))
local macro_rules | `(tactic| walk_at "F") => `(tactic| (rw [if_neg (by first | assumption | decide | (simp [tyOf]; done) | (simp; omega) | (simp; assumption) | omega)]; walk_at "rs"))
open LamX
/-! ### _law_fault with a lambda -/
structure FltC (P : Program) (w : World) (K : PySem.W.Frag) (mg : Str → Option Value) (base : Heap) (CT CR : Addr) : Prop where
  ex : ∃ (g : Addr) (fdg : FuncData) (CF : Addr), C8.Def K mg "_law_fault" s_law_fault g fdg ∧ Binds K fdg ["call"] [] ∧ mg "FieldError" = some (.ref CF) ∧ PySem.W.exmOne K (.ref CT) (.ref CF) = some true ∧ PySem.W.exmOne K (.ref CR) (.ref CF) = some true
  Z : Zb mg
  cT : L2.ExcC K CT
  cR : L2.ExcC K CR
  vT : PySem.W.kitOne K (.ref CT) (.type "ValueError") = some true
  vR : PySem.W.kitOne K (.ref CR) (.type "ValueError") = some true
  nV : mg "ValueError" = none
  kinds : CalE P w K mg base 2 "_law_kinds" (sp_kinds K CT CR)
theorem cx_ql {CX : CXT} {P : Program} {w : World} {K : PySem.W.Frag} {mg : Str → Option Value} {base : Heap} {N : List Str} {q : Str} {sc : Scope} {f : Addr} {cdv : Value} {A : Around} {outer : List Env} {s : Shared} {H : Hp} {E : XK} : (cxOf CX P w K mg base N q sc f cdv A outer s H E).env.qual ++ "<lambda>" = (q ++ ".<locals>.") ++ "<lambda>" := rfl
theorem room_L {k : Nat} {A : Around} {e1 e2 : Env} (h : Room k (A.deeper e1)) : Room k (A.deeper e2) := by cases h; constructor <;> assumption
section
variable {X : Cx}
theorem pe_flt {CT CR : Addr} {T : List (Addr × Str)} {c P : Addr} {k : Nat} {params : Arguments} {body : Expr} {sc : Scope} {t : XK → TE} {p lpos pos : Pos} (F : FltC X.prog X.w X.K X.mg X.base CT CR) (gx : Gl X "_law_fault") (hg : X.A.guards = some [])
    (TB : TabB X.base X.mg c P) (hcode : X.env.code = .ref c) {ql : Str} (hq : X.env.qual ++ "<lambda>" = ql) (hmT : (P, ql) ∈ T) (hu : ∀ p ∈ T, p.1 = P → p.2 = ql) (hr : Room (k + 2) X.A) (hk : 2 ≤ k) (L : LamS X.env.scope sc) (hdef : defaultsOf params X.env = ([], []))
    (hbind : ∀ (q : Str) (cl : List (Str × Addr)) (pm cv ctv : Value), bindArgs (PySem.W.kla_fn "<lambda>" q params body sc cl pm cv ctv) ⟨[], []⟩ = pure [])
    (hbody : ∀ (A : Around) (outer : List Env) (s : Shared) (H : Hp) (E : XK) (f c : Addr), Room k (lamN X A outer s H E sc f c).A → PE (lamN X A outer s H E sc f c) body (t E)) :
    PE X (.Call (.Name "_law_fault" p) [.Lambda params body sc lpos] [] pos) (tLam T (TTflt X.K CT CR) t) := by
  subst hq
  obtain ⟨g, fdg, CF, D, b, gF, xT, xR⟩ := F.ex
  obtain ⟨oc, od, dV, kV, doc, pm, an, cdv, ct, osl, rfl, lk, hcd⟩ := D.fn.ex
  exact pe_lamN (k := k) (Ng := ["call", "found", "e"]) gx D.mgf D.kp lk hcd b sc_law_fault rfl (Or.inl rfl) (flt_gives F.Z hg gF xT xR F.cT F.cR F.vT F.vR F.nV F.kinds hk) TB hcode hmT hu hr L hdef hbind fun A outer s H E f c _ hr2 => hbody A outer s H E f c (room_L hr2)
end
end FP
set_option maxHeartbeats 4000000
/-! what stays: all but the pen and the tables -/
namespace FP
open PySem PySem.Spec PyProof.Rows L2 LamX
def rJoin (K : PySem.W.Frag) : V → List V → Hp → VK → Prop := fun x xs H Q => ∃ a p, ∃ ys : List Str, x = .str a ∧ xs = [.ref p] ∧ (SqL K H p (ys.map V.str) ∨ SqT K H p (ys.map V.str)) ∧ (ys.map (·.length)).sum + ys.length * a.length ≤ 16777216 ∧ Q (.str (Txt.join a ys)) H
/-- all but the pen and the tables stay -/
def ButN (p : Addr) (H H' : Hp) : Prop := ∀ b o, ¬ b = p → H b = some o → (∀ ps, o ≠ .tbl ps) → H' b = some o
theorem ButN.refl (p : Addr) (H : Hp) : ButN p H H := fun _ _ _ h _ => h
theorem ButN.trans {p : Addr} {H H1 H2 : Hp} (a : ButN p H H1) (b : ButN p H1 H2) : ButN p H H2 := fun c o n h t => b c o n (a c o n h t) t
theorem ButN.but {p : Addr} {H H1 : Hp} (e : But (· = p) H H1) : ButN p H H1 := fun c o n h _ => e c o n h
theorem ButN.same {p : Addr} {H H1 : Hp} (e : Same H H1) : ButN p H H1 := fun c o _ h _ => e c o h
theorem ButN.ext {p : Addr} {H H1 : Hp} (e : ExtN H H1) : ButN p H H1 := fun c o _ h t => e c o h t
theorem ButN.lst {p l : Addr} {H H1 : Hp} {xs : List V} (e : ButN p H H1) (n : ¬ l = p) (h : H l = some (.lst xs)) : H1 l = some (.lst xs) := e l _ n h fun _ z => nomatch z
theorem ButN.seqL {K : PySem.W.Frag} {p l : Addr} {H H1 : Hp} {xs : List V} (e : ButN p H H1) (n : ¬ l = p) (h : SqL K H l xs) : SqL K H1 l xs := by
  rcases h with (h | ⟨o, h⟩) | h
  · exact .inl (.inl (e _ _ n h fun _ z => nomatch z))
  · exact .inl (.inr ⟨o, e _ _ n h fun _ z => nomatch z⟩)
  · exact .inr h
theorem SqL.extN {K : PySem.W.Frag} {l : Addr} {H H1 : Hp} {xs : List V} (e : ExtN H H1) (h : SqL K H l xs) : SqL K H1 l xs := by
  rcases h with (h | ⟨o, h⟩) | h
  · exact .inl (.inl (e _ _ h fun _ z => nomatch z))
  · exact .inl (.inr ⟨o, e _ _ h fun _ z => nomatch z⟩)
  · exact .inr h
theorem SqT.extN {K : PySem.W.Frag} {l : Addr} {H H1 : Hp} {xs : List V} (e : ExtN H H1) (h : SqT K H l xs) : SqT K H1 l xs := by
  rcases h with (h | ⟨o, h⟩) | h
  · exact .inl (.inl (e _ _ h fun _ z => nomatch z))
  · exact .inl (.inr ⟨o, e _ _ h fun _ z => nomatch z⟩)
  · exact .inr h
theorem Dp.extN {K : PySem.W.Frag} {H H' : Hp} {v : V} {d : PyData} (e : ExtN H H') (h : Dp K H v d) : Dp K H' v d := Dp.imp (fun _ _ => SqL.extN e) (fun _ _ => SqT.extN e) h
theorem Pen.extN {K : PySem.W.Frag} {H H1 : Hp} {p : Addr} {tc : Addr × List Int} (h : Pen K H p tc) (e : ExtN H H1) : Pen K H1 p tc := by
  obtain ⟨a, dg, ct, fo, S⟩ := h
  exact ⟨a, dg, ct, fo, e _ _ S.d (fun _ z => nomatch z), SqL.extN e S.l, S.ne, S.n0, S.f0, S.f1⟩
theorem Tabs.but {K : PySem.W.Frag} {T : List (Addr × Str)} {H H' : Hp} {p : Addr} {tc : Addr × List Int} (pn : Pen K H p tc) (k : But (· = p) H H') (t : Tabs T H) : Tabs T H' := fun q hq => by
  obtain ⟨ps, h1, h2, h3⟩ := t q hq
  obtain ⟨_, _, _, _, S⟩ := pn
  refine ⟨ps, k _ _ (fun z => by rw [z, S.d] at h1; cases h1) h1, h2, fun pos cv hc => ?_⟩
  obtain ⟨c, e1, e2⟩ := h3 pos cv hc
  exact ⟨c, e1, k _ _ (fun z => by rw [z, S.d] at e2; cases e2) e2⟩
theorem Pen.ne {K : PySem.W.Frag} {H : Hp} {p l : Addr} {tc : Addr × List Int} {xs : List V} (pn : Pen K H p tc) (h : H l = some (.lst xs)) : ¬ l = p := fun z => by
  obtain ⟨_, _, _, _, S⟩ := pn
  rw [z, S.d] at h; cases h
end FP
set_option maxHeartbeats 1000000
namespace FP
open PySem PySem.Spec PyProof.Rows L2
local macro_rules | `(tactic| walk_at "rd") => `(tactic| dsimp only [tVar, tC, tCmp, tIsN, tNotN, tB, tAnd, tOr, tNot, tAndV, tOrV, tNotV, tIf, tNext, tSeq, tBreak, tCont, tDrop, tRet, tRetN, tIfS, tNever, tAsg, tPar, tAug, tOp, tUn, tTest, tChain, tFld, tNil, tCons, tTup, tLst, tCB, iList, iTup, iStr, tLc, tM0, tM1, tPart, tNoPart, tSl, tBM, tCallS, tCallSD, tMethW, tMake, sDPut, tDisp, tPairs, tXf, WE, tDGet, tDIn, gName, gTup, gCons, gNil, gSub, sFld, sFldAug, rI, rI0, rU, rEq, rNe, rAdd, rSub, t2I, tYes, cx_K, cx_w, cx_prog])
local macro_rules | `(tactic| walk_at "rs") => `(tactic| (try simp (maxSteps := 4000000) only [L2.start, List.map_cons, List.map_nil, List.length_cons, List.length_nil, List.cons_append, List.nil_append, Nat.reduceAdd, Nat.reduceSub, Nat.zero_add, List.replicate, List.getElem?_cons_zero, List.getElem?_cons_succ, Option.some.injEq, exists_eq_left', exists_eq_left, V.int.injEq, V.str.injEq, V.bl.injEq, V.ref.injEq, List.set_cons_zero, List.set_cons_succ, exists_and_left, List.cons.injEq, and_true, true_and, wipe, if_true, if_false, Bool.not_true, Bool.not_false, Bool.false_eq_true, decide_true, decide_false]))
local macro_rules | `(tactic| walk_at "r") => `(tactic| (walk_at "rd"; walk_at "rs"))
local macro_rules | `(tactic| walk_at "T") => `(tactic| (rw [if_pos (by first | assumption | rfl | decide | exact decide_eq_true (by assumption) | (simp [tyOf]; done) | (simp; omega) | omega)]; walk_at "rs"))
local macro_rules | `(tactic| walk_at "F") => `(tactic| (rw [if_neg (by first | assumption | decide | (simp [tyOf]; done) | (simp; omega) | (simp; assumption) | omega)]; walk_at "rs"))
/-! ### errors of own classes with one field -/
def spInit1 (C : Addr) (f1 : Str) : Sp := fun vs H Q _ => ∃ (a : Addr) (v1 : V), vs = [.ref a, v1] ∧ H a = some (exo a C none) ∧
  ∀ dx, H dx = none → dx ≠ a → Q .non (upd (upd H dx (exd dx [(f1, v1)])) a (exo a C (some dx)))
structure ErrX1 (P : Program) (w : World) (K : PySem.W.Frag) (mg : Str → Option Value) (base : Heap) (x : Str) (C : Addr) (f1 : Str) : Prop where
  T : OexC K C
  nm : mg x = some (.ref C)
  ini : ∃ (fI : Addr) (fd : FuncData) (ps : List Str), PySem.W.findIn K (.ref C) "__init__" = some (some (.ref fI)) ∧ PySem.W.typeIn K (.ref fI) = some (.type "function") ∧ FnOk P w K mg base (L2N.CX P w) 1 fI fd ps (spInit1 C f1) ∧ Binds K fd ps []
theorem xd_heap1 {H : Hp} {a dx : Addr} {o1 o2 o3 o : HO} (na : H a = none) (ne : dx ≠ a) : upd (del (upd (upd (upd H a o1) dx o2) a o3) a) dx o = upd H dx o := by
  funext b
  by_cases h : b = dx
  · subst h; rw [upd_same, upd_same]
  · rw [upd_ne h, upd_ne h]
    by_cases h2 : b = a
    · subst h2; rw [del_same, na]
    · rw [del_ne h2, upd_ne h2, upd_ne h, upd_ne h2]
section
variable {X : Cx} {x : Str} {C : Addr} {f1 : Str} {W : WX} {e1 : Expr} {t1 : TE} {p pos pos' : Pos} {k : Nat}
/-- raise x(e1) -/
theorem ps_raiseX1 (R : ErrX1 X.prog X.w X.K X.mg X.base x C f1) (hc : X.calm = true) (hr : Room k X.A) (hk : 2 ≤ k) (tk : L2N.Takes X W) (hg : Gl X x) (h1 : PE X e1 t1)
    (hdb : (x == ("__debug__" : Str)) = false := by decide) (s1 : starEach [e1] X.env = (false, eval e1 X.env) :: starEach [] X.env := by rfl) (hpl : (backTo pos (starEach [] X.env)).any (·.1) = false := by rfl) :
    PS X (.Raise (some (.Call (.Name x p) [e1] [] pos)) none pos') (fun _ σ H => t1 σ H fun v1 H1 => ∀ d, H1 d = none → W (.ref C) (some d) σ (upd H1 d (.xd [(f1, v1)]))) := by
  obtain ⟨fI, fd, ps, i1, i2, F, b⟩ := R.ini
  have hx : Passes (L2N.CX X.prog X.w) X (fun _ _ _ => False) := fun _ _ _ _ _ _ _ h => by
    obtain ⟨_, _, _, _, _, _, _, _, _, _, _, _, z⟩ := h
    exact z.elim
  have m := pmkN (p := p) (pos := pos) R.T i1 i2 F (hr.mono hk) b hx hg R.nm (pa_cons (pe_mo h1) pa_nil s1) hdb s1 hpl
  refine ⟨fun pins s σ H D I h => ?_⟩
  refine (L2N.ps_raise (pos := pos') hc tk m).run pins s σ H D I ?_
  refine ⟨_, h, fun v1 H1 q1 => ⟨(show 1 ≤ 1000 by decide), fun a na => ?_⟩⟩
  refine ⟨a, v1, rfl, upd_same, fun dx nd ne => ⟨rfl, dx, [(f1, v1)], upd_same, ?_, ?_, ?_⟩⟩
  · rw [upd_ne ne, upd_same]
  · rw [upd_ne ne] at nd; exact nd
  · rw [xd_heap1 na ne]
    rw [upd_ne ne] at nd
    exact q1 dx nd
end
section
variable {P : Program} {w : World} {K : PySem.W.Frag} {mg : Str → Option Value} {base : Heap} {f : Addr} {fd : FuncData}
theorem init_BadPaper {C : Addr} (F : C8.Fun K "__init__" "BadPaper.__init__" s_BadPaper___init__ f fd) (T : OexC K C) (n1 : PySem.W.findIn K (.ref C) "what" = some none) :
    FnOk P w K mg base (L2N.CX P w) 1 f fd ["self", "what"] (spInit1 C "what") := by
  refine fnX F sc_BadPaper___init__ (fun vs H Q E h => by obtain ⟨a, v1, rfl, _⟩ := h; rfl) fun cdv A outer s H vs Q E hr h => ?_
  obtain ⟨a, v1, rfl, ha, q⟩ := h
  refine ⟨_, pss_one (ps_ost (pv 0) (pv 1)), ?_⟩
  exact ⟨_, rfl, _, rfl, a, C, rfl, T, n1, .inl ⟨ha, fun dx nd ne => q dx nd ne⟩⟩
end
end FP
set_option maxHeartbeats 1000000
namespace FP
open PySem PySem.Spec PyProof.Rows L2
local macro_rules | `(tactic| walk_at "rd") => `(tactic| dsimp only [tVar, tC, tCmp, tIsN, tNotN, tB, tAnd, tOr, tNot, tAndV, tOrV, tNotV, tIf, tNext, tSeq, tBreak, tCont, tDrop, tRet, tRetN, tIfS, tNever, tAsg, tPar, tAug, tOp, tUn, tTest, tChain, tFld, tNil, tCons, tTup, tLst, tCB, iList, iTup, iStr, tLc, tM0, tM1, tPart, tNoPart, tSl, tBM, tCallS, tCallSD, tMethW, tMake, sDPut, tDisp, tPairs, tXf, WE, tDGet, tDIn, gName, gTup, gCons, gNil, gSub, sFld, sFldAug, rI, rI0, rU, rEq, rNe, rAdd, rSub, t2I, tYes, cx_K, cx_w, cx_prog])
local macro_rules | `(tactic| walk_at "rs") => `(tactic| (try simp (maxSteps := 4000000) only [L2.start, List.map_cons, List.map_nil, List.length_cons, List.length_nil, List.cons_append, List.nil_append, Nat.reduceAdd, Nat.reduceSub, Nat.zero_add, List.replicate, List.getElem?_cons_zero, List.getElem?_cons_succ, Option.some.injEq, exists_eq_left', exists_eq_left, V.int.injEq, V.str.injEq, V.bl.injEq, V.ref.injEq, List.set_cons_zero, List.set_cons_succ, exists_and_left, List.cons.injEq, and_true, true_and, wipe, if_true, if_false, Bool.not_true, Bool.not_false, Bool.false_eq_true, decide_true, decide_false]))
local macro_rules | `(tactic| walk_at "r") => `(tactic| (walk_at "rd"; walk_at "rs"))
local macro_rules | `(tactic| walk_at "T") => `(tactic| (rw [if_pos (by first | assumption | rfl | decide | exact decide_eq_true (by assumption) | (simp [tyOf]; done) | (simp; omega) | omega)]; walk_at "rs"))
local macro_rules | `(tactic| walk_at "F") => `(tactic| (rw [if_neg (by first | assumption | decide | (simp [tyOf]; done) | (simp; omega) | (simp; assumption) | omega)]; walk_at "rs"))
open LamX
/-! ### a comprehension over pairs -/
theorem comp_pair {J : It} {n : Nat} {F1 F2 : Nat → Option V} {G : Hp → Prop} {H1 : Hp} {D : Addr} {Rend : Hp → Prop} (w : Walk J n G (YPair F1 F2)) (small : n < sizeLine) (nD : H1 D = none) (B : V → Hp → VK → Prop) (R : Nat → V → Hp → Prop)
    (hG : ∀ H, But (· = D) (upd H1 D (.lst [])) H → G H)
    (hup : ∀ i v H H' acc, H D = some (.lst acc) → But (· = D) H H' → R i v H → R i v H')
    (hs : ∀ i x y T H Q, F1 i = some x → F2 i = some y → But (· = D) (upd H1 D (.lst [])) H → H T = none → (∀ z H', Same (upd H T (.tup [x, y])) H' → R i z H' → Q z H') → B (.ref T) (upd H T (.tup [x, y])) Q)
    (hd : ∀ H ys, But (· = D) (upd H1 D (.lst [])) H → H D = some (.lst ys) → ys.length = n → (∀ i y, ys[i]? = some y → R i y H) → Rend H) :
    ∃ W : Nat → Nat → Hp → Prop, (∃ m, W 0 m (upd H1 D (.lst []))) ∧ ∀ i m H, W i m H →
      (J.stop i H ∧ Rend H) ∨ (J.go i H ∧ ∃ Nx : Hp → Prop, (∀ H', Nx H' → ∃ m', m' < m ∧ W (i + 1) m' H') ∧ ∀ x H', J.yld i H x H' →
        B x H' fun y H4 => ∃ acc, H4 D = some (.lst acc) ∧ acc.length < sizeLine ∧ Nx (upd H4 D (.lst (acc ++ [y])))) := by
  refine ⟨fun i m H => m = n - i ∧ i ≤ n ∧ But (· = D) (upd H1 D (.lst [])) H ∧ ∃ ys, H D = some (.lst ys) ∧ ys.length = i ∧ ∀ k y, ys[k]? = some y → R k y H, ⟨n, by simp, Nat.zero_le _, But.refl _ _, [], upd_same, rfl, fun k y h => by simp at h⟩, ?_⟩
  rintro i m H ⟨rfl, hi, e, ys, hD, hl, hR⟩
  have q := hG H e
  by_cases hlt : i < n
  · refine .inr ⟨w.goes i H hlt q, fun H' => But (· = D) (upd H1 D (.lst [])) H' ∧ ∃ ys, H' D = some (.lst ys) ∧ ys.length = i + 1 ∧ ∀ k y, ys[k]? = some y → R k y H', fun H' p' => ⟨n - (i + 1), by omega, rfl, hlt, p'⟩, fun x H' y => ?_⟩
    obtain ⟨T, a, b, rfl, nT, rfl, fa, fb⟩ := w.yields i H x H' hlt q y
    have e3 := same_new nT (.tup [a, b])
    refine hs i a b T H _ fa fb e nT fun v H4 e4 r => ⟨ys, e4 _ _ (e3 _ _ hD), by omega, ?_, ys ++ [v], upd_same, by simp [hl], ?_⟩
    · exact e.trans ((Same.but (e3.trans e4)).trans (But.upd rfl))
    · intro k y hk
      by_cases hk1 : k < ys.length
      · rw [List.getElem?_append_left hk1] at hk
        exact hup k y H _ ys hD ((Same.but (e3.trans e4)).trans (But.upd rfl)) (hR k y hk)
      · rw [List.getElem?_append_right (by omega)] at hk
        have : k = ys.length := by
          have := List.getElem?_eq_some_iff.mp hk
          obtain ⟨h, _⟩ := this
          simp at h; omega
        subst this
        simp at hk
        subst hk
        rw [hl]
        exact hup i v H4 _ ys (e4 _ _ (e3 _ _ hD)) (But.upd rfl) r
  · have e1 : i = n := by omega
    subst e1
    exact .inl ⟨w.stops H q, hd H ys e hD hl hR⟩
theorem walk_zipT {K : PySem.W.Frag} {a b : Addr} {xs ys : List V} {n : Nat} (h1 : n = xs.length) (h2 : n = ys.length) : Walk (RZ.ItzT K a b) n (fun H => SqT K H a xs ∧ SqT K H b ys) (YPair (fun i => xs[i]?) (fun i => ys[i]?)) := by
  refine ⟨fun i _ hi q => ?_, fun _ q => ⟨xs, ys, q.1, q.2, .inl (by omega)⟩, fun i H v H' _ q y => ?_⟩
  · have h3 : i < xs.length := by omega
    have h4 : i < ys.length := by omega
    exact ⟨xs, ys, xs[i], ys[i], q.1, q.2, by simp [h3], by simp [h4]⟩
  · obtain ⟨T, x, z, h3, h4, h5, h6, h7⟩ := y
    exact ⟨T, x, z, h3, h4, h5, h6 xs q.1, h7 ys q.2⟩
/-! ### books -/
def nmB : List Str := ["polynomial", "paper", "stretches", "base", "greatest", "bound", "above", "gens", "orders", "goals", "rows", "torsion", "units", "limit", "signs"]
/-- the class -/
structure BkC (K : PySem.W.Frag) (C : Addr) : Prop where
  cls : Cls K C
  no : ∀ x, x ∈ nmB → NoAttr K C x
  ha : PySem.W.findIn K (.ref C) "__class__" = some (some (.builtin "object.__class__"))
  hn : PySem.W.specialIn K (.builtin "object.__class__") "__get__" = some (some (.builtin "getset_descriptor.__get__"))
  ht : PySem.W.takesIn K (.builtin "object.__class__") = some true
  hm : PySem.W.mroIn K C (.type "object") = some true
  kit : ∀ t, t ∈ ["NoneType", "bool", "int", "str", "list", "tuple", "dict"] → PySem.W.kitOne K (.type t) (.ref C) = some false
  self : PySem.W.kitOne K (.ref C) (.ref C) = some true
/-- the fields -/
def bkF (v : Nat → V) : List (Str × V) := [("polynomial", v 0), ("paper", v 1), ("stretches", v 2), ("base", v 3), ("greatest", v 4), ("bound", v 5), ("above", v 6), ("gens", v 7), ("orders", v 8), ("goals", v 9), ("rows", v 10), ("torsion", v 11), ("units", v 12), ("limit", v 13), ("signs", v 14)]
/-- a book: its values' data d, no lists in them -/
structure Bk (K : PySem.W.Frag) (C : Addr) (H : Hp) (a dx : Addr) (v : Nat → V) (d : Nat → PyData) : Prop where
  cls : BkC K C
  ins : H a = some (.ins C dx (bkF v))
  dat : ∀ i, i < 15 → Dp K H (v i) (d i) ∧ Nol (d i)
theorem Bk.same {K : PySem.W.Frag} {C : Addr} {H H' : Hp} {a dx : Addr} {v : Nat → V} {d : Nat → PyData} (b : Bk K C H a dx v d) (e : Same H H') : Bk K C H' a dx v d := ⟨b.cls, e _ _ b.ins, fun i hi => ⟨Dp.same e (b.dat i hi).1, (b.dat i hi).2⟩⟩
theorem Bk.extN {K : PySem.W.Frag} {C : Addr} {H H' : Hp} {a dx : Addr} {v : Nat → V} {d : Nat → PyData} (b : Bk K C H a dx v d) (e : ExtN H H') : Bk K C H' a dx v d := ⟨b.cls, e _ _ b.ins (fun _ z => nomatch z), fun i hi => ⟨Dp.extN e (b.dat i hi).1, (b.dat i hi).2⟩⟩
theorem Bk.ty {K : PySem.W.Frag} {C : Addr} {H : Hp} {a dx : Addr} {v : Nat → V} {d : Nat → PyData} (b : Bk K C H a dx v d) : TyX K H (.ref a) (.ref C) := .base (.ins b.ins b.cls.cls b.cls.ha b.cls.hn b.cls.ht b.cls.hm)
/-- no list of these is where an instance is -/
theorem Dp.insBut {K : PySem.W.Frag} {H H' : Hp} {a C dx : Addr} {fs : List (Str × V)} (ha : H a = some (.ins C dx fs)) (k : But (· = a) H H') {v : V} {d : PyData} (h : Dp K H v d) : Dp K H' v d := by
  have go : ∀ {b : Addr} {o : HO}, H b = some o → (∀ C dx fs, o ≠ .ins C dx fs) → H' b = some o := fun {b o} hb n => k b o (fun z => by
    have z : b = a := z
    rw [z, ha] at hb
    exact n _ _ _ (Option.some.inj hb).symm) hb
  refine Dp.imp (fun b xs h => ?_) (fun b xs h => ?_) h
  · rcases h with (h | ⟨o, h⟩) | h
    · exact .inl (.inl (go h fun _ _ _ z => nomatch z))
    · exact .inl (.inr ⟨o, go h fun _ _ _ z => nomatch z⟩)
    · exact .inr h
  · rcases h with (h | ⟨o, h⟩) | h
    · exact .inl (.inl (go h fun _ _ _ z => nomatch z))
    · exact .inl (.inr ⟨o, go h fun _ _ _ z => nomatch z⟩)
    · exact .inr h
end FP
set_option maxHeartbeats 1000000
namespace FP
open PySem PySem.Spec PyProof.Rows L2
local macro_rules | `(tactic| walk_at "rd") => `(tactic| dsimp only [tVar, tC, tCmp, tIsN, tNotN, tB, tAnd, tOr, tNot, tAndV, tOrV, tNotV, tIf, tNext, tSeq, tBreak, tCont, tDrop, tRet, tRetN, tIfS, tNever, tAsg, tPar, tAug, tOp, tUn, tTest, tChain, tFld, tNil, tCons, tTup, tLst, tCB, iList, iTup, iStr, tLc, tM0, tM1, tPart, tNoPart, tSl, tBM, tCallS, tCallSD, tMethW, tMake, sDPut, tDisp, tPairs, tXf, WE, tDGet, tDIn, gName, gTup, gCons, gNil, gSub, sFld, sFldAug, rI, rI0, rU, rEq, rNe, rAdd, rSub, t2I, tYes, cx_K, cx_w, cx_prog])
local macro_rules | `(tactic| walk_at "rs") => `(tactic| (try simp (maxSteps := 4000000) only [L2.start, List.map_cons, List.map_nil, List.length_cons, List.length_nil, List.cons_append, List.nil_append, Nat.reduceAdd, Nat.reduceSub, Nat.zero_add, List.replicate, List.getElem?_cons_zero, List.getElem?_cons_succ, Option.some.injEq, exists_eq_left', exists_eq_left, V.int.injEq, V.str.injEq, V.bl.injEq, V.ref.injEq, List.set_cons_zero, List.set_cons_succ, exists_and_left, List.cons.injEq, and_true, true_and, wipe, if_true, if_false, Bool.not_true, Bool.not_false, Bool.false_eq_true, decide_true, decide_false]))
local macro_rules | `(tactic| walk_at "r") => `(tactic| (walk_at "rd"; walk_at "rs"))
local macro_rules | `(tactic| walk_at "T") => `(tactic| (rw [if_pos (by first | assumption | rfl | decide | exact decide_eq_true (by assumption) | (simp [tyOf]; done) | (simp; omega) | omega)]; walk_at "rs"))
local macro_rules | `(tactic| walk_at "F") => `(tactic| (rw [if_neg (by first | assumption | decide | (simp [tyOf]; done) | (simp; omega) | (simp; assumption) | omega)]; walk_at "rs"))
open LamX
/-! ### Book.__init__, values_of -/
section
variable {P : Program} {w : World} {K : PySem.W.Frag} {mg : Str → Option Value} {base : Heap} {f : Addr} {fd : FuncData} {C CT CR : Addr}
def args15 (v : Nat → V) : List V := [v 0, v 1, v 2, v 3, v 4, v 5, v 6, v 7, v 8, v 9, v 10, v 11, v 12, v 13, v 14]
def sp_bk_init (K : PySem.W.Frag) (C : Addr) (n : Nat) : Sp := fun vs H Q _ => ∃ (a dx : Addr) (v : Nat → V) (d : Nat → PyData), vs = .ref a :: args15 v ∧ BkC K C ∧ H a = some (.ins C dx []) ∧ (∀ i, i < 15 → Dp K H (v i) (d i) ∧ fine n (d i)) ∧
  ∀ H' w, But (· = a) H H' → Bk K C H' a dx w (fun i => asTup n (d i)) → Q .non H'
theorem fn_bk_init (F : C8.Fun K "__init__" "Book.__init__" s_Book___init__ f fd) {n : Nat} (c_as_tuples : CalX P w K mg base (n + 1) "as_tuples" (sp_as_tuples K n)) : FnOk P w K mg base (L2N.CX P w) (n + 2) f fd ["self", "polynomial", "paper", "stretches", "base", "greatest", "bound", "above", "gens", "orders", "goals", "rows", "torsion", "units", "limit", "signs"] (sp_bk_init K C n) := by
  refine fnX F sc_Book___init__ (fun vs H Q E h => by obtain ⟨a, dx, v, d, rfl, _⟩ := h; rfl) fun cdv A outer s H vs Q E hr h => ?_
  obtain ⟨a, dx, v, d, rfl, c, hi, hv, q⟩ := h
  refine ⟨_, (pss_cons (ps_fld (pv 0) (pe_x c_as_tuples hr (by(omega)) tk0 rfl (pa_cons (pv 1) pa_nil)) rfl)
    (pss_cons (ps_fld (pv 0) (pe_x c_as_tuples hr (by(omega)) tk0 rfl (pa_cons (pv 2) pa_nil)) rfl)
    (pss_cons (ps_fld (pv 0) (pe_x c_as_tuples hr (by(omega)) tk0 rfl (pa_cons (pv 3) pa_nil)) rfl)
    (pss_cons (ps_fld (pv 0) (pe_x c_as_tuples hr (by(omega)) tk0 rfl (pa_cons (pv 4) pa_nil)) rfl)
    (pss_cons (ps_fld (pv 0) (pe_x c_as_tuples hr (by(omega)) tk0 rfl (pa_cons (pv 5) pa_nil)) rfl)
    (pss_cons (ps_fld (pv 0) (pe_x c_as_tuples hr (by(omega)) tk0 rfl (pa_cons (pv 6) pa_nil)) rfl)
    (pss_cons (ps_fld (pv 0) (pe_x c_as_tuples hr (by(omega)) tk0 rfl (pa_cons (pv 7) pa_nil)) rfl)
    (pss_cons (ps_fld (pv 0) (pe_x c_as_tuples hr (by(omega)) tk0 rfl (pa_cons (pv 8) pa_nil)) rfl)
    (pss_cons (ps_fld (pv 0) (pe_x c_as_tuples hr (by(omega)) tk0 rfl (pa_cons (pv 9) pa_nil)) rfl)
    (pss_cons (ps_fld (pv 0) (pe_x c_as_tuples hr (by(omega)) tk0 rfl (pa_cons (pv 10) pa_nil)) rfl)
    (pss_cons (ps_fld (pv 0) (pe_x c_as_tuples hr (by(omega)) tk0 rfl (pa_cons (pv 11) pa_nil)) rfl)
    (pss_cons (ps_fld (pv 0) (pe_x c_as_tuples hr (by(omega)) tk0 rfl (pa_cons (pv 12) pa_nil)) rfl)
    (pss_cons (ps_fld (pv 0) (pe_x c_as_tuples hr (by(omega)) tk0 rfl (pa_cons (pv 13) pa_nil)) rfl)
    (pss_cons (ps_fld (pv 0) (pe_x c_as_tuples hr (by(omega)) tk0 rfl (pa_cons (pv 14) pa_nil)) rfl)
    (pss_one (ps_fld (pv 0) (pe_x c_as_tuples hr (by(omega)) tk0 rfl (pa_cons (pv 15) pa_nil)) rfl)))))))))))))))), ?_⟩
  unfold args15
  walk_at "r"
  have st : ∀ (Hc : Hp) (i : Nat), i < 15 → But (· = a) H Hc → ∀ (Q : VK) (E : XK), (∀ y H', Same Hc H' → Dp K H' y (asTup n (d i)) → Nol (asTup n (d i)) → Q y H') → sp_as_tuples K n [v i] Hc Q E :=
    fun Hc i hi' k Q E g => ⟨v i, d i, rfl, Dp.insBut hi k (hv i hi').1, (hv i hi').2, g⟩
  have k0 := But.refl (· = a) H
  have g0 := hi
  refine st H 0 (by decide) k0 _ _ fun y0 H1 e0 h0 n0 => ⟨C, dx, _, e0 _ _ g0, c.cls, c.no _ (by decide), by simp, ?_⟩
  generalize hK : upd H1 a (HO.ins C dx (putF "polynomial" y0 [])) = K1
  have b0 : But (· = a) H1 K1 := by rw [← hK]; exact But.upd rfl
  have g1 : K1 a = some (.ins C dx [("polynomial", y0)]) := by rw [← hK]; exact upd_same
  clear hK
  have k1 := (k0.trans (Same.but e0)).trans b0
  refine st K1 1 (by decide) k1 _ _ fun y1 H2 e1 h1 n1 => ⟨C, dx, _, e1 _ _ g1, c.cls, c.no _ (by decide), by simp, ?_⟩
  generalize hK : upd H2 a (HO.ins C dx (putF "paper" y1 [("polynomial", y0)])) = K2
  have b1 : But (· = a) H2 K2 := by rw [← hK]; exact But.upd rfl
  have g2 : K2 a = some (.ins C dx [("polynomial", y0), ("paper", y1)]) := by rw [← hK]; exact upd_same
  clear hK
  have k2 := (k1.trans (Same.but e1)).trans b1
  refine st K2 2 (by decide) k2 _ _ fun y2 H3 e2 h2 n2 => ⟨C, dx, _, e2 _ _ g2, c.cls, c.no _ (by decide), by simp, ?_⟩
  generalize hK : upd H3 a (HO.ins C dx (putF "stretches" y2 [("polynomial", y0), ("paper", y1)])) = K3
  have b2 : But (· = a) H3 K3 := by rw [← hK]; exact But.upd rfl
  have g3 : K3 a = some (.ins C dx [("polynomial", y0), ("paper", y1), ("stretches", y2)]) := by rw [← hK]; exact upd_same
  clear hK
  have k3 := (k2.trans (Same.but e2)).trans b2
  refine st K3 3 (by decide) k3 _ _ fun y3 H4 e3 h3 n3 => ⟨C, dx, _, e3 _ _ g3, c.cls, c.no _ (by decide), by simp, ?_⟩
  generalize hK : upd H4 a (HO.ins C dx (putF "base" y3 [("polynomial", y0), ("paper", y1), ("stretches", y2)])) = K4
  have b3 : But (· = a) H4 K4 := by rw [← hK]; exact But.upd rfl
  have g4 : K4 a = some (.ins C dx [("polynomial", y0), ("paper", y1), ("stretches", y2), ("base", y3)]) := by rw [← hK]; exact upd_same
  clear hK
  have k4 := (k3.trans (Same.but e3)).trans b3
  refine st K4 4 (by decide) k4 _ _ fun y4 H5 e4 h4 n4 => ⟨C, dx, _, e4 _ _ g4, c.cls, c.no _ (by decide), by simp, ?_⟩
  generalize hK : upd H5 a (HO.ins C dx (putF "greatest" y4 [("polynomial", y0), ("paper", y1), ("stretches", y2), ("base", y3)])) = K5
  have b4 : But (· = a) H5 K5 := by rw [← hK]; exact But.upd rfl
  have g5 : K5 a = some (.ins C dx [("polynomial", y0), ("paper", y1), ("stretches", y2), ("base", y3), ("greatest", y4)]) := by rw [← hK]; exact upd_same
  clear hK
  have k5 := (k4.trans (Same.but e4)).trans b4
  refine st K5 5 (by decide) k5 _ _ fun y5 H6 e5 h5 n5 => ⟨C, dx, _, e5 _ _ g5, c.cls, c.no _ (by decide), by simp, ?_⟩
  generalize hK : upd H6 a (HO.ins C dx (putF "bound" y5 [("polynomial", y0), ("paper", y1), ("stretches", y2), ("base", y3), ("greatest", y4)])) = K6
  have b5 : But (· = a) H6 K6 := by rw [← hK]; exact But.upd rfl
  have g6 : K6 a = some (.ins C dx [("polynomial", y0), ("paper", y1), ("stretches", y2), ("base", y3), ("greatest", y4), ("bound", y5)]) := by rw [← hK]; exact upd_same
  clear hK
  have k6 := (k5.trans (Same.but e5)).trans b5
  refine st K6 6 (by decide) k6 _ _ fun y6 H7 e6 h6 n6 => ⟨C, dx, _, e6 _ _ g6, c.cls, c.no _ (by decide), by simp, ?_⟩
  generalize hK : upd H7 a (HO.ins C dx (putF "above" y6 [("polynomial", y0), ("paper", y1), ("stretches", y2), ("base", y3), ("greatest", y4), ("bound", y5)])) = K7
  have b6 : But (· = a) H7 K7 := by rw [← hK]; exact But.upd rfl
  have g7 : K7 a = some (.ins C dx [("polynomial", y0), ("paper", y1), ("stretches", y2), ("base", y3), ("greatest", y4), ("bound", y5), ("above", y6)]) := by rw [← hK]; exact upd_same
  clear hK
  have k7 := (k6.trans (Same.but e6)).trans b6
  refine st K7 7 (by decide) k7 _ _ fun y7 H8 e7 h7 n7 => ⟨C, dx, _, e7 _ _ g7, c.cls, c.no _ (by decide), by simp, ?_⟩
  generalize hK : upd H8 a (HO.ins C dx (putF "gens" y7 [("polynomial", y0), ("paper", y1), ("stretches", y2), ("base", y3), ("greatest", y4), ("bound", y5), ("above", y6)])) = K8
  have b7 : But (· = a) H8 K8 := by rw [← hK]; exact But.upd rfl
  have g8 : K8 a = some (.ins C dx [("polynomial", y0), ("paper", y1), ("stretches", y2), ("base", y3), ("greatest", y4), ("bound", y5), ("above", y6), ("gens", y7)]) := by rw [← hK]; exact upd_same
  clear hK
  have k8 := (k7.trans (Same.but e7)).trans b7
  refine st K8 8 (by decide) k8 _ _ fun y8 H9 e8 h8 n8 => ⟨C, dx, _, e8 _ _ g8, c.cls, c.no _ (by decide), by simp, ?_⟩
  generalize hK : upd H9 a (HO.ins C dx (putF "orders" y8 [("polynomial", y0), ("paper", y1), ("stretches", y2), ("base", y3), ("greatest", y4), ("bound", y5), ("above", y6), ("gens", y7)])) = K9
  have b8 : But (· = a) H9 K9 := by rw [← hK]; exact But.upd rfl
  have g9 : K9 a = some (.ins C dx [("polynomial", y0), ("paper", y1), ("stretches", y2), ("base", y3), ("greatest", y4), ("bound", y5), ("above", y6), ("gens", y7), ("orders", y8)]) := by rw [← hK]; exact upd_same
  clear hK
  have k9 := (k8.trans (Same.but e8)).trans b8
  refine st K9 9 (by decide) k9 _ _ fun y9 H10 e9 h9 n9 => ⟨C, dx, _, e9 _ _ g9, c.cls, c.no _ (by decide), by simp, ?_⟩
  generalize hK : upd H10 a (HO.ins C dx (putF "goals" y9 [("polynomial", y0), ("paper", y1), ("stretches", y2), ("base", y3), ("greatest", y4), ("bound", y5), ("above", y6), ("gens", y7), ("orders", y8)])) = K10
  have b9 : But (· = a) H10 K10 := by rw [← hK]; exact But.upd rfl
  have g10 : K10 a = some (.ins C dx [("polynomial", y0), ("paper", y1), ("stretches", y2), ("base", y3), ("greatest", y4), ("bound", y5), ("above", y6), ("gens", y7), ("orders", y8), ("goals", y9)]) := by rw [← hK]; exact upd_same
  clear hK
  have k10 := (k9.trans (Same.but e9)).trans b9
  refine st K10 10 (by decide) k10 _ _ fun y10 H11 e10 h10 n10 => ⟨C, dx, _, e10 _ _ g10, c.cls, c.no _ (by decide), by simp, ?_⟩
  generalize hK : upd H11 a (HO.ins C dx (putF "rows" y10 [("polynomial", y0), ("paper", y1), ("stretches", y2), ("base", y3), ("greatest", y4), ("bound", y5), ("above", y6), ("gens", y7), ("orders", y8), ("goals", y9)])) = K11
  have b10 : But (· = a) H11 K11 := by rw [← hK]; exact But.upd rfl
  have g11 : K11 a = some (.ins C dx [("polynomial", y0), ("paper", y1), ("stretches", y2), ("base", y3), ("greatest", y4), ("bound", y5), ("above", y6), ("gens", y7), ("orders", y8), ("goals", y9), ("rows", y10)]) := by rw [← hK]; exact upd_same
  clear hK
  have k11 := (k10.trans (Same.but e10)).trans b10
  refine st K11 11 (by decide) k11 _ _ fun y11 H12 e11 h11 n11 => ⟨C, dx, _, e11 _ _ g11, c.cls, c.no _ (by decide), by simp, ?_⟩
  generalize hK : upd H12 a (HO.ins C dx (putF "torsion" y11 [("polynomial", y0), ("paper", y1), ("stretches", y2), ("base", y3), ("greatest", y4), ("bound", y5), ("above", y6), ("gens", y7), ("orders", y8), ("goals", y9), ("rows", y10)])) = K12
  have b11 : But (· = a) H12 K12 := by rw [← hK]; exact But.upd rfl
  have g12 : K12 a = some (.ins C dx [("polynomial", y0), ("paper", y1), ("stretches", y2), ("base", y3), ("greatest", y4), ("bound", y5), ("above", y6), ("gens", y7), ("orders", y8), ("goals", y9), ("rows", y10), ("torsion", y11)]) := by rw [← hK]; exact upd_same
  clear hK
  have k12 := (k11.trans (Same.but e11)).trans b11
  refine st K12 12 (by decide) k12 _ _ fun y12 H13 e12 h12 n12 => ⟨C, dx, _, e12 _ _ g12, c.cls, c.no _ (by decide), by simp, ?_⟩
  generalize hK : upd H13 a (HO.ins C dx (putF "units" y12 [("polynomial", y0), ("paper", y1), ("stretches", y2), ("base", y3), ("greatest", y4), ("bound", y5), ("above", y6), ("gens", y7), ("orders", y8), ("goals", y9), ("rows", y10), ("torsion", y11)])) = K13
  have b12 : But (· = a) H13 K13 := by rw [← hK]; exact But.upd rfl
  have g13 : K13 a = some (.ins C dx [("polynomial", y0), ("paper", y1), ("stretches", y2), ("base", y3), ("greatest", y4), ("bound", y5), ("above", y6), ("gens", y7), ("orders", y8), ("goals", y9), ("rows", y10), ("torsion", y11), ("units", y12)]) := by rw [← hK]; exact upd_same
  clear hK
  have k13 := (k12.trans (Same.but e12)).trans b12
  refine st K13 13 (by decide) k13 _ _ fun y13 H14 e13 h13 n13 => ⟨C, dx, _, e13 _ _ g13, c.cls, c.no _ (by decide), by simp, ?_⟩
  generalize hK : upd H14 a (HO.ins C dx (putF "limit" y13 [("polynomial", y0), ("paper", y1), ("stretches", y2), ("base", y3), ("greatest", y4), ("bound", y5), ("above", y6), ("gens", y7), ("orders", y8), ("goals", y9), ("rows", y10), ("torsion", y11), ("units", y12)])) = K14
  have b13 : But (· = a) H14 K14 := by rw [← hK]; exact But.upd rfl
  have g14 : K14 a = some (.ins C dx [("polynomial", y0), ("paper", y1), ("stretches", y2), ("base", y3), ("greatest", y4), ("bound", y5), ("above", y6), ("gens", y7), ("orders", y8), ("goals", y9), ("rows", y10), ("torsion", y11), ("units", y12), ("limit", y13)]) := by rw [← hK]; exact upd_same
  clear hK
  have k14 := (k13.trans (Same.but e13)).trans b13
  refine st K14 14 (by decide) k14 _ _ fun y14 H15 e14 h14 n14 => ⟨C, dx, _, e14 _ _ g14, c.cls, c.no _ (by decide), by simp, ?_⟩
  generalize hK : upd H15 a (HO.ins C dx (putF "signs" y14 [("polynomial", y0), ("paper", y1), ("stretches", y2), ("base", y3), ("greatest", y4), ("bound", y5), ("above", y6), ("gens", y7), ("orders", y8), ("goals", y9), ("rows", y10), ("torsion", y11), ("units", y12), ("limit", y13)])) = K15
  have b14 : But (· = a) H15 K15 := by rw [← hK]; exact But.upd rfl
  have g15 : K15 a = some (.ins C dx [("polynomial", y0), ("paper", y1), ("stretches", y2), ("base", y3), ("greatest", y4), ("bound", y5), ("above", y6), ("gens", y7), ("orders", y8), ("goals", y9), ("rows", y10), ("torsion", y11), ("units", y12), ("limit", y13), ("signs", y14)]) := by rw [← hK]; exact upd_same
  clear hK
  have k15 := (k14.trans (Same.but e14)).trans b14
  have B14 := b14
  have B13 := (b13.trans (Same.but e14)).trans B14
  have B12 := (b12.trans (Same.but e13)).trans B13
  have B11 := (b11.trans (Same.but e12)).trans B12
  have B10 := (b10.trans (Same.but e11)).trans B11
  have B9 := (b9.trans (Same.but e10)).trans B10
  have B8 := (b8.trans (Same.but e9)).trans B9
  have B7 := (b7.trans (Same.but e8)).trans B8
  have B6 := (b6.trans (Same.but e7)).trans B7
  have B5 := (b5.trans (Same.but e6)).trans B6
  have B4 := (b4.trans (Same.but e5)).trans B5
  have B3 := (b3.trans (Same.but e4)).trans B4
  have B2 := (b2.trans (Same.but e3)).trans B3
  have B1 := (b1.trans (Same.but e2)).trans B2
  have B0 := (b0.trans (Same.but e1)).trans B1
  refine q K15 (fun i => [y0, y1, y2, y3, y4, y5, y6, y7, y8, y9, y10, y11, y12, y13, y14].getD i .non) k15 ⟨c, g15, fun i hi => ?_⟩
  match i, hi with
  | 0, _ => exact ⟨Dp.insBut (e0 _ _ g0) B0 h0, n0⟩
  | 1, _ => exact ⟨Dp.insBut (e1 _ _ g1) B1 h1, n1⟩
  | 2, _ => exact ⟨Dp.insBut (e2 _ _ g2) B2 h2, n2⟩
  | 3, _ => exact ⟨Dp.insBut (e3 _ _ g3) B3 h3, n3⟩
  | 4, _ => exact ⟨Dp.insBut (e4 _ _ g4) B4 h4, n4⟩
  | 5, _ => exact ⟨Dp.insBut (e5 _ _ g5) B5 h5, n5⟩
  | 6, _ => exact ⟨Dp.insBut (e6 _ _ g6) B6 h6, n6⟩
  | 7, _ => exact ⟨Dp.insBut (e7 _ _ g7) B7 h7, n7⟩
  | 8, _ => exact ⟨Dp.insBut (e8 _ _ g8) B8 h8, n8⟩
  | 9, _ => exact ⟨Dp.insBut (e9 _ _ g9) B9 h9, n9⟩
  | 10, _ => exact ⟨Dp.insBut (e10 _ _ g10) B10 h10, n10⟩
  | 11, _ => exact ⟨Dp.insBut (e11 _ _ g11) B11 h11, n11⟩
  | 12, _ => exact ⟨Dp.insBut (e12 _ _ g12) B12 h12, n12⟩
  | 13, _ => exact ⟨Dp.insBut (e13 _ _ g13) B13 h13, n13⟩
  | 14, _ => exact ⟨Dp.insBut (e14 _ _ g14) B14 h14, n14⟩
  | _ + 15, h => omega
theorem Bk.get {H : Hp} {a dx : Addr} {v : Nat → V} {d : Nat → PyData} (bk : Bk K C H a dx v d) {x : Str} {i : Nat} (hx : x ∈ nmB) (hl : List.lookup x (bkF v) = some (v i)) {R : V → Prop} (q : R (v i)) : ∃ C' dx' fs', H a = some (.ins C' dx' fs') ∧ Cls K C' ∧ NoAttr K C' x ∧ ∃ y, List.lookup x fs' = some y ∧ R y := ⟨C, dx, _, bk.ins, bk.cls.cls, bk.cls.no _ hx, _, hl, q⟩
/-- the fifteen values -/
def sp_values_of (K : PySem.W.Frag) (C : Addr) : Sp := fun vs H Q _ => ∃ (a dx : Addr) (v : Nat → V) (d : Nat → PyData), vs = [.ref a] ∧ Bk K C H a dx v d ∧ ∀ l H', Same H H' → SqT K H' l (args15 v) → Q (.ref l) H'
theorem ok_values_of (D : C8.Def K mg "values_of" s_values_of f fd) (b : Binds K fd ["book"] []) : CalX P w K mg base 1 "values_of" (sp_values_of K C) := by
  have nd := sc_values_of.nd
  refine calX D b sc_values_of (fun vs H Q E h => by obtain ⟨a, dx, v, d, rfl, _⟩ := h; rfl) fun cdv A outer s H vs Q E hr h => ?_
  obtain ⟨a, dx, v, d, rfl, bk, q⟩ := h
  refine ⟨_, (pss_cons (ps_set (i := 1) nd rfl (Or.inl rfl) (pe_tup (pa_cons (pe_fld (pv 0) rfl) (pa_cons (pe_fld (pv 0) rfl) (pa_cons (pe_fld (pv 0) rfl) (pa_cons (pe_fld (pv 0) rfl) (pa_cons (pe_fld (pv 0) rfl) (pa_cons (pe_fld (pv 0) rfl) (pa_cons (pe_fld (pv 0) rfl) pa_nil)))))))))
    (pss_one (ps_ret (pe_op op_catT (pv 1) (pe_tup (pa_cons (pe_fld (pv 0) rfl) (pa_cons (pe_fld (pv 0) rfl) (pa_cons (pe_fld (pv 0) rfl) (pa_cons (pe_fld (pv 0) rfl) (pa_cons (pe_fld (pv 0) rfl) (pa_cons (pe_fld (pv 0) rfl) (pa_cons (pe_fld (pv 0) rfl) (pa_cons (pe_fld (pv 0) rfl) pa_nil))))))))))))), ?_⟩
  walk_at "r"

  refine bk.get (i := 0) (by decide) rfl ?_
  refine bk.get (i := 1) (by decide) rfl ?_
  refine bk.get (i := 2) (by decide) rfl ?_
  refine bk.get (i := 3) (by decide) rfl ?_
  refine bk.get (i := 4) (by decide) rfl ?_
  refine bk.get (i := 5) (by decide) rfl ?_
  refine bk.get (i := 6) (by decide) rfl ?_
  refine ⟨sz (by decide), fun p1 n1 => ?_⟩
  have s1 := same_new n1 (.tup [v 0, v 1, v 2, v 3, v 4, v 5, v 6])
  have bk1 := bk.same s1
  refine bk1.get (i := 7) (by decide) rfl ?_
  refine bk1.get (i := 8) (by decide) rfl ?_
  refine bk1.get (i := 9) (by decide) rfl ?_
  refine bk1.get (i := 10) (by decide) rfl ?_
  refine bk1.get (i := 11) (by decide) rfl ?_
  refine bk1.get (i := 12) (by decide) rfl ?_
  refine bk1.get (i := 13) (by decide) rfl ?_
  refine bk1.get (i := 14) (by decide) rfl ?_
  refine ⟨sz (by decide), fun p2 n2 => ?_⟩
  have s2 := same_new n2 (.tup [v 7, v 8, v 9, v 10, v 11, v 12, v 13, v 14])
  refine ⟨p1, p2, _, _, rfl, rfl, .inl (.inl (s2 _ _ upd_same)), .inl (.inl upd_same), by simp, sz (by simp), ⟨fun z => (nomatch z), fun _ p3 n3 => ?_⟩⟩
  exact q p3 _ ((s1.trans s2).trans (same_new n3 _)) (.inl (.inl upd_same))
end
end FP
set_option maxHeartbeats 1000000
namespace FP
open PySem PySem.Spec PyProof.Rows L2
local macro_rules | `(tactic| walk_at "rd") => `(tactic| dsimp only [tVar, tC, tCmp, tIsN, tNotN, tB, tAnd, tOr, tNot, tAndV, tOrV, tNotV, tIf, tNext, tSeq, tBreak, tCont, tDrop, tRet, tRetN, tIfS, tNever, tAsg, tPar, tAug, tOp, tUn, tTest, tChain, tFld, tNil, tCons, tTup, tLst, tCB, iList, iTup, iStr, tLc, tM0, tM1, tPart, tNoPart, tSl, tBM, tCallS, tCallSD, tMethW, tMake, sDPut, tDisp, tPairs, tXf, WE, tDGet, tDIn, gName, gTup, gCons, gNil, gSub, sFld, sFldAug, rI, rI0, rU, rEq, rNe, rAdd, rSub, t2I, tYes, cx_K, cx_w, cx_prog])
local macro_rules | `(tactic| walk_at "rs") => `(tactic| (try simp (maxSteps := 4000000) only [L2.start, List.map_cons, List.map_nil, List.length_cons, List.length_nil, List.cons_append, List.nil_append, Nat.reduceAdd, Nat.reduceSub, Nat.zero_add, List.replicate, List.getElem?_cons_zero, List.getElem?_cons_succ, Option.some.injEq, exists_eq_left', exists_eq_left, V.int.injEq, V.str.injEq, V.bl.injEq, V.ref.injEq, List.set_cons_zero, List.set_cons_succ, exists_and_left, List.cons.injEq, and_true, true_and, wipe, if_true, if_false, Bool.not_true, Bool.not_false, Bool.false_eq_true, decide_true, decide_false]))
local macro_rules | `(tactic| walk_at "r") => `(tactic| (walk_at "rd"; walk_at "rs"))
local macro_rules | `(tactic| walk_at "T") => `(tactic| (rw [if_pos (by first | assumption | rfl | decide | exact decide_eq_true (by assumption) | (simp [tyOf]; done) | (simp; omega) | omega)]; walk_at "rs"))
local macro_rules | `(tactic| walk_at "F") => `(tactic| (rw [if_neg (by first | assumption | decide | (simp [tyOf]; done) | (simp; omega) | (simp; assumption) | omega)]; walk_at "rs"))
open LamX
/-! ### is_book, need_book -/
section
variable {P : Program} {w : World} {K : PySem.W.Frag} {mg : Str → Option Value} {base : Heap} {f : Addr} {fd : FuncData} {C CT CR : Addr}
def dl (d : Nat → PyData) : List PyData := [d 0, d 1, d 2, d 3, d 4, d 5, d 6, d 7, d 8, d 9, d 10, d 11, d 12, d 13, d 14]
theorem args15_len (v : Nat → V) : (args15 v).length = 15 := rfl
theorem dl_len (d : Nat → PyData) : (dl d).length = 15 := rfl
theorem args15_get (v : Nat → V) {i : Nat} (h : i < 15) : (args15 v)[i]? = some (v i) := by
  match i, h with
  | 0, _ | 1, _ | 2, _ | 3, _ | 4, _ | 5, _ | 6, _ | 7, _ | 8, _ | 9, _ | 10, _ | 11, _ | 12, _ | 13, _ | 14, _ => rfl
  | _ + 15, h => omega
theorem dl_get (d : Nat → PyData) {i : Nat} (h : i < 15) : (dl d)[i]? = some (d i) := by
  match i, h with
  | 0, _ | 1, _ | 2, _ | 3, _ | 4, _ | 5, _ | 6, _ | 7, _ | 8, _ | 9, _ | 10, _ | 11, _ | 12, _ | 13, _ | 14, _ => rfl
  | _ + 15, h => omega
theorem Bk.all {H : Hp} {a dx : Addr} {v : Nat → V} {d : Nat → PyData} (bk : Bk K C H a dx v d) : DpAll K H (args15 v) (dl d) := by
  refine DpAll.of_get rfl fun i x y hx hy => ?_
  have hi : i < 15 := (List.getElem?_eq_some_iff.mp hx).1
  rw [args15_get v hi] at hx
  rw [dl_get d hi] at hy
  cases hx; cases hy
  exact (bk.dat i hi).1
def sp_is_book (K : PySem.W.Frag) (C : Addr) (n : Nat) : Sp := fun vs H Q _ => ∃ x, vs = [x] ∧
  ((∃ (a dx : Addr) (v : Nat → V) (d : Nat → PyData), x = .ref a ∧ Bk K C H a dx v d ∧ (∀ i, i < 15 → fine n (d i)) ∧ ∀ H', Same H H' → Q (.bl ((dl d).all (plB n))) H') ∨ (∃ t, Kd K H x t ∧ Q (.bl false) H))
theorem ok_is_book (Z : Zb mg) (D : C8.Def K mg "is_book" s_is_book f fd) (b : Binds K fd ["value"] []) {n : Nat} (hn : n ≤ 50) (BC : BkC K C) (G_Book : mg "Book" = some (.ref C)) (c_values_of : CalX P w K mg base 1 "values_of" (sp_values_of K C)) (c_is_plain : CalD P w K mg base (n + 3) "is_plain" [.int 0] (sp_is_plain K n)) : CalX P w K mg base (n + 4) "is_book" (sp_is_book K C n) := by
  have nd := sc_is_book.nd
  refine calX D b sc_is_book (fun vs H Q E h => by obtain ⟨x, rfl, _⟩ := h; rfl) fun cdv A outer s H vs Q E hr h => ?_
  obtain ⟨x, rfl, h⟩ := h
  refine ⟨_, (pss_one (ps_ret (pe_and (pe_callB call_isi rfl Z.isinstance PyProof.Rows.boot_isinstance (pa_cons (pv 0) (pa_cons (pe_ref rfl G_Book) pa_nil))) (pe_one (pe_callB (cr_all rfl) rfl Z.all PyProof.Rows.boot_all (pa_cons (pe_lc (own := [("one", 1)]) rfl nd (pi_seq (pe_x c_values_of hr (by(omega)) tk0 rfl (pa_cons (pv 0) pa_nil))) (blkOk_by (N := ["value", "one"]) (sc := C8.fnScope s_is_book) (by decide +kernel)) (fun _ _ _ _ _ => (pg_name (i := 1) nd rfl (Or.inl rfl))) (fun _ _ _ _ _ => pts_nil) (fun _ _ _ _ _ => (pe_xD c_is_plain hr (by(omega)) tk0 rfl (pa_cons (pv 1) pa_nil)))) pa_nil)))))), ?_⟩
  walk_at "r"
  rcases h with ⟨a, dx, v, d, rfl, bk, hf, q⟩ | ⟨t, kd, q⟩
  · refine ⟨_, _, _, _, true, rfl, .own C, bk.ty, bk.cls.self, true, rfl, ?_⟩
    rw [if_pos rfl]
    refine .inr ⟨a, dx, v, d, rfl, bk, fun l H1 e1 hl => ⟨l, rfl, ⟨_, hl⟩, fun D nD => ?_⟩⟩
    refine comp_bl walk_tup (szL (by rw [args15_len]; decide)) nD (B := fun x H Q => sp_is_plain K n [x, .int 0] H Q _) ((dl d).map (plB n)) (by rw [List.length_map]; rfl) (fun H' e => SqT.same (Same.of_but nD e) hl) (fun i x b H' Q' hx hb e' q' => ?_) fun H' e' hD => ?_
    · obtain ⟨d', hd', dp⟩ := DpAll.getV (DpAll.same (e1.trans e') bk.all) hx
      rw [List.getElem?_map, hd'] at hb
      cases hb
      have hi : i < 15 := (List.getElem?_eq_some_iff.mp hd').1
      rw [dl_get d hi] at hd'
      cases hd'
      exact ⟨x, 0, rfl, by decide, by omega, .inl ⟨d i, dp, hf i hi, q'⟩⟩
    · refine ⟨D, _, rfl, .inl (.inl hD), ?_⟩
      have z := q _ (e1.trans e')
      rw [List.all_map]
      exact z
  · refine ⟨_, _, _, _, false, rfl, .own C, kd.ty, BC.kit t kd.kn, false, rfl, ?_⟩
    rw [if_neg (by decide)]
    exact q
def sp_need_book (K : PySem.W.Frag) (C CR : Addr) (n : Nat) : Sp := fun vs H Q E => ∃ x, vs = [x] ∧
  ((∃ (a dx : Addr) (v : Nat → V) (d : Nat → PyData), x = .ref a ∧ Bk K C H a dx v d ∧ (∀ i, i < 15 → fine n (d i)) ∧ (dl d).all (plB n) = true ∧ ∀ H', Same H H' → Q .non H') ∨
   (((∃ (a dx : Addr) (v : Nat → V) (d : Nat → PyData), x = .ref a ∧ Bk K C H a dx v d ∧ (∀ i, i < 15 → fine n (d i)) ∧ (dl d).all (plB n) = false) ∨ ∃ t, Kd K H x t) ∧ ∀ H' dd, Same H H' → H' dd = some (.xd [("what", .str "book")]) → E (.ref CR) (some dd) H'))
theorem ok_need_book (D : C8.Def K mg "need_book" s_need_book f fd) (b : Binds K fd ["book"] []) {n : Nat} (R_BadPaper : ErrX1 P w K mg base "BadPaper" CR "what") (c_is_book : CalX P w K mg base (n + 4) "is_book" (sp_is_book K C n)) : CalX P w K mg base (n + 5) "need_book" (sp_need_book K C CR n) := by
  refine calX D b sc_need_book (fun vs H Q E h => by obtain ⟨x, rfl, _⟩ := h; rfl) fun cdv A outer s H vs Q E hr h => ?_
  obtain ⟨x, rfl, h⟩ := h
  refine ⟨_, (pss_one (ps_if (pt_not (pt_val (pe_x c_is_book hr (by(omega)) tkw rfl (pa_cons (pv 0) pa_nil)))) (pss_one (ps_raiseX1 R_BadPaper rfl hr (by omega) tkw rfl pe_str)) pss_nil)), ?_⟩
  walk_at "r"
  have er : (∀ H' dd, Same H H' → H' dd = some (.xd [("what", .str "book")]) → E (.ref CR) (some dd) H') → ∀ H1, Same H H1 → ∀ d, H1 d = none → E (.ref CR) (some d) (upd H1 d (.xd [("what", .str "book")])) := fun q H1 e d nd => q _ d (e.trans (same_new nd _)) upd_same
  rcases h with ⟨a, dx, v, d, rfl, bk, hf, hp, q⟩ | ⟨⟨a, dx, v, d, rfl, bk, hf, hp⟩ | ⟨t, kd⟩, q⟩
  · refine ⟨_, rfl, .inl ⟨a, dx, v, d, rfl, bk, hf, fun H1 e1 => ⟨_, rfl, ?_⟩⟩⟩
    rw [hp, if_neg (by decide)]
    exact q H1 e1
  · refine ⟨_, rfl, .inl ⟨a, dx, v, d, rfl, bk, hf, fun H1 e1 => ⟨_, rfl, ?_⟩⟩⟩
    rw [hp, if_pos (by decide)]
    exact er q H1 e1
  · refine ⟨_, rfl, .inr ⟨t, kd, _, rfl, ?_⟩⟩
    rw [if_pos (by decide)]
    exact er q H (Same.refl H)
end
end FP
set_option maxHeartbeats 1000000
namespace FP
open PySem PySem.Spec PyProof.Rows L2
local macro_rules | `(tactic| walk_at "rd") => `(tactic| dsimp only [tVar, tC, tCmp, tIsN, tNotN, tB, tAnd, tOr, tNot, tAndV, tOrV, tNotV, tIf, tNext, tSeq, tBreak, tCont, tDrop, tRet, tRetN, tIfS, tNever, tAsg, tPar, tAug, tOp, tUn, tTest, tChain, tFld, tNil, tCons, tTup, tLst, tCB, iList, iTup, iStr, tLc, tM0, tM1, tPart, tNoPart, tSl, tBM, tCallS, tCallSD, tMethW, tMake, sDPut, tDisp, tPairs, tXf, WE, tDGet, tDIn, gName, gTup, gCons, gNil, gSub, sFld, sFldAug, rI, rI0, rU, rEq, rNe, rAdd, rSub, t2I, tYes, cx_K, cx_w, cx_prog])
local macro_rules | `(tactic| walk_at "rs") => `(tactic| (try simp (maxSteps := 4000000) only [L2.start, List.map_cons, List.map_nil, List.length_cons, List.length_nil, List.cons_append, List.nil_append, Nat.reduceAdd, Nat.reduceSub, Nat.zero_add, List.replicate, List.getElem?_cons_zero, List.getElem?_cons_succ, Option.some.injEq, exists_eq_left', exists_eq_left, V.int.injEq, V.str.injEq, V.bl.injEq, V.ref.injEq, List.set_cons_zero, List.set_cons_succ, exists_and_left, List.cons.injEq, and_true, true_and, wipe, if_true, if_false, Bool.not_true, Bool.not_false, Bool.false_eq_true, decide_true, decide_false]))
local macro_rules | `(tactic| walk_at "r") => `(tactic| (walk_at "rd"; walk_at "rs"))
local macro_rules | `(tactic| walk_at "T") => `(tactic| (rw [if_pos (by first | assumption | rfl | decide | exact decide_eq_true (by assumption) | (simp [tyOf]; done) | (simp; omega) | omega)]; walk_at "rs"))
local macro_rules | `(tactic| walk_at "F") => `(tactic| (rw [if_neg (by first | assumption | decide | (simp [tyOf]; done) | (simp; omega) | (simp; assumption) | omega)]; walk_at "rs"))
open LamX
/-! ### book_text -/
def nmc : List (List Nat) := [[112, 111, 108, 121, 110, 111, 109, 105, 97, 108], [112, 97, 112, 101, 114], [115, 116, 114, 101, 116, 99, 104, 101, 115], [98, 97, 115, 101], [103, 114, 101, 97, 116, 101, 115, 116], [98, 111, 117, 110, 100], [97, 98, 111, 118, 101], [103, 101, 110, 115], [111, 114, 100, 101, 114, 115], [103, 111, 97, 108, 115], [114, 111, 119, 115], [116, 111, 114, 115, 105, 111, 110], [117, 110, 105, 116, 115], [108, 105, 109, 105, 116], [115, 105, 103, 110, 115]]
theorem nmc_eq : nmB.map V.str = nmc.map strV := by decide +kernel
theorem nmc_len : nmc.length = 15 := rfl
def nmi (i : Nat) : List Nat := nmc.getD i []
def lineL (n : Nat) (d : PyData) (i : Nat) : List Nat := (nmi i ++ [32]) ++ textV n d
def linesL (n : Nat) (d : Nat → PyData) : List (List Nat) := (List.range 15).map fun i => lineL n (d i) i
theorem nmi_get {i : Nat} (h : i < 15) : nmc[i]? = some (nmi i) := by
  unfold nmi
  rw [List.getD_eq_getElem?_getD, List.getElem?_eq_getElem (show i < nmc.length from h)]; rfl
theorem nmi_len {i : Nat} : (nmi i).length ≤ 10 := by
  by_cases h : i < 15
  · match i, h with
    | 0, _ | 1, _ | 2, _ | 3, _ | 4, _ | 5, _ | 6, _ | 7, _ | 8, _ | 9, _ | 10, _ | 11, _ | 12, _ | 13, _ | 14, _ => decide
    | _ + 15, h => omega
  · unfold nmi
    rw [List.getD_eq_getElem?_getD, List.getElem?_eq_none (by rw [nmc_len]; omega)]; decide
section
variable {P : Program} {w : World} {K : PySem.W.Frag} {mg : Str → Option Value} {base : Heap} {f : Addr} {fd : FuncData} {C CT CR : Addr}
def NmG (K : PySem.W.Frag) (mg : Str → Option Value) (TN : Addr) : Prop := mg "NAMES" = some (.ref TN) ∧ ∀ H, SqT K H TN (nmc.map strV)
def sp_book_text (K : PySem.W.Frag) (C CR : Addr) (n : Nat) : Sp := fun vs H Q E => ∃ x, vs = [x] ∧
  ((∃ (a dx : Addr) (v : Nat → V) (d : Nat → PyData), x = .ref a ∧ Bk K C H a dx v d ∧ (∀ i, i < 15 → fine n (d i) ∧ Tw n (d i) ∧ (textV n (d i)).length ≤ 100000) ∧ (dl d).all (plB n) = true ∧ ∀ H', Same H H' → Q (.str (SX.S (TL.joinL [10] (linesL n d)))) H') ∨
   (((∃ (a dx : Addr) (v : Nat → V) (d : Nat → PyData), x = .ref a ∧ Bk K C H a dx v d ∧ (∀ i, i < 15 → fine n (d i)) ∧ (dl d).all (plB n) = false) ∨ ∃ t, Kd K H x t) ∧ ∀ H' dd, Same H H' → H' dd = some (.xd [("what", .str "book")]) → E (.ref CR) (some dd) H'))
theorem ok_book_text (D : C8.Def K mg "book_text" s_book_text f fd) (b : Binds K fd ["book"] []) {n : Nat} {TN : Addr} (Z_zip : mg "zip" = none) (NG : NmG K mg TN) (c_need_book : CalX P w K mg base (n + 5) "need_book" (sp_need_book K C CR n)) (c_values_of : CalX P w K mg base 1 "values_of" (sp_values_of K C)) (c_text_of_value : CalX P w K mg base (n + 3) "text_of_value" (sp_text_of_value K n)) : CalX P w K mg base (n + 6) "book_text" (sp_book_text K C CR n) := by
  have nd := sc_book_text.nd
  have G_NAMES := NG.1
  refine calX D b sc_book_text (fun vs H Q E h => by obtain ⟨x, rfl, _⟩ := h; rfl) fun cdv A outer s H vs Q E hr h => ?_
  obtain ⟨x, rfl, h⟩ := h
  refine ⟨_, (pss_cons (ps_expr (pe_x c_need_book hr (by(omega)) tkw rfl (pa_cons (pv 0) pa_nil)))
    (pss_one (ps_ret (pe_join pe_str (pe_lc (g := gTup K 2 (gCons (gName 1) (gCons (gName 2) gNil))) (own := [("name", 1), ("value", 2)]) rfl nd (RZ.pi_zipA rfl Z_zip (pa_cons (pe_ref rfl G_NAMES) (pa_cons (pe_x c_values_of hr (by(omega)) tkw rfl (pa_cons (pv 0) pa_nil)) pa_nil))) (blkOk_by (N := ["book", "name", "value"]) (sc := C8.fnScope s_book_text) (by decide +kernel)) (fun _ _ _ _ _ => (pg_tup rfl (pgs_cons (pg_name (i := 1) nd rfl (Or.inl rfl)) (pgs_cons (pg_name (i := 2) nd rfl (Or.inl rfl)) pgs_nil)))) (fun _ _ _ _ _ => pts_nil) (fun _ _ _ _ _ => (pe_op op_add_str (pe_op op_add_str (pv 1) pe_str) (pe_x c_text_of_value hr (by(omega)) tk0 rfl (pa_cons (pv 2) pa_nil))))))))), ?_⟩
  walk_at "r"
  rcases h with ⟨a, dx, v, d, rfl, bk, hf, hp, q⟩ | ⟨hb, q⟩
  · refine ⟨_, rfl, .inl ⟨a, dx, v, d, rfl, bk, fun i hi => (hf i hi).1, hp, fun H1 e1 => ?_⟩⟩
    refine ⟨⟨_, rfl⟩, .ref a, rfl, a, dx, v, d, rfl, bk.same e1, fun l H2 e2 hl => ⟨TN, l, _, _, rfl, .inr ⟨NG.2 H2, hl, fun D nD => ?_⟩⟩⟩
    have e12 := e1.trans e2
    refine comp_pair (n := 15) (walk_zipT (K := K) (a := TN) (b := l) (xs := nmc.map strV) (ys := args15 v) rfl rfl) (szL (by decide)) nD
      (B := fun x H' Qy => ∃ a4, x = .ref a4 ∧ ∃ xs, SqT K H' a4 xs ∧ xs.length = 2 ∧ ∃ v1 r, xs = v1 :: r ∧ ∃ v2 r2, r = v2 :: r2 ∧ r2 = [] ∧ ∃ i, v1 = .str i ∧ i.length + (Str.ofString " ").length ≤ sizeLine ∧
        sp_text_of_value K n [v2] H' (fun y H2 => ∃ x, y = .str x ∧ (i ++ Str.ofString " ").length + x.length ≤ sizeLine ∧ Qy (.str ((i ++ Str.ofString " ") ++ x)) H2) (WE (fun _ _ _ _ => False) [some (V.ref a), some v1, some v2]))
      (fun i y H' => y = strV (lineL n (d i) i)) (fun H' k => ⟨NG.2 H', SqT.same (Same.of_but nD k) hl⟩) (fun _ _ _ _ _ _ _ h => h) (fun i x y T H' Q' hx hy k nT q' => ?_) fun H' ys k hD hlen hR => ?_
    · have hi : i < 15 := (List.getElem?_eq_some_iff.mp hy).1
      rw [args15_get v hi] at hy
      rw [List.getElem?_map, nmi_get hi] at hx
      cases hx; cases hy
      have e3 := same_new nT (.tup [strV (nmi i), v i])
      have e2' : Same H2 H' := Same.of_but nD k
      have l1 := nmi_len (i := i)
      refine ⟨T, rfl, _, .inl (.inl upd_same), rfl, _, _, rfl, _, _, rfl, rfl, _, rfl, sz (by rw [S_len]; show _ + 1 ≤ _; omega), v i, d i, rfl, Dp.same ((e12.trans e2').trans e3) (bk.dat i hi).1, (hf i hi).2.1, (hf i hi).2.2, fun H3 e4 => ⟨_, rfl, ?_⟩⟩
      have l2 := (hf i hi).2.2
      rw [show (Str.ofString " ") = SX.S [32] from rfl, S_cat, S_cat]
      refine ⟨sz (by rw [S_len, S_len, List.length_append]; show _ + 1 + _ ≤ _; omega), q' _ _ e4 rfl⟩
    · have eys : ys = ((linesL n d).map SX.S).map V.str := by
        refine List.ext_getElem? fun i => ?_
        unfold linesL
        rw [List.getElem?_map, List.getElem?_map, List.getElem?_map]
        by_cases hi : i < 15
        · rw [List.getElem?_range hi, List.getElem?_eq_getElem (by omega), hR i _ (List.getElem?_eq_getElem (by omega))]; rfl
        · rw [List.getElem?_eq_none (by omega), List.getElem?_eq_none (by rw [List.length_range]; omega)]; rfl
      rw [eys] at hD
      refine ⟨(linesL n d).map SX.S, .inl (.inl (.inl hD)), ?_, ?_⟩
      · rw [SX.lens, List.length_map]
        have l3 : ∀ t, t ∈ linesL n d → t.length ≤ 100011 := fun t ht => by
          obtain ⟨i, hi, rfl⟩ := List.mem_map.mp ht
          have hi := List.mem_range.mp hi
          have l1 := nmi_len (i := i)
          have l2 := (hf i hi).2.2
          simp only [lineL, List.length_append, List.length_cons, List.length_nil]; omega
        have l4 := sum_le l3
        have l5 : (linesL n d).length = 15 := by simp [linesL]
        show _ + _ * 1 ≤ _
        omega
      · rw [show (Str.ofString "\n") = SX.S [10] from rfl, SX.join_S]
        exact q _ (e12.trans (Same.of_but nD k))
  · exact ⟨_, rfl, .inr ⟨hb, q⟩⟩
end
end FP
set_option maxHeartbeats 1000000
namespace FP
open PySem PySem.Spec PyProof.Rows L2
local macro_rules | `(tactic| walk_at "rd") => `(tactic| dsimp only [tVar, tC, tCmp, tIsN, tNotN, tB, tAnd, tOr, tNot, tAndV, tOrV, tNotV, tIf, tNext, tSeq, tBreak, tCont, tDrop, tRet, tRetN, tIfS, tNever, tAsg, tPar, tAug, tOp, tUn, tTest, tChain, tFld, tNil, tCons, tTup, tLst, tCB, iList, iTup, iStr, tLc, tM0, tM1, tPart, tNoPart, tSl, tBM, tCallS, tCallSD, tMethW, tMake, sDPut, tDisp, tPairs, tXf, WE, tDGet, tDIn, gName, gTup, gCons, gNil, gSub, sFld, sFldAug, rI, rI0, rU, rEq, rNe, rAdd, rSub, t2I, tYes, cx_K, cx_w, cx_prog])
local macro_rules | `(tactic| walk_at "rs") => `(tactic| (try simp (maxSteps := 4000000) only [L2.start, List.map_cons, List.map_nil, List.length_cons, List.length_nil, List.cons_append, List.nil_append, Nat.reduceAdd, Nat.reduceSub, Nat.zero_add, List.replicate, List.getElem?_cons_zero, List.getElem?_cons_succ, Option.some.injEq, exists_eq_left', exists_eq_left, V.int.injEq, V.str.injEq, V.bl.injEq, V.ref.injEq, List.set_cons_zero, List.set_cons_succ, exists_and_left, List.cons.injEq, and_true, true_and, wipe, if_true, if_false, Bool.not_true, Bool.not_false, Bool.false_eq_true, decide_true, decide_false]))
local macro_rules | `(tactic| walk_at "r") => `(tactic| (walk_at "rd"; walk_at "rs"))
local macro_rules | `(tactic| walk_at "T") => `(tactic| (rw [if_pos (by first | assumption | rfl | decide | exact decide_eq_true (by assumption) | (simp [tyOf]; done) | (simp; omega) | omega)]; walk_at "rs"))
local macro_rules | `(tactic| walk_at "F") => `(tactic| (rw [if_neg (by first | assumption | decide | (simp [tyOf]; done) | (simp; omega) | (simp; assumption) | omega)]; walk_at "rs"))
open LamX
/-! ### value_of_line -/
section
variable {P : Program} {w : World} {K : PySem.W.Frag} {mg : Str → Option Value} {base : Heap} {f : Addr} {fd : FuncData} {C CT CR : Addr}
def ErL (CT : Addr) (k : Int) (e : Nat) (H : Hp) (E : XK) : Prop := ∀ H' dd, Same H H' → H' dd = some (.xd [("word", .int ((e + 1 : Nat) : Int)), ("line", .int k)]) → E (.ref CT) (some dd) H'
def sp_value_of_line (K : PySem.W.Frag) (CT : Addr) (n : Nat) : Sp := fun vs H Q E => ∃ (t : List Nat) (ts : List (List Nat)) (nm : List Nat) (k : Int), vs = [strV t, strV nm, .int k] ∧ t.length ≤ 100000 ∧ Toks t ts ∧ (∀ u, u ∈ ts → Cps u) ∧
  ((ts.head? ≠ some nm ∧ ErL CT k 0 H E) ∨ (∃ res, ts.head? = some nm ∧ PV ts n 1 res ∧ endsS K CT k H Q E (fin1 ts res)))
theorem ok_value_of_line (D : C8.Def K mg "value_of_line" s_value_of_line f fd) (b : Binds K fd ["line", "name", "number"] []) {n : Nat} (R_BadText : ErrX P w K mg base "BadText" CT "line" "word") (c_tokens_of : CalX P w K mg base 3 "tokens_of" (sp_tokens_of K CT)) (c_value_in : CalX P w K mg base (n + 7) "value_in" (sp_value_in K CT n)) : CalX P w K mg base (n + 8) "value_of_line" (sp_value_of_line K CT n) := by
  have nd := sc_value_of_line.nd
  refine calX D b sc_value_of_line (fun vs H Q E h => by obtain ⟨t, ts, nm, k, rfl, _⟩ := h; rfl) fun cdv A outer s H vs Q E hr h => ?_
  obtain ⟨t, ts, nm, k, rfl, hl, tk, cp, h⟩ := h
  refine ⟨_, (pss_cons (ps_set (i := 3) nd rfl (Or.inl rfl) (pe_x c_tokens_of hr (by(omega)) tkw rfl (pa_cons (pv 0) pa_nil)))
    (pss_cons (ps_if (PW.pt (pw_or (pt_cmpR (op_eqD (u64 hr)) (pv 3) (pe_lst pa_nil) (nomark _)) (pw_or1 (pt_cmpR op_ne (pe_ix ix_list (pv 3) pe_int (fun _ _ => rfl)) (pv 1) (nomark _))))) (pss_one (ps_raiseX R_BadText rfl hr (by omega) tkw rfl (pv 2) pe_int)) pss_nil)
    (pss_one (ps_ret (pe_x c_value_in hr (by(omega)) tkw rfl (pa_cons (pv 3) (pa_cons pe_int (pa_cons (pv 2) pa_nil)))))))), ?_⟩
  walk_at "r"
  refine .inl ⟨t, ts, rfl, hl, tk, fun l H1 e1 hl1 => ⟨sz (by decide), fun p1 n1 => ?_⟩⟩
  have e2 := same_new n1 (.lst [])
  have hl2 := e2 _ _ hl1
  refine ⟨.list (ts.map fun x => PyData.str (SX.S x)), .list [], .lst (.inl (.inl hl2)) (dp_strs _), dp_nil upd_same, shaped_strs cp, shaped_nil, ?_⟩
  rw [eqv_nil]
  have er : ErL CT k 0 H E → ∀ H1, Same H H1 → ∀ d, H1 d = none → E (.ref CT) (some d) (upd H1 d (.xd [("word", .int 1), ("line", .int k)])) := fun q H1 e d nd => q _ d (e.trans (same_new nd _)) upd_same
  have e12 := e1.trans e2
  cases ts with
  | nil =>
    rcases h with ⟨_, q⟩ | ⟨_, z, _⟩
    · exact ⟨_, rfl, by rw [if_pos (by rfl)]; exact er q _ e12⟩
    · cases z
  | cons u r =>
    refine ⟨_, rfl, ?_⟩
    rw [if_neg (by simp)]
    refine ixL (.inl (.inl hl2)) (atI_nat (j := 0) rfl) ⟨rfl, ?_⟩
    rcases h with ⟨hn, q⟩ | ⟨res, hn, hpv, q⟩
    · rw [if_pos (by rw [decide_eq_false (fun z => hn (by injection z with z; have z := SX.S_inj z; rw [z]; rfl))]; rfl)]
      exact er q _ e12
    · cases hn
      rw [if_neg (by rw [decide_eq_true rfl]; decide)]
      refine ⟨k, nm :: r, l, 1, res, rfl, .inl (.inl hl2), ⟨_, hl2⟩, Nat.le_trans (Toks.len tk) hl, fun u m => Nat.le_trans (Toks.each tk u m) hl, hpv, ?_⟩
      cases hf : fin1 (nm :: r) res with
      | ok a d => rw [hf] at q; exact fun v H' e => q v H' (e12.trans e)
      | err e => rw [hf] at q; exact fun H' dd e' x => q H' dd (e12.trans e') x
end
end FP
set_option maxHeartbeats 1000000
namespace FP
open PySem PySem.Spec PyProof.Rows L2
local macro_rules | `(tactic| walk_at "rd") => `(tactic| dsimp only [tVar, tC, tCmp, tIsN, tNotN, tB, tAnd, tOr, tNot, tAndV, tOrV, tNotV, tIf, tNext, tSeq, tBreak, tCont, tDrop, tRet, tRetN, tIfS, tNever, tAsg, tPar, tAug, tOp, tUn, tTest, tChain, tFld, tNil, tCons, tTup, tLst, tCB, iList, iTup, iStr, tLc, tM0, tM1, tPart, tNoPart, tSl, tBM, tCallS, tCallSD, tMethW, tMake, sDPut, tDisp, tPairs, tXf, WE, tDGet, tDIn, gName, gLst, tDNewK, gTup, gCons, gNil, gSub, sFld, sFldAug, rI, rI0, rU, rEq, rNe, rAdd, rSub, t2I, tYes, cx_K, cx_w, cx_prog])
local macro_rules | `(tactic| walk_at "rs") => `(tactic| (try simp (maxSteps := 4000000) only [L2.start, List.map_cons, List.map_nil, List.length_cons, List.length_nil, List.cons_append, List.nil_append, Nat.reduceAdd, Nat.reduceSub, Nat.zero_add, List.replicate, List.getElem?_cons_zero, List.getElem?_cons_succ, Option.some.injEq, exists_eq_left', exists_eq_left, V.int.injEq, V.str.injEq, V.bl.injEq, V.ref.injEq, List.set_cons_zero, List.set_cons_succ, exists_and_left, List.cons.injEq, and_true, true_and, wipe, if_true, if_false, Bool.not_true, Bool.not_false, Bool.false_eq_true, decide_true, decide_false]))
local macro_rules | `(tactic| walk_at "r") => `(tactic| (walk_at "rd"; walk_at "rs"))
local macro_rules | `(tactic| walk_at "T") => `(tactic| (rw [if_pos (by first | assumption | rfl | decide | exact decide_eq_true (by assumption) | (simp [tyOf]; done) | (simp; omega) | omega)]; walk_at "rs"))
local macro_rules | `(tactic| walk_at "F") => `(tactic| (rw [if_neg (by first | assumption | decide | (simp [tyOf]; done) | (simp; omega) | (simp; assumption) | omega)]; walk_at "rs"))
open LamX
/-! ### book_by -/
section
variable {P : Program} {w : World} {K : PySem.W.Frag} {mg : Str → Option Value} {base : Heap} {f : Addr} {fd : FuncData} {C CT CR : Addr}
/-- a new book of fifteen values -/
def NewB (K : PySem.W.Frag) (C : Addr) (n : Nat) (d : Nat → PyData) (H : Hp) (Q : VK) : Prop := ∀ a dx w H', Same H H' → H a = none → Bk K C H' a dx w (fun i => asTup n (d i)) → Q (.ref a) H'
theorem new_book {H : Hp} {r dx : Addr} {n : Nat} {v : Nat → V} {d : Nat → PyData} {Q : VK} {E : XK} (BC : BkC K C) (nr : H r = none) (ndx : H dx = none) (ne : dx ≠ r) (hv : ∀ i, i < 15 → Dp K H (v i) (d i) ∧ fine n (d i)) (q : NewB K C n d H Q) :
    sp_bk_init K C n (.ref r :: args15 v) (upd (upd H dx (.own r)) r (.ins C dx [])) (fun x H1 => x = V.non ∧ Q (.ref r) H1) E := by
  have e0 : Same H (upd (upd H dx (.own r)) r (.ins C dx [])) := (same_new ndx _).trans (same_new (by rw [upd_ne (Ne.symm ne)]; exact nr) _)
  refine ⟨r, dx, v, d, rfl, BC, upd_same, fun i hi => ⟨Dp.same e0 (hv i hi).1, (hv i hi).2⟩, fun H' w k bk => ⟨rfl, q r dx w H' (fun b o h => k b o (fun z => ?_) (e0 b o h)) nr bk⟩⟩
  have z : b = r := z
  rw [z, nr] at h; cases h
def sp_book_by (K : PySem.W.Frag) (C : Addr) (n : Nat) : Sp := fun vs H Q _ => ∃ (l : Addr) (v : Nat → V) (d : Nat → PyData), vs = [.ref l] ∧ SqL K H l (args15 v) ∧ (∀ i, i < 15 → Dp K H (v i) (d i) ∧ fine n (d i)) ∧ NewB K C n d H Q
theorem ok_book_by (D : C8.Def K mg "book_by" s_book_by f fd) (b : Binds K fd ["values"] []) {n : Nat} (BC : BkC K C) (MK_Book : MkX P w K mg base (n + 2) "Book" C (sp_bk_init K C n)) : CalX P w K mg base (n + 4) "book_by" (sp_book_by K C n) := by
  have nd := sc_book_by.nd
  refine calX D b sc_book_by (fun vs H Q E h => by obtain ⟨l, v, d, rfl, _⟩ := h; rfl) fun cdv A outer s H vs Q E hr h => ?_
  obtain ⟨l, v, d, rfl, hl, hv, q⟩ := h
  refine ⟨_, (pss_cons (ps_asg (pv 0) (pg_lst rfl (pgs_cons (pg_name (i := 1) nd rfl (Or.inl rfl)) (pgs_cons (pg_name (i := 2) nd rfl (Or.inl rfl)) (pgs_cons (pg_name (i := 3) nd rfl (Or.inl rfl)) (pgs_cons (pg_name (i := 4) nd rfl (Or.inl rfl)) (pgs_cons (pg_name (i := 5) nd rfl (Or.inl rfl)) (pgs_cons (pg_name (i := 6) nd rfl (Or.inl rfl)) (pgs_cons (pg_name (i := 7) nd rfl (Or.inl rfl)) (pgs_cons (pg_name (i := 8) nd rfl (Or.inl rfl)) (pgs_cons (pg_name (i := 9) nd rfl (Or.inl rfl)) (pgs_cons (pg_name (i := 10) nd rfl (Or.inl rfl)) (pgs_cons (pg_name (i := 11) nd rfl (Or.inl rfl)) (pgs_cons (pg_name (i := 12) nd rfl (Or.inl rfl)) (pgs_cons (pg_name (i := 13) nd rfl (Or.inl rfl)) (pgs_cons (pg_name (i := 14) nd rfl (Or.inl rfl)) (pgs_cons (pg_name (i := 15) nd rfl (Or.inl rfl)) pgs_nil)))))))))))))))))
    (pss_one (ps_ret (pe_mk MK_Book hr (by(omega)) rfl (pa_cons (pv 1) (pa_cons (pv 2) (pa_cons (pv 3) (pa_cons (pv 4) (pa_cons (pv 5) (pa_cons (pv 6) (pa_cons (pv 7) (pa_cons (pv 8) (pa_cons (pv 9) (pa_cons (pv 10) (pa_cons (pv 11) (pa_cons (pv 12) (pa_cons (pv 13) (pa_cons (pv 14) (pa_cons (pv 15) pa_nil))))))))))))))))))), ?_⟩
  unfold args15 at hl
  walk_at "r"
  refine ⟨_, hl, rfl, ?_⟩
  iterate 15 refine ⟨_, _, rfl, ?_⟩
  refine ⟨rfl, ?_⟩
  walk_at "rs"
  intro r dx nr ndx ne
  exact new_book BC nr ndx ne hv q
end
end FP
set_option maxHeartbeats 1000000
namespace FP
open PySem PySem.Spec PyProof.Rows L2
local macro_rules | `(tactic| walk_at "rd") => `(tactic| dsimp only [tVar, tC, tCmp, tIsN, tNotN, tB, tAnd, tOr, tNot, tAndV, tOrV, tNotV, tIf, tNext, tSeq, tBreak, tCont, tDrop, tRet, tRetN, tIfS, tNever, tAsg, tPar, tAug, tOp, tUn, tTest, tChain, tFld, tNil, tCons, tTup, tLst, tCB, iList, iTup, iStr, tLc, tM0, tM1, tPart, tNoPart, tSl, tBM, tCallS, tCallSD, tMethW, tMake, sDPut, tDisp, tPairs, tXf, WE, tDGet, tDIn, gName, gLst, tDNewK, gTup, gCons, gNil, gSub, sFld, sFldAug, rI, rI0, rU, rEq, rNe, rAdd, rSub, t2I, tYes, cx_K, cx_w, cx_prog])
local macro_rules | `(tactic| walk_at "rs") => `(tactic| (try simp (maxSteps := 4000000) only [L2.start, List.map_cons, List.map_nil, List.length_cons, List.length_nil, List.cons_append, List.nil_append, Nat.reduceAdd, Nat.reduceSub, Nat.zero_add, List.replicate, List.getElem?_cons_zero, List.getElem?_cons_succ, Option.some.injEq, exists_eq_left', exists_eq_left, V.int.injEq, V.str.injEq, V.bl.injEq, V.ref.injEq, List.set_cons_zero, List.set_cons_succ, exists_and_left, List.cons.injEq, and_true, true_and, wipe, if_true, if_false, Bool.not_true, Bool.not_false, Bool.false_eq_true, decide_true, decide_false]))
local macro_rules | `(tactic| walk_at "r") => `(tactic| (walk_at "rd"; walk_at "rs"))
local macro_rules | `(tactic| walk_at "T") => `(tactic| (rw [if_pos (by first | assumption | rfl | decide | exact decide_eq_true (by assumption) | (simp [tyOf]; done) | (simp; omega) | omega)]; walk_at "rs"))
local macro_rules | `(tactic| walk_at "F") => `(tactic| (rw [if_neg (by first | assumption | decide | (simp [tyOf]; done) | (simp; omega) | (simp; assumption) | omega)]; walk_at "rs"))
open LamX
/-! ### book_of_text -/
inductive BRes
  | ok (ds : List PyData)
  | err (k e : Nat)
def LnR (n : Nat) (nm : List Nat) (ts : List (List Nat)) (r : Res) : Prop := (ts.head? ≠ some nm ∧ r = .err 0) ∨ ∃ res, ts.head? = some nm ∧ PV ts n 1 res ∧ r = fin1 ts res
def BR (n : Nat) : List (List Nat) → Nat → List (List Nat) → List PyData → BRes → Prop
  | [], k, ls, acc, r => (ls = [] ∧ r = .ok acc) ∨ (ls ≠ [] ∧ r = .err k 0)
  | _ :: _, k, [], _, r => r = .err k 0
  | nm :: ns, k, l :: ls, acc, r => ∃ ts lr, Toks l ts ∧ (∀ u, u ∈ ts → Cps u) ∧ LnR n nm ts lr ∧ ((∃ e, lr = .err e ∧ r = .err k e) ∨ ∃ a d, lr = .ok a d ∧ BR n ns (k + 1) ls (acc ++ [d]) r)
section
variable {P : Program} {w : World} {K : PySem.W.Frag} {mg : Str → Option Value} {base : Heap} {f : Addr} {fd : FuncData} {C CT CR : Addr}
def endB (K : PySem.W.Frag) (C CT : Addr) (m : Nat) (H : Hp) (Q : VK) (E : XK) : BRes → Prop
  | .ok ds => ds.length = 15 ∧ (∀ d, d ∈ ds → fine m d) ∧ NewB K C m (fun i => ds.getD i .none) H Q
  | .err k e => ErL CT ((k + 1 : Nat) : Int) e H E
def sp_book_of_text (K : PySem.W.Frag) (C CT : Addr) (n m : Nat) : Sp := fun vs H Q E => (∃ (t : List Nat) (r : BRes), vs = [strV t] ∧ t.length ≤ 900000 ∧ (TL.spl [10] 0 [] t).length ≤ 1000 ∧ (∀ l, l ∈ TL.spl [10] 0 [] t → l.length ≤ 100000) ∧ BR n nmc 0 (TL.spl [10] 0 [] t) [] r ∧ endB K C CT m H Q E r) ∨
  (∃ x k, vs = [x] ∧ Kd K H x k ∧ (k == "str") = false ∧ ∀ H' dd, Same H H' → H' dd = some (.xd [("word", .int 0), ("line", .int 0)]) → E (.ref CT) (some dd) H')
def btI (K : PySem.W.Frag) (n : Nat) (t : List Nat) (ll lv : Addr) (r : BRes) (H : Hp) (i : Nat) (σ : L2.St) (H' : Hp) : Prop := Same H H' ∧ H' ll = some (.lst ((TL.spl [10] 0 [] t).map strV)) ∧
  ∃ (vals : List V) (acc : List PyData), H' lv = some (.lst vals) ∧ DpAll K H' vals acc ∧ (∀ d, d ∈ acc → Nol d) ∧ acc.length = i ∧ BR n (nmc.drop i) i ((TL.spl [10] 0 [] t).drop i) acc r ∧ ∃ a b, σ = [some (strV t), some (.ref ll), some (.ref lv), a, b]
theorem args15_of {xs : List V} (h : xs.length = 15) : args15 (fun i => xs.getD i .non) = xs := by
  refine List.ext_getElem? fun i => ?_
  by_cases hi : i < 15
  · rw [args15_get _ hi, List.getElem?_eq_getElem (by omega), List.getD_eq_getElem?_getD, List.getElem?_eq_getElem (by omega)]; rfl
  · rw [List.getElem?_eq_none (by rw [args15_len]; omega), List.getElem?_eq_none (by omega)]
theorem NewB.same {n : Nat} {d : Nat → PyData} {H H1 : Hp} {Q : VK} (h : NewB K C n d H Q) (e : Same H H1) : NewB K C n d H1 Q := fun a dx w H' e' na bk => h a dx w H' (e.trans e') (same_none e na) bk
theorem ok_book_of_text (Z : Zb mg) (D : C8.Def K mg "book_of_text" s_book_of_text f fd) (b : Binds K fd ["text"] []) {n m : Nat} (hm : m + 4 ≤ n + 8) {TN : Addr} (NG : NmG K mg TN) (R_BadText : ErrX P w K mg base "BadText" CT "line" "word") (c_value_of_line : CalX P w K mg base (n + 8) "value_of_line" (sp_value_of_line K CT n)) (c_book_by : CalX P w K mg base (m + 4) "book_by" (sp_book_by K C m)) : CalX P w K mg base (n + 9) "book_of_text" (sp_book_of_text K C CT n m) := by
  have nd := sc_book_of_text.nd
  have G_NAMES := NG.1
  refine calX D b sc_book_of_text (fun vs H Q E h => by rcases h with ⟨t, r, rfl, _⟩ | ⟨x, k, rfl, _⟩ <;> rfl) fun cdv A outer s H vs Q E hr h => ?_
  refine ⟨_, (pss_cons (ps_if (pt_not (pt_val (pe_callB call_isi rfl Z.isinstance PyProof.Rows.boot_isinstance (pa_cons (pv 0) (pa_cons (pe_ty rfl Z.str PyProof.Rows.boot_str) pa_nil))))) (pss_one (ps_raiseX R_BadText rfl hr (by omega) tkw rfl pe_int pe_int)) pss_nil)
    (pss_cons (ps_par (i := 1) (j := 2) rfl nd rfl rfl (by decide) rfl rfl (pa_cons (pe_split (pv 0) pe_str) (pa_cons (pe_lst pa_nil) pa_nil)) (by rfl))
    (pss_cons (ps_for (L2.passes_of rfl) rfl (pi_enumT rfl Z.enumerate (pa_cons (pe_ref rfl G_NAMES) pa_nil)) (pg_tup rfl (pgs_cons (pg_name (i := 3) nd rfl (Or.inl rfl)) (pgs_cons (pg_name (i := 4) nd rfl (Or.inl rfl)) pgs_nil))) (pss_cons (ps_if (pt_cmpR op_ge (pv 3) (pe_callB call_len rfl Z.len PySem.boot_len (pa_cons (pv 1) pa_nil)) (nomark _)) (pss_one (ps_raiseX R_BadText rfl hr (by omega) tkw rfl (pe_op op_add (pv 3) pe_int) pe_int)) pss_nil)
    (pss_one (ps_expr (pe_bm PySem.F.plainAttrs_list PySem.F.slot_list_append PySem.F.type_list_append mt_append (pv 2) (pa_cons (pe_x c_value_of_line hr (by(omega)) tkw rfl (pa_cons (pe_ix ix_list (pv 1) (pv 3) (fun _ _ => rfl)) (pa_cons (pv 4) (pa_cons (pe_op op_add (pv 3) pe_int) pa_nil)))) pa_nil))))))
    (pss_cons (ps_if (pt_cmpR op_gt (pe_callB call_len rfl Z.len PySem.boot_len (pa_cons (pv 1) pa_nil)) (pe_callB call_len rfl Z.len PySem.boot_len (pa_cons (pe_ref rfl G_NAMES) pa_nil)) (nomark _)) (pss_one (ps_raiseX R_BadText rfl hr (by omega) tkw rfl (pe_op op_add (pe_callB call_len rfl Z.len PySem.boot_len (pa_cons (pe_ref rfl G_NAMES) pa_nil)) pe_int) pe_int)) pss_nil)
    (pss_one (ps_ret (pe_x c_book_by hr (by(omega)) tkw rfl (pa_cons (pv 2) pa_nil)))))))), ?_⟩
  walk_at "rd"
  rcases h with ⟨t, r, rfl, hl, few, each, hb, q⟩ | ⟨x, k, rfl, kd, ks, q⟩
  · walk_at "rs"
    refine isi_str (Dp.kd (.str _)) ⟨_, rfl, ?_⟩
    rw [if_neg (by simp [tyOf])]
    refine ⟨⟨_, rfl⟩, by decide +kernel, sz (by rw [S_len]; omega), ?_⟩
    rw [show Str.ofString "\n" = SX.S [10] from rfl, SX.split_S (by simp) (by decide)]
    intro ll nll
    refine ⟨sz (by decide), fun lv nlv => ⟨_, _, ⟨rfl, rfl⟩, ?_⟩⟩
    rw [List.map_map]
    have s1 := same_new nll (.lst ((TL.spl [10] 0 [] t).map strV))
    have s2 := same_new (show (upd H ll (.lst ((TL.spl [10] 0 [] t).map strV))) lv = none by have z := nlv; rw [List.map_map] at z; exact z) (.lst [])
    have nlvH : H lv = none := same_none s1 (by have z := nlv; rw [List.map_map] at z; exact z)
    have nel : ¬ ll = lv := fun z => by
      have y := nlv
      rw [← z, upd_same] at y; cases y
    generalize hsp : TL.spl [10] 0 [] t = lines at *
    refine ⟨TN, _, rfl, NG.2 _, ?_⟩
    refine for_it walk_enumT (btI K n t ll lv r H) ⟨s1.trans s2, by rw [hsp]; exact s2 _ _ upd_same, [], [], upd_same, .nil, (fun _ z => nomatch z), rfl, by rw [hsp]; exact hb, _, _, rfl⟩ (fun i σ H' _ h => NG.2 H') ?_ ?_
    · rintro i x σ H2 H3 hi ⟨e2, hll, vals, acc, hlv, al, nla, hal, hbr, a3, a4, rfl⟩ ⟨T, vi, vx, rfl, nT, rfl, hvi, hvx⟩
      rw [hsp] at hll hbr
      rw [List.length_map, nmc_len] at hi
      replace hvx : (nmc.map strV)[i]? = some vx := hvx
      rw [List.getElem?_map, nmi_get hi] at hvx
      cases hvi; cases hvx
      have e3 := same_new nT (.tup [.int ((i : Nat) : Int), strV (nmi i)])
      walk_at "r"
      refine ⟨_, .inl (.inl upd_same), rfl, _, _, rfl, _, _, rfl, rfl, ?_⟩
      have hll3 := e3 _ _ hll
      refine lenL (.inl (.inl hll3)) ⟨_, rfl, ?_⟩
      have hdn : nmc.drop i = nmi i :: nmc.drop (i + 1) := by
        rw [List.drop_eq_getElem_cons (show i < nmc.length from hi)]
        have := nmi_get hi
        rw [List.getElem?_eq_getElem (show i < nmc.length from hi)] at this
        rw [Option.some.inj this]
      rw [hdn] at hbr
      have e03 := e2.trans e3
      rw [List.length_map]
      by_cases hc : lines.length ≤ i
      · rw [List.drop_eq_nil_of_le hc] at hbr
        rw [show r = .err i 0 from hbr] at q
        rw [if_pos (decide_eq_true (by omega))]
        exact ⟨_, rfl, fun d nd => q _ d (e03.trans (same_new nd _)) upd_same⟩
      · rw [if_neg (fun z => hc (by have := of_decide_eq_true z; omega))]
        have hlt : i < lines.length := by omega
        rw [List.drop_eq_getElem_cons hlt] at hbr
        obtain ⟨ts, lr, tks, cps, hln, hbr⟩ := hbr
        refine ⟨tyL (e3 _ _ hlv), ixL (.inl (.inl hll3)) (atI_nat (by rw [List.getElem?_map, List.getElem?_eq_getElem hlt]; rfl)) ⟨_, rfl, ?_⟩⟩
        have hle : (lines[i]).length ≤ 100000 := each _ (List.getElem_mem _)
        have go : ∀ (e : Nat), lr = .err e → ErL CT (((i : Nat) : Int) + 1) e (upd H2 T (.tup [.int ((i : Nat) : Int), strV (nmi i)])) E := by
          intro e he
          rcases hbr with ⟨e', h1, h2⟩ | ⟨a, d, h1, _⟩
          · rw [he] at h1
            cases h1
            rw [h2] at q
            exact fun H' dd e4 x => q H' dd (e03.trans e4) x
          · rw [he] at h1; cases h1
        refine ⟨lines[i], ts, nmi i, _, rfl, hle, tks, cps, ?_⟩
        rcases hln with ⟨hn, he⟩ | ⟨res, hn, hpv, he⟩
        · exact .inl ⟨hn, go 0 he⟩
        · refine .inr ⟨res, hn, hpv, ?_⟩
          rw [← he]
          cases lr with
          | err e => exact go e rfl
          | ok a d =>
            rcases hbr with ⟨e', h1, _⟩ | ⟨a', d', h1, hbr⟩
            · cases h1
            · cases h1
              intro y H4 e4 hd4 nl4
              have hlv4 := e4 _ _ (e3 _ _ hlv)
              have hx := DpAll.length al
              refine ⟨lv, _, y, rfl, rfl, hlv4, szL (by omega), ?_⟩
              have al4 := DpAll.same (e3.trans e4) al
              refine ⟨Same.upd (e03.trans e4) nlvH, ?_, _, _, upd_same, DpAll.append (DpAll.but (noTupD hlv4) (But.upd rfl) nla al4) (.cons (Dp.but (noTupD hlv4) (But.upd rfl) nl4 hd4) .nil), ?_, by rw [List.length_append, hal]; rfl, ?_, _, _, rfl⟩
              · rw [upd_ne nel, hsp]; exact e4 _ _ hll3
              · intro d2 h
                rcases List.mem_append.mp h with h | h
                · exact nla d2 h
                · rw [List.mem_singleton.mp h]; exact nl4
              · rw [hsp]; exact hbr
    · rintro σ H2 ⟨e2, hll, vals, acc, hlv, al, nla, hal, hbr, a3, a4, rfl⟩
      rw [hsp] at hll hbr
      rw [List.length_map, nmc_len] at hal hbr
      walk_at "r"
      refine lenL (.inl (.inl hll)) (lenT (NG.2 _) ?_)
      rw [List.length_map, List.length_map, nmc_len]
      by_cases hc : 15 < lines.length
      · rw [if_pos (decide_eq_true (by omega))]
        rcases hbr with ⟨h, _⟩ | ⟨_, hr2⟩
        · have := congrArg List.length h
          rw [List.length_drop] at this
          exact absurd this (by simp; omega)
        · rw [hr2] at q
          refine lenT (NG.2 _) fun d nd => ?_
          rw [List.length_map, nmc_len]
          exact q _ d (e2.trans (same_new nd _)) upd_same
      · rw [if_neg (fun z => hc (by have := of_decide_eq_true z; omega))]
        rcases hbr with ⟨_, hr2⟩ | ⟨h, _⟩
        · rw [hr2] at q
          obtain ⟨ha, hf, nb⟩ := q
          have hx := DpAll.length al
          refine ⟨lv, _, _, rfl, by rw [args15_of (xs := vals) (by omega)]; exact .inl (.inl hlv), fun i hi => ?_, nb.same e2⟩
          have h1 : vals[i]? = some (vals.getD i .non) := by rw [List.getD_eq_getElem?_getD, List.getElem?_eq_getElem (by omega)]; rfl
          obtain ⟨d, hd, dp⟩ := DpAll.getV al h1
          have h2 : acc.getD i .none = d := by rw [List.getD_eq_getElem?_getD, hd]; rfl
          rw [h2]
          exact ⟨dp, hf d (List.mem_of_getElem? hd)⟩
        · exact absurd (List.drop_eq_nil_of_le (by omega)) h
  · walk_at "rs"
    refine isi_str kd ?_
    rw [ks]
    refine ⟨_, rfl, ?_⟩
    rw [if_pos (by decide)]
    exact fun d nd => q _ d (same_new nd _) upd_same
end
end FP
set_option maxHeartbeats 1000000
namespace FP
open PySem PySem.Spec PyProof.Rows L2
local macro_rules | `(tactic| walk_at "rd") => `(tactic| dsimp only [tVar, tC, tCmp, tIsN, tNotN, tB, tAnd, tOr, tNot, tAndV, tOrV, tNotV, tIf, tNext, tSeq, tBreak, tCont, tDrop, tRet, tRetN, tIfS, tNever, tAsg, tPar, tAug, tOp, tUn, tTest, tChain, tFld, tNil, tCons, tTup, tLst, tCB, iList, iTup, iStr, tLc, tM0, tM1, tPart, tNoPart, tSl, tBM, tCallS, tCallSD, tMethW, tMake, sDPut, tDisp, tPairs, tXf, WE, tDGet, tDIn, gName, gLst, tDNewK, gTup, gCons, gNil, gSub, sFld, sFldAug, rI, rI0, rU, rEq, rNe, rAdd, rSub, t2I, tYes, cx_K, cx_w, cx_prog])
local macro_rules | `(tactic| walk_at "rs") => `(tactic| (try simp (maxSteps := 4000000) only [L2.start, List.map_cons, List.map_nil, List.length_cons, List.length_nil, List.cons_append, List.nil_append, Nat.reduceAdd, Nat.reduceSub, Nat.zero_add, List.replicate, List.getElem?_cons_zero, List.getElem?_cons_succ, Option.some.injEq, exists_eq_left', exists_eq_left, V.int.injEq, V.str.injEq, V.bl.injEq, V.ref.injEq, List.set_cons_zero, List.set_cons_succ, exists_and_left, List.cons.injEq, and_true, true_and, wipe, if_true, if_false, Bool.not_true, Bool.not_false, Bool.false_eq_true, decide_true, decide_false]))
local macro_rules | `(tactic| walk_at "r") => `(tactic| (walk_at "rd"; walk_at "rs"))
local macro_rules | `(tactic| walk_at "T") => `(tactic| (rw [if_pos (by first | assumption | rfl | decide | exact decide_eq_true (by assumption) | (simp [tyOf]; done) | (simp; omega) | omega)]; walk_at "rs"))
local macro_rules | `(tactic| walk_at "F") => `(tactic| (rw [if_neg (by first | assumption | decide | (simp [tyOf]; done) | (simp; omega) | (simp; assumption) | omega)]; walk_at "rs"))
open LamX
/-! ### class_number, places_of -/
theorem ip_mul {X : Cx} : PIp X .Mult (fun x y H Q => ∃ i j, x = .int i ∧ y = .int j ∧ CMul i j ∧ Q (.int (i * j)) H) := by
  intro pins s σ H x y v u Q I r1 r2 h
  obtain ⟨i, j, e1, e2, c, q⟩ := h
  subst e1; subst e2
  obtain ⟨t, rfl⟩ := r1
  obtain ⟨t', rfl⟩ := r2
  exact PyProof.Rows.imul_int ⟨.int _, H, I.tok _, ⟨_, rfl⟩, q⟩ c.ok
section
variable {P : Program} {w : World} {K : PySem.W.Frag} {mg : Str → Option Value} {base : Heap} {f : Addr} {fd : FuncData} {C CT CR : Addr}
def prodL (os : List Int) : Int := os.foldl (fun a b => a * b) 1
theorem DpAll.ints {H : Hp} : ∀ {xs : List V} {os : List Int}, DpAll K H xs (os.map PyData.int) → xs = os.map V.int
  | [], [], _ => rfl
  | _ :: _, o :: os, .cons h t => by
    cases h
    show V.int o :: _ = V.int o :: _
    rw [DpAll.ints t]
def sp_product_of_orders (K : PySem.W.Frag) (C : Addr) : Sp := fun vs H Q _ => ∃ (a dx : Addr) (v : Nat → V) (d : Nat → PyData) (os : List Int), vs = [.ref a] ∧ Bk K C H a dx v d ∧ d 8 = .tuple (os.map .int) ∧ (∀ o, o ∈ os → -(2 ^ 64) < o ∧ o < 2 ^ 64) ∧ Q (.int (prodL os)) H
def poI (v : V) (os : List Int) (H : Hp) (i : Nat) (σ : L2.St) (H' : Hp) : Prop := H' = H ∧ ∃ a, σ = [some v, some (.int (prodL (os.take i))), a]
theorem ok_product_of_orders (D : C8.Def K mg "product_of_orders" s_product_of_orders f fd) (b : Binds K fd ["book"] []) : CalX P w K mg base 1 "product_of_orders" (sp_product_of_orders K C) := by
  have nd := sc_product_of_orders.nd
  refine calX D b sc_product_of_orders (fun vs H Q E h => by obtain ⟨a, dx, v, d, os, rfl, _⟩ := h; rfl) fun cdv A outer s H vs Q E hr h => ?_
  obtain ⟨a, dx, v, d, os, rfl, bk, h8, hb, q⟩ := h
  refine ⟨_, (pss_cons (ps_set (i := 1) nd rfl (Or.inl rfl) pe_int)
    (pss_cons (ps_for (L2.passes_of rfl) rfl (pi_seq (pe_fld (pv 0) rfl)) (pg_name (i := 2) nd rfl (Or.inl rfl)) (pss_one (ps_aug (i := 1) nd rfl (Or.inl rfl) (pv 2) ip_mul)))
    (pss_one (ps_ret (pv 1))))), ?_⟩
  walk_at "r"
  have h1 := (bk.dat 8 (by decide)).1
  rw [h8] at h1
  obtain ⟨l, xs, hv8, hl, al⟩ := Dp.tupI h1
  have exs := DpAll.ints al
  subst exs
  refine .inr ⟨_, rfl, a, rfl, bk.get (i := 8) (by decide) rfl ⟨l, hv8, ⟨_, hl⟩, ?_⟩⟩
  refine for_it (walk_tup (xs := os.map V.int)) (poI (.ref a) os H) ⟨rfl, _, rfl⟩ (fun i σ H' _ h => by rw [h.1]; exact hl) ?_ ?_
  · rintro i x σ H2 H3 hi ⟨rfl, a2, rfl⟩ ⟨rfl, hx⟩
    rw [List.length_map] at hi
    rw [List.getElem?_map, List.getElem?_eq_getElem hi] at hx
    cases hx
    walk_at "r"
    have e2 : prodL (os.take (i + 1)) = prodL (os.take i) * os[i] := by
      rw [List.take_succ, List.getElem?_eq_getElem hi]
      unfold prodL
      rw [List.foldl_append]; rfl
    exact ⟨.inr (hb _ (List.getElem_mem hi)), rfl, some (.int os[i]), by rw [e2]⟩
  · rintro σ H2 ⟨rfl, a2, rfl⟩
    rw [List.length_map, List.take_length]
    exact ⟨_, rfl, q⟩
def sp_class_number (K : PySem.W.Frag) (C CR : Addr) (n : Nat) : Sp := fun vs H Q E => ∃ x, vs = [x] ∧
  ((∃ (a dx : Addr) (v : Nat → V) (d : Nat → PyData), x = .ref a ∧ Bk K C H a dx v d ∧ (∀ i, i < 15 → fine n (d i)) ∧ (dl d).all (plB n) = true ∧
      ((∃ os : List Int, d 8 = .tuple (os.map .int) ∧ os.length ≤ 1000 ∧ (∀ o, o ∈ os → -(2 ^ 64) < o ∧ o < 2 ^ 64) ∧ ∀ H', Same H H' → Q (.int (prodL os)) H') ∨
       (((∃ i, d 8 = .int i) ∨ ∃ e, d 8 = .tuple [e] ∧ (tyOf e == "int") = false) ∧ ∀ H' dd, Same H H' → H' dd = some (.xd [("what", .str "book")]) → E (.ref CR) (some dd) H'))) ∨
   (((∃ (a dx : Addr) (v : Nat → V) (d : Nat → PyData), x = .ref a ∧ Bk K C H a dx v d ∧ (∀ i, i < 15 → fine n (d i)) ∧ (dl d).all (plB n) = false) ∨ ∃ t, Kd K H x t) ∧ ∀ H' dd, Same H H' → H' dd = some (.xd [("what", .str "book")]) → E (.ref CR) (some dd) H'))
theorem ok_class_number (Z : Zb mg) (D : C8.Def K mg "class_number" s_class_number f fd) (b : Binds K fd ["book"] []) {n : Nat} (R_BadPaper : ErrX1 P w K mg base "BadPaper" CR "what") (c_need_book : CalX P w K mg base (n + 5) "need_book" (sp_need_book K C CR n)) (c_is_integer : CalX P w K mg base 1 "is_integer" (sp_is_integer K)) (c_product_of_orders : CalX P w K mg base 1 "product_of_orders" (sp_product_of_orders K C)) : CalX P w K mg base (n + 6) "class_number" (sp_class_number K C CR n) := by
  have nd := sc_class_number.nd
  refine calX D b sc_class_number (fun vs H Q E h => by obtain ⟨x, rfl, _⟩ := h; rfl) fun cdv A outer s H vs Q E hr h => ?_
  obtain ⟨x, rfl, h⟩ := h
  refine ⟨_, (pss_cons (ps_expr (pe_x c_need_book hr (by(omega)) tkw rfl (pa_cons (pv 0) pa_nil)))
    (pss_cons (ps_if (PW.pt (pw_or (pt_not (pt_val (pe_callB call_isi rfl Z.isinstance PyProof.Rows.boot_isinstance (pa_cons (pe_fld (pv 0) rfl) (pa_cons (pe_ty rfl Z.tuple PyProof.Rows.boot_tuple) pa_nil))))) (pw_or1 (pt_not (pt_val (pe_callB (cr_all rfl) rfl Z.all PyProof.Rows.boot_all (pa_cons (pe_lc (own := [("one", 1)]) rfl nd (pi_seq (pe_fld (pv 0) rfl)) (blkOk_by (N := ["book", "one"]) (sc := C8.fnScope s_class_number) (by decide +kernel)) (fun _ _ _ _ _ => (pg_name (i := 1) nd rfl (Or.inl rfl))) (fun _ _ _ _ _ => pts_nil) (fun _ _ _ _ _ => (pe_x c_is_integer hr (by(omega)) tk0 rfl (pa_cons (pv 1) pa_nil)))) pa_nil))))))) (pss_one (ps_raiseX1 R_BadPaper rfl hr (by omega) tkw rfl pe_str)) pss_nil)
    (pss_one (ps_ret (pe_x c_product_of_orders hr (by(omega)) tkw rfl (pa_cons (pv 0) pa_nil)))))), ?_⟩
  walk_at "r"
  rcases h with ⟨a, dx, v, d, rfl, bk, hf, hp, h⟩ | ⟨hb, q⟩
  · refine ⟨_, rfl, .inl ⟨a, dx, v, d, rfl, bk, hf, hp, fun H1 e1 => ?_⟩⟩
    have bk1 := bk.same e1
    have h1 := (bk1.dat 8 (by decide)).1
    have er : (∀ H' dd, Same H H' → H' dd = some (.xd [("what", .str "book")]) → E (.ref CR) (some dd) H') → ∀ H2, Same H H2 → ∀ d, H2 d = none → E (.ref CR) (some d) (upd H2 d (.xd [("what", .str "book")])) := fun q H1 e d nd => q _ d (e.trans (same_new nd _)) upd_same
    have hd : ((∃ i, d 8 = .int i) ∧ ∀ H' dd, Same H H' → H' dd = some (.xd [("what", .str "book")]) → E (.ref CR) (some dd) H') ∨ ∃ ds, d 8 = .tuple ds ∧ ds.length ≤ 1000 ∧
        (((ds.all fun e => tyOf e == "int") = true ∧ ∀ H2, Same H H2 → sp_product_of_orders K C [.ref a] H2 Q C8.E0) ∨ ((ds.all fun e => tyOf e == "int") = false ∧ ∀ H' dd, Same H H' → H' dd = some (.xd [("what", .str "book")]) → E (.ref CR) (some dd) H')) := by
      rcases h with ⟨os, h8, hl, hb, q⟩ | ⟨⟨i, h8⟩ | ⟨e, h8, he⟩, q⟩
      · refine .inr ⟨_, h8, by rw [List.length_map]; exact hl, .inl ⟨?_, fun H2 e2 => ⟨a, dx, v, d, os, rfl, bk.same e2, h8, hb, q H2 e2⟩⟩⟩
        rw [List.all_map]
        exact List.all_eq_true.mpr fun _ _ => rfl
      · exact .inl ⟨⟨i, h8⟩, q⟩
      · exact .inr ⟨_, h8, by simp, .inr ⟨by rw [List.all_cons, he]; rfl, q⟩⟩
    clear h
    refine ⟨a, rfl, bk1.get (i := 8) (by decide) rfl (isi_tuple (Dp.kd h1) ⟨_, rfl, ?_⟩)⟩
    rcases hd with ⟨⟨i, h8⟩, q⟩ | ⟨ds, h8, hl, hd⟩
    · rw [h8, if_pos (by simp [tyOf])]
      exact er q H1 e1
    · rw [h8] at h1 ⊢
      rw [if_neg (by simp [tyOf])]
      obtain ⟨l, xs, hv8, hq, al⟩ := Dp.tupI h1
      have hx := DpAll.length al
      refine .inr ⟨a, rfl, bk1.get (i := 8) (by decide) rfl ⟨l, hv8, ⟨_, hq⟩, fun D nD => ?_⟩⟩
      refine comp_bl walk_tup (szL (by omega)) nD (B := fun x H Q => sp_is_integer K [x] H Q _) (ds.map fun e => tyOf e == "int") (by rw [List.length_map, hx]) (fun H' e => SqT.same (Same.of_but nD e) hq) (fun i x b H' Q' hx hb e' q' => ?_) fun H' e' hD => ?_
      · obtain ⟨d', hd', dp⟩ := DpAll.getV (DpAll.same e' al) hx
        rw [List.getElem?_map, hd'] at hb
        cases hb
        exact ⟨x, _, rfl, Dp.kd dp, q' _ (Same.refl _)⟩
      · refine ⟨D, _, rfl, .inl (.inl hD), _, rfl, ?_⟩
        rw [List.all_map]
        rcases hd with ⟨h1, q⟩ | ⟨h1, q⟩
        · rw [show (ds.all (id ∘ fun e => tyOf e == "int")) = true from h1, if_neg (by decide)]
          exact q _ (e1.trans e')
        · rw [show (ds.all (id ∘ fun e => tyOf e == "int")) = false from h1, if_pos (by decide)]
          exact er q _ (e1.trans e')
  · exact ⟨_, rfl, .inr ⟨hb, q⟩⟩
def sp_places_of (K : PySem.W.Frag) (C CR : Addr) (n : Nat) : Sp := fun vs H Q E => ∃ x, vs = [x] ∧
  ((∃ (a dx : Addr) (v : Nat → V) (d : Nat → PyData) (ps ss : List PyData), x = .ref a ∧ Bk K C H a dx v d ∧ (∀ i, i < 15 → fine n (d i)) ∧ (dl d).all (plB n) = true ∧ d 0 = .tuple ps ∧ d 2 = .tuple ss ∧
      ∀ l H', Same H H' → SqT K H' l [.int (ss.length : Nat), .int (((ps.length : Nat) - 1 - (ss.length : Nat) : Int) / 2)] → Q (.ref l) H') ∨
   (((∃ (a dx : Addr) (v : Nat → V) (d : Nat → PyData), x = .ref a ∧ Bk K C H a dx v d ∧ (∀ i, i < 15 → fine n (d i)) ∧ (dl d).all (plB n) = false) ∨ ∃ t, Kd K H x t) ∧ ∀ H' dd, Same H H' → H' dd = some (.xd [("what", .str "book")]) → E (.ref CR) (some dd) H'))
theorem ok_places_of (Z : Zb mg) (D : C8.Def K mg "places_of" s_places_of f fd) (b : Binds K fd ["book"] []) {n : Nat} (R_BadPaper : ErrX1 P w K mg base "BadPaper" CR "what") (c_need_book : CalX P w K mg base (n + 5) "need_book" (sp_need_book K C CR n)) : CalX P w K mg base (n + 6) "places_of" (sp_places_of K C CR n) := by
  have nd := sc_places_of.nd
  refine calX D b sc_places_of (fun vs H Q E h => by obtain ⟨x, rfl, _⟩ := h; rfl) fun cdv A outer s H vs Q E hr h => ?_
  obtain ⟨x, rfl, h⟩ := h
  refine ⟨_, (pss_cons (ps_expr (pe_x c_need_book hr (by(omega)) tkw rfl (pa_cons (pv 0) pa_nil)))
    (pss_cons (ps_if (PW.pt (pw_or (pt_not (pt_val (pe_callB call_isi rfl Z.isinstance PyProof.Rows.boot_isinstance (pa_cons (pe_fld (pv 0) rfl) (pa_cons (pe_ty rfl Z.tuple PyProof.Rows.boot_tuple) pa_nil))))) (pw_or1 (pt_not (pt_val (pe_callB call_isi rfl Z.isinstance PyProof.Rows.boot_isinstance (pa_cons (pe_fld (pv 0) rfl) (pa_cons (pe_ty rfl Z.tuple PyProof.Rows.boot_tuple) pa_nil)))))))) (pss_one (ps_raiseX1 R_BadPaper rfl hr (by omega) tkw rfl pe_str)) pss_nil)
    (pss_cons (ps_set (i := 1) nd rfl (Or.inl rfl) (pe_callB call_len rfl Z.len PySem.boot_len (pa_cons (pe_fld (pv 0) rfl) pa_nil)))
    (pss_one (ps_ret (pe_tup (pa_cons (pv 1) (pa_cons (pe_op op_fdiv (pe_op op_sub (pe_op op_sub (pe_callB call_len rfl Z.len PySem.boot_len (pa_cons (pe_fld (pv 0) rfl) pa_nil)) pe_int) (pv 1)) pe_int) pa_nil)))))))), ?_⟩
  walk_at "r"
  rcases h with ⟨a, dx, v, d, ps, ss, rfl, bk, hf, hp, h0, h2, q⟩ | ⟨hb, q⟩
  · refine ⟨_, rfl, .inl ⟨a, dx, v, d, rfl, bk, hf, hp, fun H1 e1 => ?_⟩⟩
    have bk1 := bk.same e1
    have k2 := (bk1.dat 2 (by decide)).1
    have k0 := (bk1.dat 0 (by decide)).1
    rw [h2] at k2
    rw [h0] at k0
    refine ⟨a, rfl, bk1.get (i := 2) (by decide) rfl (isi_tuple (Dp.kd k2) ⟨_, rfl, ?_⟩)⟩
    rw [if_neg (by simp [tyOf])]
    refine ⟨a, rfl, bk1.get (i := 0) (by decide) rfl (isi_tuple (Dp.kd k0) ⟨_, rfl, ?_⟩)⟩
    rw [if_neg (by simp [tyOf])]
    obtain ⟨l2, x2, hv2, hq2, al2⟩ := Dp.tupI k2
    obtain ⟨l0, x0, hv0, hq0, al0⟩ := Dp.tupI k0
    have e2 := DpAll.length al2
    have e0 := DpAll.length al0
    refine ⟨a, rfl, bk1.get (i := 2) (by decide) rfl ?_⟩
    rw [hv2]
    refine lenT hq2 ?_
    refine ⟨a, rfl, bk1.get (i := 0) (by decide) rfl ?_⟩
    rw [hv0]
    refine lenT hq0 ⟨⟨by decide, by decide⟩, sz (by decide), fun p np => q p _ (e1.trans (same_new np _)) ?_⟩
    rw [← e2, ← e0]
    exact .inl (.inl upd_same)
  · exact ⟨_, rfl, .inr ⟨hb, q⟩⟩
end
end FP
set_option maxHeartbeats 1000000
namespace FP
open PySem PySem.Spec PyProof.Rows L2
local macro_rules | `(tactic| walk_at "rd") => `(tactic| dsimp only [tVar, tC, tCmp, tIsN, tNotN, tB, tAnd, tOr, tNot, tAndV, tOrV, tNotV, tIf, tNext, tSeq, tBreak, tCont, tDrop, tRet, tRetN, tIfS, tNever, tAsg, tPar, tAug, tOp, tUn, tTest, tChain, tFld, tNil, tCons, tTup, tLst, tCB, iList, iTup, iStr, tLc, tM0, tM1, tPart, tNoPart, tSl, tBM, tCallS, tCallSD, tMethW, tMake, sDPut, tDisp, tPairs, tXf, WE, tDGet, tDIn, gName, gLst, tDNewK, gTup, gCons, gNil, gSub, sFld, sFldAug, rI, rI0, rU, rEq, rNe, rAdd, rSub, t2I, tYes, cx_K, cx_w, cx_prog])
local macro_rules | `(tactic| walk_at "rs") => `(tactic| (try simp (maxSteps := 4000000) only [L2.start, List.map_cons, List.map_nil, List.length_cons, List.length_nil, List.cons_append, List.nil_append, Nat.reduceAdd, Nat.reduceSub, Nat.zero_add, List.replicate, List.getElem?_cons_zero, List.getElem?_cons_succ, Option.some.injEq, exists_eq_left', exists_eq_left, V.int.injEq, V.str.injEq, V.bl.injEq, V.ref.injEq, List.set_cons_zero, List.set_cons_succ, exists_and_left, List.cons.injEq, and_true, true_and, wipe, if_true, if_false, Bool.not_true, Bool.not_false, Bool.false_eq_true, decide_true, decide_false]))
local macro_rules | `(tactic| walk_at "r") => `(tactic| (walk_at "rd"; walk_at "rs"))
local macro_rules | `(tactic| walk_at "T") => `(tactic| (rw [if_pos (by first | assumption | rfl | decide | exact decide_eq_true (by assumption) | (simp [tyOf]; done) | (simp; omega) | omega)]; walk_at "rs"))
local macro_rules | `(tactic| walk_at "F") => `(tactic| (rw [if_neg (by first | assumption | decide | (simp [tyOf]; done) | (simp; omega) | (simp; assumption) | omega)]; walk_at "rs"))
open LamX
/-! ### == and != of books -/
section
variable {P : Program} {w : World} {K : PySem.W.Frag} {mg : Str → Option Value} {base : Heap} {f : Addr} {fd : FuncData} {C CT CR : Addr}
def sp_bk_eq (K : PySem.W.Frag) (C : Addr) : Sp := fun vs H Q _ => ∃ (a dx : Addr) (v : Nat → V) (d : Nat → PyData) (y : V), vs = [.ref a, y] ∧ Bk K C H a dx v d ∧ SeqAt.shaped (.tuple (dl d)) = true ∧
  ((∃ (b dy : Addr) (u : Nat → V) (e : Nat → PyData), y = .ref b ∧ Bk K C H b dy u e ∧ SeqAt.shaped (.tuple (dl e)) = true ∧ ∀ H', Same H H' → Q (.bl (PyData.eqv (.tuple (dl d)) (.tuple (dl e)))) H') ∨ ∃ t, Kd K H y t ∧ Q (.bl false) H)
theorem fn_bk_eq (Z : Zb mg) (F : C8.Fun K "__eq__" "Book.__eq__" s_Book___eq__ f fd) (BC : BkC K C) (G_Book : mg "Book" = some (.ref C)) (c_values_of : CalX P w K mg base 1 "values_of" (sp_values_of K C)) : FnOk P w K mg base (L2N.CX P w) 2 f fd ["self", "other"] (sp_bk_eq K C) := by
  refine fnX F sc_Book___eq__ (fun vs H Q E h => by obtain ⟨a, dx, v, d, y, rfl, _⟩ := h; rfl) fun cdv A outer s H vs Q E hr h => ?_
  obtain ⟨a, dx, v, d, y, rfl, bk, sh, h⟩ := h
  refine ⟨_, (pss_one (ps_ret (pe_and (pe_callB call_isi rfl Z.isinstance PyProof.Rows.boot_isinstance (pa_cons (pv 1) (pa_cons (pe_ref rfl G_Book) pa_nil))) (pe_one (pe_cmpR (op_eqD (u64 hr)) (pe_x c_values_of hr (by(omega)) tk0 rfl (pa_cons (pv 0) pa_nil)) (pe_x c_values_of hr (by(omega)) tk0 rfl (pa_cons (pv 1) pa_nil)) (nomark _)))))), ?_⟩
  walk_at "r"
  rcases h with ⟨b, dy, u, e, rfl, bk2, sh2, q⟩ | ⟨t, kd, q⟩
  · refine ⟨_, _, _, _, true, rfl, .own C, bk2.ty, bk2.cls.self, true, rfl, ?_⟩
    rw [if_pos rfl]
    refine ⟨a, dx, v, d, rfl, bk, fun l H1 e1 hl => ⟨b, dy, u, e, rfl, bk2.same e1, fun l2 H2 e2 hl2 => ?_⟩⟩
    exact ⟨_, _, .tup (SqT.same e2 hl) (DpAll.same (e1.trans e2) bk.all), .tup hl2 (DpAll.same (e1.trans e2) bk2.all), sh, sh2, q _ (e1.trans e2)⟩
  · refine ⟨_, _, _, _, false, rfl, .own C, kd.ty, BC.kit t kd.kn, false, rfl, ?_⟩
    rw [if_neg (by decide)]
    exact q
end
section
variable {X : Cx} {pins : List (Addr × Obj)} {σ : L2.St} {H : Hp} {s : Shared}
theorem ty_looks {y : V} {u t : Value} (I : Inv X pins σ H s) (ry : RelV y u) (ty : TyX X.K H y t) : PySem.W.Looks (model X.prog X.w) s.heap (typeOf u) t := by
  obtain ⟨Pp, kx, hp, _⟩ := kit_of I ry ty
  exact kx.ty _ _ I.kIn hp
/-- the own == is called, within a builtin's body too -/
theorem own_call {A' : Around} {n : Nat} {f : Addr} {fd : FuncData} {ps : List Str} {sp : Sp} {a : Addr} {y : V} {u : Value} {Q' : VK} (F : FnOk X.prog X.w X.K X.mg X.base (L2N.CX X.prog X.w) n f fd ps sp) (b : Binds X.K fd ps []) (hr : Room n A') (fr : A'.frames = X.A.frames) (I : Inv X pins σ H s) (ry : RelV y u) (h : sp [.ref a, y] H Q' (fun _ _ _ => False)) :
    wpAny (model X.prog X.w) A' (call (.ref f) [.ref a, u]) (fun v s' => ∃ z H', Inv X pins σ H' s' ∧ RelV z v ∧ Q' z H') X.xe s := by
  have e0 : Env0 X.prog X.w X.K X.mg X.base A' X.stack s H := by
    have e := I.env0
    exact ⟨by rw [fr]; exact e.frames, e.mod, e.bs, e.bsz, e.funs, e.frf, e.hok, e.bare⟩
  have hl := F.len _ _ _ _ h
  refine wpAny_call (codeAny_mono (F.run A' X.stack s H ⟨[.ref a, u], []⟩ [.ref a, u] [.ref a, y] _ _ hr e0 (by
    have := b s [.ref a, u] I.kIn (by simpa using hl)
    simpa using this) (.cons rfl (.cons ry .nil)) h) fun r s' hq => ?_)
  cases r with
  | error e =>
    obtain ⟨_, _, _, _, _, _, _, _, _, _, _, _, z⟩ := hq
    exact z.elim
  | ok fl =>
    cases fl with
    | ret u =>
      obtain ⟨z, H', I', rz, q⟩ := I.after hq
      exact ⟨z, H', I', rz, q⟩
    | next | brk | cont => exact False.elim hq
end
section
open PySem.W
variable {prog : Program} {w : World} {A : Around} {E : Value → Shared → Prop} {s : Shared} {K : Frag} {x C f : Addr} {ox : Obj} {od : Option Obj} {b tb : Value}
theorem bound_ne {M : Model} {args : List Value} {Q : Option Value → Shared → Prop} (kin : K.In s.heap) (at_ : InstAt s.heap x ox C od) (hs : findIn K (.ref C) "__ne__" = some (some (.builtin "object.__ne__")))
    (h : wpAny M A (call (.builtin "object.__ne__") (.ref x :: args)) (fun v => Q (some v)) E s) : wpAny M A (callSpecialIfBound? (.ref x) "__ne__" args) Q E s := by
  have last : wpAny M A (call (.builtin "object.__ne__") ([.ref x] ++ args) >>= fun v => pure (some v)) Q E s := wpAny_bind (wpAny_mono h (fun v s' h' => wpAny_pure h') fun _ _ h' => h')
  simp only [callSpecialIfBound?, bindSpecialIfBound?]
  refine wpAny_holding (wpAny_bind (wpAny_bind (wpAny_bind (at_.type.here ((looks_findIn kin hs).here ?_)))))
  refine wpAny_bind (wpAny_askSetting (wpAny_ite ?_))
  split
  · exact wpAny_bind (wpAny_of_eq (F.cmp_object.ne.bind _) (wpAny_pure (by exact last)))
  · exact wpAny_tryCatch (wpAny_bind (wpAny_of_eq (F.cmp_object.ne.bind _) (wpAny_pure (by exact last))))
theorem entry_ne {Q : Fin → Shared → Prop} (hu : A.units < cLine) (kin : K.In s.heap) (at_ : InstAt s.heap x ox C od) (heq : findIn K (.ref C) "__eq__" = some (some (.ref f))) (hf : isFn K (.ref f) = true)
    (h : wpAny (model prog w) A (call (.ref f) [.ref x, b]) (fun v s' => ∃ c, v = .bool c ∧ Q (.done (.ret (.bool (!c)))) s') E s) : wpAny (model prog w) A (Builtin.«object.__ne__» ⟨[.ref x, b], []⟩) Q E s := by
  unfold Builtin.«object.__ne__»
  refine wpAny_bind (wpAny_of_eq (a := ((Value.ref x : Value), [b])) (by first | rfl | (simp only [slotArgs]; rfl)) ?_)
  refine wpAny_bind (wpAny_cRoomFor hu ?_)
  refine wpAny_bind (ifBound_K kin at_ heq hf (wpAny_mono h (fun v s' hv => ?_) fun _ _ e => e))
  obtain ⟨c, rfl, q⟩ := hv
  refine wpAny_bind (wpAny_truthy_bool ?_)
  exact wpAny_pure q
theorem ne_own {Q : Value → Shared → Prop} (hu : A.units + 1 < cLine) (kin : K.In s.heap) (at_ : InstAt s.heap x ox C od) (hb : Looks (model prog w) s.heap (typeOf b) tb) (hn : notFirst K C tb = true) (hm : mroIn K C (.type "object") = some true)
    (hne : findIn K (.ref C) "__ne__" = some (some (.builtin "object.__ne__"))) (heq : findIn K (.ref C) "__eq__" = some (some (.ref f))) (hf : isFn K (.ref f) = true)
    (h : wpAny (model prog w) A.in1 (call (.ref f) [.ref x, b]) (fun v s' => ∃ c, v = .bool c ∧ Q (.bool (!c)) s') E s) : wpAny (model prog w) A (richCompare .NotEq (.ref x) b) Q E s := by
  have hu1 : A.in1.units < cLine := by show A.units + 1 < cLine; omega
  have one : wpAny (model prog w) A (tryCompare (.ref x) (cmpInfo .NotEq).2.1 b) (fun r s' => ∃ v, r = some v ∧ Q v s') E s := by
    unfold tryCompare
    refine wpAny_bind (bound_ne kin at_ hne (wpAny_call (codeAny_call_builtin F.cmp_object.ne.plain F.cmpEntry_ne (check_slot F.cmpKind_ne F.cmpSplit_ne (at_.type.andThen (looks_mroIn kin hm)) (F.cmpArgs_ne _ _) (entry_ne hu1 kin at_ heq hf (wpAny_mono h (fun v s' hv => ?_) fun _ _ e => e))))))
    obtain ⟨c, rfl, q⟩ := hv
    exact ⟨c, rfl, wpAny_pure ⟨_, rfl, q⟩⟩
  unfold richCompare
  simp only [oneThing_ref]
  refine wpAny_holding (wpAny_bind (wpAny_cRoomFor (by omega) ?_))
  refine wpAny_bind (at_.type.here (wpAny_bind (hb.here ?_)))
  split
  · rename_i q
    have e : subIn K tb (.ref C) = some false := by
      rcases Bool.or_eq_true_iff.mp hn with e | e
      · rw [beq_iff_eq.mp e] at q; simp at q
      · exact beq_iff_eq.mp e
    refine wpAny_bind ((looks_subIn kin e).here ?_)
    simp only [Bool.false_eq_true, if_false]
    refine wpAny_bind (wpAny_mono one (fun r s' z => ?_) fun _ _ e => e)
    obtain ⟨v, rfl, hq⟩ := z
    exact wpAny_pure hq
  · refine wpAny_bind (wpAny_pure ?_)
    simp only [Bool.false_eq_true, if_false]
    refine wpAny_bind (wpAny_mono one (fun r s' z => ?_) fun _ _ e => e)
    obtain ⟨v, rfl, hq⟩ := z
    exact wpAny_pure hq
end
end FP
set_option maxHeartbeats 1000000
namespace FP
open PySem PySem.Spec PyProof.Rows L2
local macro_rules | `(tactic| walk_at "rd") => `(tactic| dsimp only [tVar, tC, tCmp, tIsN, tNotN, tB, tAnd, tOr, tNot, tAndV, tOrV, tNotV, tIf, tNext, tSeq, tBreak, tCont, tDrop, tRet, tRetN, tIfS, tNever, tAsg, tPar, tAug, tOp, tUn, tTest, tChain, tFld, tNil, tCons, tTup, tLst, tCB, iList, iTup, iStr, tLc, tM0, tM1, tPart, tNoPart, tSl, tBM, tCallS, tCallSD, tMethW, tMake, sDPut, tDisp, tPairs, tXf, WE, tDGet, tDIn, gName, gLst, tDNewK, gTup, gCons, gNil, gSub, sFld, sFldAug, rI, rI0, rU, rEq, rNe, rAdd, rSub, t2I, tYes, cx_K, cx_w, cx_prog])
local macro_rules | `(tactic| walk_at "rs") => `(tactic| (try simp (maxSteps := 4000000) only [L2.start, List.map_cons, List.map_nil, List.length_cons, List.length_nil, List.cons_append, List.nil_append, Nat.reduceAdd, Nat.reduceSub, Nat.zero_add, List.replicate, List.getElem?_cons_zero, List.getElem?_cons_succ, Option.some.injEq, exists_eq_left', exists_eq_left, V.int.injEq, V.str.injEq, V.bl.injEq, V.ref.injEq, List.set_cons_zero, List.set_cons_succ, exists_and_left, List.cons.injEq, and_true, true_and, wipe, if_true, if_false, Bool.not_true, Bool.not_false, Bool.false_eq_true, decide_true, decide_false]))
local macro_rules | `(tactic| walk_at "r") => `(tactic| (walk_at "rd"; walk_at "rs"))
local macro_rules | `(tactic| walk_at "T") => `(tactic| (rw [if_pos (by first | assumption | rfl | decide | exact decide_eq_true (by assumption) | (simp [tyOf]; done) | (simp; omega) | omega)]; walk_at "rs"))
local macro_rules | `(tactic| walk_at "F") => `(tactic| (rw [if_neg (by first | assumption | decide | (simp [tyOf]; done) | (simp; omega) | (simp; assumption) | omega)]; walk_at "rs"))
open LamX
/-! ### == and != of books, as expressions -/
structure BkE (P : Program) (w : World) (K : PySem.W.Frag) (mg : Str → Option Value) (base : Heap) (C : Addr) : Prop where
  ex : ∃ (f : Addr) (fd : FuncData), FnOk P w K mg base (L2N.CX P w) 2 f fd ["self", "other"] (sp_bk_eq K C) ∧ Binds K fd ["self", "other"] [] ∧ PySem.W.findIn K (.ref C) "__eq__" = some (some (.ref f)) ∧ PySem.W.isFn K (.ref f) = true
  ne : PySem.W.findIn K (.ref C) "__ne__" = some (some (.builtin "object.__ne__"))
  nl : PySem.W.subIn K (.type "list") (.ref C) = some false
/-- what a book is compared with: a book, a list -/
def rBk (K : PySem.W.Frag) (C : Addr) (neg : Bool) : R2 := fun x y H Q => ∃ (a dx : Addr) (v : Nat → V) (d : Nat → PyData), x = .ref a ∧ Bk K C H a dx v d ∧ SeqAt.shaped (.tuple (dl d)) = true ∧
  ((∃ (b dy : Addr) (u : Nat → V) (e : Nat → PyData), y = .ref b ∧ Bk K C H b dy u e ∧ SeqAt.shaped (.tuple (dl e)) = true ∧ ∀ H', Same H H' → Q (.bl (xor neg (PyData.eqv (.tuple (dl d)) (.tuple (dl e))))) H') ∨ (Kd K H y "list" ∧ Q (.bl neg) H))
section
variable {X : Cx}
theorem rBk_sp {K : PySem.W.Frag} {C : Addr} {neg : Bool} {x y : V} {H : Hp} {Q : VK} {E : XK} (h : rBk K C neg x y H Q) : ∃ a dx fs t, x = .ref a ∧ H a = some (.ins C dx fs) ∧ TyX K H y t ∧ (t = .ref C ∨ t = .type "list") ∧ BkC K C ∧ sp_bk_eq K C [.ref a, y] H (fun z H' => ∃ c, z = .bl c ∧ Q (.bl (xor neg c)) H') E := by
  obtain ⟨a, dx, v, d, rfl, bk, sh, ⟨b, dy, u, e, rfl, bk2, sh2, q⟩ | ⟨kd, q⟩⟩ := h
  · exact ⟨a, dx, _, _, rfl, bk.ins, bk2.ty, .inl rfl, bk.cls, a, dx, v, d, _, rfl, bk, sh, .inl ⟨b, dy, u, e, rfl, bk2, sh2, fun H' e' => ⟨_, rfl, q H' e'⟩⟩⟩
  · exact ⟨a, dx, _, _, rfl, bk.ins, kd.ty, .inr rfl, bk.cls, a, dx, v, d, _, rfl, bk, sh, .inr ⟨_, kd, _, rfl, by rw [Bool.xor_false]; exact q⟩⟩
theorem op_bkEq {C : Addr} (B : BkE X.prog X.w X.K X.mg X.base C) {k : Nat} (hr : Room (k + 3) X.A) : OpR X (compareOp .Eq) (rBk X.K C false) := by
  intro pins s σ H x y v u Q I rx ry h
  obtain ⟨f, fd, F, b, h1, h2⟩ := B.ex
  obtain ⟨a, dx, fs, t, rfl, ha, ty, ht, _, hs⟩ := rBk_sp (E := fun _ _ _ => False) h
  obtain rfl : v = Value.ref a := rx
  obtain ⟨mA, J, _⟩ := ins_get I.hok ha
  obtain ⟨od, J, _⟩ := J.look
  obtain ⟨m, hF⟩ := I.fr
  show wpAny (model X.prog X.w) X.A (richCompare .Eq (.ref a) u) (EP X pins σ Q) X.xe s
  refine PySem.W.cmp_K (op := .Eq) (tb := t) hr.units0 hF I.ok.mod.kin J (ty_looks I ry ty) ?_ h1 h2 ?_
  · rcases ht with rfl | rfl
    · simp [PySem.W.notFirst]
    · simp [PySem.W.notFirst, B.nl]
  · refine wpAny_mono (own_call F b (hr.mono (by omega)) rfl I ry hs) (fun r s' z => ?_) fun _ _ e => e
    obtain ⟨z, H', I', rz, c, rfl, q⟩ := z
    obtain rfl : r = Value.bool c := rz
    rw [Bool.false_xor] at q
    exact ⟨.bl c, H', I', rfl, q⟩
theorem op_bkNe {C : Addr} (B : BkE X.prog X.w X.K X.mg X.base C) {k : Nat} (hr : Room (k + 3) X.A) : OpR X (compareOp .NotEq) (rBk X.K C true) := by
  intro pins s σ H x y v u Q I rx ry h
  obtain ⟨f, fd, F, b, h1, h2⟩ := B.ex
  obtain ⟨a, dx, fs, t, rfl, ha, ty, ht, bc, hs⟩ := rBk_sp (E := fun _ _ _ => False) h
  obtain rfl : v = Value.ref a := rx
  obtain ⟨mA, J, _⟩ := ins_get I.hok ha
  obtain ⟨od, J, _⟩ := J.look
  show wpAny (model X.prog X.w) X.A (richCompare .NotEq (.ref a) u) (EP X pins σ Q) X.xe s
  refine ne_own (tb := t) (by have := hr.un; omega) I.kIn J (ty_looks I ry ty) ?_ bc.hm B.ne h1 h2 ?_
  · rcases ht with rfl | rfl
    · simp [PySem.W.notFirst]
    · simp [PySem.W.notFirst, B.nl]
  · refine wpAny_mono (own_call F b (hr.in1.mono (by omega)) rfl I ry hs) (fun r s' z => ?_) fun _ _ e => e
    obtain ⟨z, H', I', rz, c, rfl, q⟩ := z
    obtain rfl : r = Value.bool c := rz
    rw [Bool.true_xor] at q
    exact ⟨c, rfl, .bl (!c), H', I', rfl, q⟩
end
end FP
set_option maxHeartbeats 1000000
namespace FP
open PySem PySem.Spec PyProof.Rows L2
local macro_rules | `(tactic| walk_at "rd") => `(tactic| dsimp only [tVar, tC, tCmp, tIsN, tNotN, tB, tAnd, tOr, tNot, tAndV, tOrV, tNotV, tIf, tNext, tSeq, tBreak, tCont, tDrop, tRet, tRetN, tIfS, tNever, tAsg, tPar, tAug, tOp, tUn, tTest, tChain, tFld, tNil, tCons, tTup, tLst, tCB, iList, iTup, iStr, tLc, tM0, tM1, tPart, tNoPart, tSl, tBM, tCallS, tCallSD, tMethW, tMake, sDPut, tDisp, tPairs, tXf, WE, tDGet, tDIn, gName, gLst, tDNewK, gTup, gCons, gNil, gSub, sFld, sFldAug, rI, rI0, rU, rEq, rNe, rAdd, rSub, t2I, tYes, cx_K, cx_w, cx_prog])
local macro_rules | `(tactic| walk_at "rs") => `(tactic| (try simp (maxSteps := 4000000) only [L2.start, List.map_cons, List.map_nil, List.length_cons, List.length_nil, List.cons_append, List.nil_append, Nat.reduceAdd, Nat.reduceSub, Nat.zero_add, List.replicate, List.getElem?_cons_zero, List.getElem?_cons_succ, Option.some.injEq, exists_eq_left', exists_eq_left, V.int.injEq, V.str.injEq, V.bl.injEq, V.ref.injEq, List.set_cons_zero, List.set_cons_succ, exists_and_left, List.cons.injEq, and_true, true_and, wipe, if_true, if_false, Bool.not_true, Bool.not_false, Bool.false_eq_true, decide_true, decide_false]))
local macro_rules | `(tactic| walk_at "r") => `(tactic| (walk_at "rd"; walk_at "rs"))
local macro_rules | `(tactic| walk_at "T") => `(tactic| (rw [if_pos (by first | assumption | rfl | decide | exact decide_eq_true (by assumption) | (simp [tyOf]; done) | (simp; omega) | omega)]; walk_at "rs"))
local macro_rules | `(tactic| walk_at "F") => `(tactic| (rw [if_neg (by first | assumption | decide | (simp [tyOf]; done) | (simp; omega) | (simp; assumption) | omega)]; walk_at "rs"))
open LamX
/-! ### the law's own: book_values, names, made -/
section
variable {X : Cx} {k j : Nat} {x : Str} {sp : Sp} {W : WX} {p pos : Pos}
/-- f() -/
theorem pe_x0 (c : CalX X.prog X.w X.K X.mg X.base k x sp) (hr : Room j X.A) (hk : k ≤ j) (tk : L2N.Takes X W) (hg : Gl X x)
    (hdb : (x == ("__debug__" : Str)) = false := by decide) : PE X (.Call (.Name x p) [] [] pos) (tCallS sp (WE W) tNil) := by
  obtain ⟨f, fd, ps, F, hm, kp, b⟩ := c.ex
  refine ⟨fun pins s σ H Q I h => ?_⟩
  refine wpAny_Call_Name_kw (ld_glob I hg hm ?_ hdb)
  exact PySem.W.callWith_K0 I.kIn kp (run_fnS (us := []) F (hr.mono hk) b (L2N.passAt tk σ) I .nil h)
end
section
variable {P : Program} {w : World} {K : PySem.W.Frag} {mg : Str → Option Value} {base : Heap} {f : Addr} {fd : FuncData} {C CT CR : Addr}
def sp_law_names : Sp := fun vs H Q _ => vs = [] ∧ ∀ l H', Same H H' → H l = none → H' l = some (.lst (nmc.map strV)) → Q (.ref l) H'
theorem ok_law_names (D : C8.Def K mg "_law_names" s_law_names f fd) (b : Binds K fd [] []) : CalX P w K mg base 1 "_law_names" sp_law_names := by
  have nd := sc_law_names.nd
  refine calX D b sc_law_names (fun vs H Q E h => by obtain ⟨rfl, _⟩ := h; rfl) fun cdv A outer s H vs Q E hr h => ?_
  obtain ⟨rfl, q⟩ := h
  refine ⟨_, (pss_one (ps_ret (pe_lst (pa_cons pe_str (pa_cons pe_str (pa_cons pe_str (pa_cons pe_str (pa_cons pe_str (pa_cons pe_str (pa_cons pe_str (pa_cons pe_str (pa_cons pe_str (pa_cons pe_str (pa_cons pe_str (pa_cons pe_str (pa_cons pe_str (pa_cons pe_str (pa_cons pe_str pa_nil)))))))))))))))))), ?_⟩
  walk_at "r"
  refine ⟨sz (by decide), fun l nl => q l _ (same_new nl _) nl ?_⟩
  rw [upd_same, ← nmc_eq]; rfl
def sp_law_book_values (K : PySem.W.Frag) (C : Addr) : Sp := fun vs H Q _ => ∃ (a dx : Addr) (v : Nat → V) (d : Nat → PyData), vs = [.ref a] ∧ Bk K C H a dx v d ∧ ∀ l H', Same H H' → H' l = some (.lst (args15 v)) → Q (.ref l) H'
theorem ok_law_book_values (D : C8.Def K mg "_law_book_values" s_law_book_values f fd) (b : Binds K fd ["book"] []) : CalX P w K mg base 1 "_law_book_values" (sp_law_book_values K C) := by
  have nd := sc_law_book_values.nd
  refine calX D b sc_law_book_values (fun vs H Q E h => by obtain ⟨a, dx, v, d, rfl, _⟩ := h; rfl) fun cdv A outer s H vs Q E hr h => ?_
  obtain ⟨a, dx, v, d, rfl, bk, q⟩ := h
  refine ⟨_, (pss_cons (ps_set (i := 1) nd rfl (Or.inl rfl) (pe_lst (pa_cons (pe_fld (pv 0) rfl) (pa_cons (pe_fld (pv 0) rfl) (pa_cons (pe_fld (pv 0) rfl) (pa_cons (pe_fld (pv 0) rfl) (pa_cons (pe_fld (pv 0) rfl) (pa_cons (pe_fld (pv 0) rfl) (pa_cons (pe_fld (pv 0) rfl) (pa_cons (pe_fld (pv 0) rfl) pa_nil))))))))))
    (pss_one (ps_ret (pe_op op_cat (pv 1) (pe_lst (pa_cons (pe_fld (pv 0) rfl) (pa_cons (pe_fld (pv 0) rfl) (pa_cons (pe_fld (pv 0) rfl) (pa_cons (pe_fld (pv 0) rfl) (pa_cons (pe_fld (pv 0) rfl) (pa_cons (pe_fld (pv 0) rfl) (pa_cons (pe_fld (pv 0) rfl) pa_nil)))))))))))), ?_⟩
  walk_at "r"
  refine bk.get (i := 0) (by decide) rfl ?_
  refine bk.get (i := 1) (by decide) rfl ?_
  refine bk.get (i := 2) (by decide) rfl ?_
  refine bk.get (i := 3) (by decide) rfl ?_
  refine bk.get (i := 4) (by decide) rfl ?_
  refine bk.get (i := 5) (by decide) rfl ?_
  refine bk.get (i := 6) (by decide) rfl ?_
  refine bk.get (i := 7) (by decide) rfl ?_
  refine ⟨sz (by decide), fun p1 n1 => ?_⟩
  have s1 := same_new n1 (.lst [v 0, v 1, v 2, v 3, v 4, v 5, v 6, v 7])
  have bk1 := bk.same s1
  refine bk1.get (i := 8) (by decide) rfl ?_
  refine bk1.get (i := 9) (by decide) rfl ?_
  refine bk1.get (i := 10) (by decide) rfl ?_
  refine bk1.get (i := 11) (by decide) rfl ?_
  refine bk1.get (i := 12) (by decide) rfl ?_
  refine bk1.get (i := 13) (by decide) rfl ?_
  refine bk1.get (i := 14) (by decide) rfl ?_
  refine ⟨sz (by decide), fun p2 n2 => ?_⟩
  have s2 := same_new n2 (.lst [v 8, v 9, v 10, v 11, v 12, v 13, v 14])
  refine ⟨p1, p2, _, _, rfl, rfl, s2 _ _ upd_same, upd_same, sz (by simp), fun p3 n3 => ?_⟩
  exact q p3 _ ((s1.trans s2).trans (same_new n3 _)) upd_same
theorem ok_law_made (D : C8.Def K mg "_law_made" s_law_made f fd) (b : Binds K fd ["values"] []) {n : Nat} (BC : BkC K C) (MK_Book : MkX P w K mg base (n + 2) "Book" C (sp_bk_init K C n)) : CalX P w K mg base (n + 4) "_law_made" (sp_book_by K C n) := by
  have nd := sc_law_made.nd
  refine calX D b sc_law_made (fun vs H Q E h => by obtain ⟨l, v, d, rfl, _⟩ := h; rfl) fun cdv A outer s H vs Q E hr h => ?_
  obtain ⟨l, v, d, rfl, hl, hv, q⟩ := h
  refine ⟨_, (pss_cons (ps_asg (pv 0) (pg_lst rfl (pgs_cons (pg_name (i := 1) nd rfl (Or.inl rfl)) (pgs_cons (pg_name (i := 2) nd rfl (Or.inl rfl)) (pgs_cons (pg_name (i := 3) nd rfl (Or.inl rfl)) (pgs_cons (pg_name (i := 4) nd rfl (Or.inl rfl)) (pgs_cons (pg_name (i := 5) nd rfl (Or.inl rfl)) (pgs_cons (pg_name (i := 6) nd rfl (Or.inl rfl)) (pgs_cons (pg_name (i := 7) nd rfl (Or.inl rfl)) (pgs_cons (pg_name (i := 8) nd rfl (Or.inl rfl)) (pgs_cons (pg_name (i := 9) nd rfl (Or.inl rfl)) (pgs_cons (pg_name (i := 10) nd rfl (Or.inl rfl)) (pgs_cons (pg_name (i := 11) nd rfl (Or.inl rfl)) (pgs_cons (pg_name (i := 12) nd rfl (Or.inl rfl)) (pgs_cons (pg_name (i := 13) nd rfl (Or.inl rfl)) (pgs_cons (pg_name (i := 14) nd rfl (Or.inl rfl)) (pgs_cons (pg_name (i := 15) nd rfl (Or.inl rfl)) pgs_nil)))))))))))))))))
    (pss_one (ps_ret (pe_mk MK_Book hr (by(omega)) rfl (pa_cons (pv 1) (pa_cons (pv 2) (pa_cons (pv 3) (pa_cons (pv 4) (pa_cons (pv 5) (pa_cons (pv 6) (pa_cons (pv 7) (pa_cons (pv 8) (pa_cons (pv 9) (pa_cons (pv 10) (pa_cons (pv 11) (pa_cons (pv 12) (pa_cons (pv 13) (pa_cons (pv 14) (pa_cons (pv 15) pa_nil))))))))))))))))))), ?_⟩
  unfold args15 at hl
  walk_at "r"
  refine ⟨_, hl, rfl, ?_⟩
  iterate 15 refine ⟨_, _, rfl, ?_⟩
  refine ⟨rfl, ?_⟩
  walk_at "rs"
  intro r dx nr ndx ne
  exact new_book BC nr ndx ne hv q
end
end FP
set_option maxHeartbeats 1000000
namespace FP
open PySem PySem.Spec PyProof.Rows L2
local macro_rules | `(tactic| walk_at "rd") => `(tactic| dsimp only [tVar, tC, tCmp, tIsN, tNotN, tB, tAnd, tOr, tNot, tAndV, tOrV, tNotV, tIf, tNext, tSeq, tBreak, tCont, tDrop, tRet, tRetN, tIfS, tNever, tAsg, tPar, tAug, tOp, tUn, tTest, tChain, tFld, tNil, tCons, tTup, tLst, tCB, iList, iTup, iStr, tLc, tM0, tM1, tPart, tNoPart, tSl, tBM, tCallS, tCallSD, tMethW, tMake, sDPut, tDisp, tPairs, tXf, WE, tDGet, tDIn, gName, gLst, tDNewK, gTup, gCons, gNil, gSub, sFld, sFldAug, rI, rI0, rU, rEq, rNe, rAdd, rSub, t2I, tYes, cx_K, cx_w, cx_prog])
local macro_rules | `(tactic| walk_at "rs") => `(tactic| (try simp (maxSteps := 4000000) only [L2.start, List.map_cons, List.map_nil, List.length_cons, List.length_nil, List.cons_append, List.nil_append, Nat.reduceAdd, Nat.reduceSub, Nat.zero_add, List.replicate, List.getElem?_cons_zero, List.getElem?_cons_succ, Option.some.injEq, exists_eq_left', exists_eq_left, V.int.injEq, V.str.injEq, V.bl.injEq, V.ref.injEq, List.set_cons_zero, List.set_cons_succ, exists_and_left, List.cons.injEq, and_true, true_and, wipe, if_true, if_false, Bool.not_true, Bool.not_false, Bool.false_eq_true, decide_true, decide_false]))
local macro_rules | `(tactic| walk_at "r") => `(tactic| (walk_at "rd"; walk_at "rs"))
local macro_rules | `(tactic| walk_at "T") => `(tactic| (rw [if_pos (by first | assumption | rfl | decide | exact decide_eq_true (by assumption) | (simp [tyOf]; done) | (simp; omega) | omega)]; walk_at "rs"))
local macro_rules | `(tactic| walk_at "F") => `(tactic| (rw [if_neg (by first | assumption | decide | (simp [tyOf]; done) | (simp; omega) | (simp; assumption) | omega)]; walk_at "rs"))
open LamX
/-! ### _law_read_fault, _law_count_fault -/
section
variable {P : Program} {w : World} {K : PySem.W.Frag} {mg : Str → Option Value} {base : Heap} {f c Pt : Addr} {fd : FuncData} {C CT CR : Addr} {T : List (Addr × Str)}
def Tel (K : PySem.W.Frag) (T : List (Addr × Str)) (H : Hp) (Q : VK) (xs : List V) : Prop := ∀ l H', ExtN H H' → Tabs T H' → SqT K H' l xs → Q (.ref l) H'
def endF (K : PySem.W.Frag) (T : List (Addr × Str)) (m : Nat) (H : Hp) (Q : VK) : BRes → Prop
  | .ok ds => ds.length = 15 ∧ (∀ d, d ∈ ds → fine m d) ∧ ∀ H', ExtN H H' → Tabs T H' → Q .non H'
  | .err k e => Tel K T H Q [.str "text", .int ((k + 1 : Nat) : Int), .int ((e + 1 : Nat) : Int)]
def sp_law_read_fault (K : PySem.W.Frag) (T : List (Addr × Str)) (n m : Nat) : Sp := fun vs H Q _ => ∃ v, vs = [v] ∧ Tabs T H ∧
  ((∃ (t : List Nat) (r : BRes), v = strV t ∧ t.length ≤ 900000 ∧ (TL.spl [10] 0 [] t).length ≤ 1000 ∧ (∀ l, l ∈ TL.spl [10] 0 [] t → l.length ≤ 100000) ∧ BR n nmc 0 (TL.spl [10] 0 [] t) [] r ∧ endF K T m H Q r) ∨
   (∃ k, (k == "str") = false ∧ (∀ H', ExtN H H' → Kd K H' v k) ∧ Tel K T H Q [.str "text", .int 0, .int 0]))
theorem ok_law_read_fault (D : C8.Def K mg "_law_read_fault" s_law_read_fault f fd) (hc : fd.code = .ref c) (b : Binds K fd ["text"] []) (F : FltC P w K mg base CT CR) {n m : Nat} (c_book_of_text : CalX P w K mg base (n + 9) "book_of_text" (sp_book_of_text K C CT n m)) (TB : TabB base mg c Pt) {ql : Str} (hq : (("_law_read_fault" : Str) ++ ".<locals>.") ++ "<lambda>" = ql) (hmT : (Pt, ql) ∈ T) (hu : ∀ p ∈ T, p.1 = Pt → p.2 = ql) : CalG P w K mg base (n + 12) "_law_read_fault" (sp_law_read_fault K T n m) := by
  refine calG D hc b sc_law_read_fault (fun vs H Q E h => by obtain ⟨v, rfl, _⟩ := h; rfl) fun A outer s H vs Q E hg hr h => ?_
  obtain ⟨v, rfl, hT, h⟩ := h
  have nd := sc_law_read_fault.nd
  refine ⟨_, pss_one (ps_ret (pe_flt (T := T) (P := Pt) (k := n + 9) F rfl hg TB rfl (cx_ql.trans hq) hmT hu hr (by omega) (lamS_by (sc := C8.fnScope s_law_read_fault) (by decide +kernel)) rfl (fun _ _ _ _ _ => rfl) (fun A outer s H E f c hr2 => pe_x c_book_of_text hr2 (Nat.le_refl _) tkN rfl (pa_cons (pv 0) pa_nil)))), ?_⟩
  walk_at "r"
  dsimp only [tLam, TTflt]
  refine ⟨hT, fun H1 eN T1 E hE => ⟨v, rfl, ?_⟩⟩
  rcases h with ⟨t, r, rfl, h1, h2, h3, hb, q⟩ | ⟨k, ks, kup, q⟩
  · refine .inl ⟨t, r, rfl, h1, h2, h3, hb, ?_⟩
    cases r with
    | ok ds => exact ⟨q.1, q.2.1, fun a dx w H' e' _ _ => q.2.2 H' (eN.trans (ExtN.of e')) (T1.ext e')⟩
    | err k e => exact fun H' dd e' hdd => hE _ _ _ (.inl ⟨dd, _, _, rfl, rfl, hdd, fun t H2 e2 st => q t H2 ((eN.trans (ExtN.of e')).trans (ExtN.of e2)) ((T1.ext e').ext e2) st⟩)
  · refine .inr ⟨v, k, rfl, kup H1 eN, ks, fun H' dd e hdd => hE _ _ _ (.inl ⟨dd, 0, 0, rfl, rfl, hdd, fun t H2 e2 st => ?_⟩)⟩
    exact q t H2 ((eN.trans (ExtN.of e)).trans (ExtN.of e2)) ((T1.ext e).ext e2) st
/-- a value that book_text, class_number, places_of refuse -/
def NoBk (K : PySem.W.Frag) (C : Addr) (n : Nat) (H : Hp) (x : V) : Prop := (∃ (a dx : Addr) (v : Nat → V) (d : Nat → PyData), x = .ref a ∧ Bk K C H a dx v d ∧ (∀ i, i < 15 → fine n (d i)) ∧ (dl d).all (plB n) = false) ∨ ∃ t, Kd K H x t
def OddBk (K : PySem.W.Frag) (C : Addr) (n : Nat) (H : Hp) (x : V) : Prop := ∃ (a dx : Addr) (v : Nat → V) (d : Nat → PyData), x = .ref a ∧ Bk K C H a dx v d ∧ (∀ i, i < 15 → fine n (d i)) ∧ (dl d).all (plB n) = true ∧ ((∃ i, d 8 = .int i) ∨ ∃ e, d 8 = .tuple [e] ∧ (tyOf e == "int") = false)
def sp_law_count_fault (K : PySem.W.Frag) (C : Addr) (T : List (Addr × Str)) (n : Nat) : Sp := fun vs H Q _ => ∃ x, vs = [x] ∧ Tabs T H ∧ (∀ H', ExtN H H' → NoBk K C n H' x ∨ OddBk K C n H' x) ∧ Tel K T H Q [.str "paper", .str "book"]
theorem ok_law_count_fault (D : C8.Def K mg "_law_count_fault" s_law_count_fault f fd) (hc : fd.code = .ref c) (b : Binds K fd ["book"] []) (F : FltC P w K mg base CT CR) {n : Nat} (c_class_number : CalX P w K mg base (n + 6) "class_number" (sp_class_number K C CR n)) (TB : TabB base mg c Pt) {ql : Str} (hq : (("_law_count_fault" : Str) ++ ".<locals>.") ++ "<lambda>" = ql) (hmT : (Pt, ql) ∈ T) (hu : ∀ p ∈ T, p.1 = Pt → p.2 = ql) : CalG P w K mg base (n + 9) "_law_count_fault" (sp_law_count_fault K C T n) := by
  refine calG D hc b sc_law_count_fault (fun vs H Q E h => by obtain ⟨v, rfl, _⟩ := h; rfl) fun A outer s H vs Q E hg hr h => ?_
  obtain ⟨x, rfl, hT, h, q⟩ := h
  have nd := sc_law_count_fault.nd
  refine ⟨_, pss_one (ps_ret (pe_flt (T := T) (P := Pt) (k := n + 6) F rfl hg TB rfl (cx_ql.trans hq) hmT hu hr (by omega) (lamS_by (sc := C8.fnScope s_law_count_fault) (by decide +kernel)) rfl (fun _ _ _ _ _ => rfl) (fun A outer s H E f c hr2 => pe_x c_class_number hr2 (Nat.le_refl _) tkN rfl (pa_cons (pv 0) pa_nil)))), ?_⟩
  walk_at "r"
  dsimp only [tLam, TTflt]
  refine ⟨hT, fun H1 eN T1 E hE => ⟨x, rfl, x, rfl, ?_⟩⟩
  have er : ∀ H' dd, Same H1 H' → H' dd = some (.xd [("what", .str "book")]) → WE (fun cls d _ H => E cls d H) [some x] (.ref CR) (some dd) H' := fun H' dd e hdd => hE _ _ _ (.inr ⟨dd, rfl, rfl, hdd, fun t H2 e2 st => q t H2 ((eN.trans (ExtN.of e)).trans (ExtN.of e2)) ((T1.ext e).ext e2) st⟩)
  rcases h H1 eN with h | ⟨a, dx, v, d, rfl, bk, hf, hp, h⟩
  · exact .inr ⟨h, er⟩
  · exact .inl ⟨a, dx, v, d, rfl, bk, hf, hp, .inr ⟨h, er⟩⟩
end
end FP
set_option maxHeartbeats 4000000
/-! for i, x in enumerate(a text of plain signs) -/
namespace FP
open PySem PySem.Spec PyProof.Rows L2
def IteX (z : Str) : It :=
  ⟨fun i _ => ∃ c : Nat, z.cps[i]? = some c, fun i H v H' => ∃ T x, v = .ref T ∧ H T = none ∧ H' = upd H T (.tup [.int (i : Nat), x]) ∧ ∃ c : Nat, z.cps[i]? = some c ∧ x = .str ⟨#[c]⟩, fun i _ => z.cps.size ≤ i⟩
theorem walk_enumX {z : Str} : Walk (IteX z) z.cps.size (fun _ => True) (YPair (fun i => some (.int (i : Nat))) (fun i => (z.cps[i]?).map fun c => V.str ⟨#[c]⟩)) := by
  refine ⟨fun i _ hi q => ⟨z.cps[i], by simp [hi]⟩, fun _ q => Nat.le_refl _, fun i H v H' _ q y => ?_⟩
  obtain ⟨T, x, h1, h2, h3, c, h4, h5⟩ := y
  exact ⟨T, .int (i : Nat), x, h1, h2, h3, rfl, by show (z.cps[i]?).map _ = some x; rw [h4, h5]; rfl⟩
theorem turn_enumX {P : Program} {w : World} {K : PySem.W.Frag} {elts : List Expr} {kk : Nat} {tpos : Pos} {z : Str} (t : Tok) (e it : Addr) :
    Turn P w K (.Tuple elts kk tpos) (IteX z) [e, it] e (fun i h => (∃ old, IsEnum h e it ((i : Nat) : Int) old) ∧ h.IsStrIter it "str_ascii_iterator" z t i ∧ e ≠ it) where
  mem := by simp
  obj := fun i h st b hb => by
    obtain ⟨⟨old, he⟩, ⟨o, ho, hc, hd⟩, _⟩ := st
    rcases (show b = e ∨ b = it by simpa using hb) with z | z
    · rw [z]; exact ⟨_, he, fun v q => nomatch q⟩
    · rw [z]; exact ⟨o, ho, fun v q => by rw [hd] at q; cases q⟩
  keep := fun i h h' st k => let ⟨⟨old, he⟩, ⟨o, ho, r⟩, ne⟩ := st; ⟨⟨old, k e (by simp) _ he⟩, ⟨o, k it (by simp) o ho, r⟩, ne⟩
  item := by
    intro X hP hw hK hc i pins s σ H E I hf st hg
    subst hP hw hK
    obtain ⟨⟨old, he⟩, hit, n1⟩ := st
    obtain ⟨c, hx⟩ := hg
    have hel : e < s.heap.objs.size := Heap.lt_size he
    have hil : it < s.heap.objs.size := by obtain ⟨_, q, _⟩ := hit; exact Heap.lt_size q
    refine wpAny_pyNext_enum_itemD (Draws.strAscii (show X.A.in1.handled = none from I.ok.hd hc) it z t) he hit (Array.getElem?_eq_some_iff.mp hx).1 n1 (by simp [n1]) fun v h1 tk hv eo st1 hT hs1 k1 => ?_
    obtain ⟨c', u, hv, rfl⟩ := hv
    rw [hx] at hv
    cases hv
    refine ⟨_, rfl, wpAny_letOwnedTupleGo_enum (s := { s with heap := h1, toks := tk + 1 }) eo fun h2 e2 sb => ?_⟩
    have hT2 : h2.get? s.heap.objs.size = some { cls := .type "tuple", data := .seq #[.int i tk, .str ⟨#[c]⟩ u] } := (sb.2 _ (Nat.ne_of_gt hel)).trans hT
    have nw : ObjOk X.prog X.w (upd H s.heap.objs.size (.tup [.int (i : Nat), .str ⟨#[c]⟩])) h2 s.heap.objs.size (.tup [.int (i : Nat), .str ⟨#[c]⟩]) := ⟨by show 2 ≤ sizeLine; decide, [.int i tk, .str ⟨#[c]⟩ u], .cons ⟨_, rfl⟩ (.cons ⟨_, rfl⟩ .nil), ⟨_, hT2, rfl, _, rfl⟩⟩
    have J : Inv X pins σ (upd H s.heap.objs.size (.tup [.int (i : Nat), .str ⟨#[c]⟩])) { s with heap := h2, toks := tk + 1 } :=
      I.turnedNew (ch := [e, it]) (fun b ob hb q => (sb.2 b (fun z => hb (by simp [z]))).trans (k1 b ob (fun z => hb (by simp [z])) (fun z => hb (by simp [z])) q)) hf (Nat.le_refl _) nw
    have i1 : h2.IsStrIter it "str_ascii_iterator" z t (i + 1) := by
      obtain ⟨o, ho, r⟩ := st1
      exact ⟨o, (sb.2 it (Ne.symm n1)).trans ho, r⟩
    refine ⟨.ref s.heap.objs.size, _, J, rfl, ⟨_, _, rfl, I.hok.fresh (Nat.le_refl _), rfl, c, hx, rfl⟩, ⟨⟨.str ⟨#[c]⟩ u, ?_⟩, i1, n1⟩, fun b hb => ?_⟩
    · rw [show ((i + 1 : Nat) : Int) = (i : Int) + 1 by omega]; exact e2
    · have lb : b < s.heap.objs.size := by
        rcases (show b = e ∨ b = it by simpa using hb) with z | z
        · rw [z]; exact hel
        · rw [z]; exact hil
      rw [upd_ne (Nat.ne_of_lt lb)]
      exact (hf b hb).1
  done := by
    intro X hP hw hK hc i pins s σ H E I hf st hg
    subst hP hw hK
    obtain ⟨⟨old, he⟩, hit, n1⟩ := st
    obtain ⟨f0, f1, f2, f3, f4, f5⟩ := hf it (by simp)
    replace hg : z.cps.size ≤ i := hg
    refine wpAny_pyNext_enum_endD (n := i) (fp := [it]) (P := fun _ _ => True) (St := fun j h => j = i ∧ h.IsStrIter it "str_ascii_iterator" z t i) ?_ he ⟨rfl, hit⟩ fun h' eb => ⟨rfl, I.turned (t' := s.toks) (fun b o hb q => eb b o hb q) f0 f1 f3 f4 f5⟩
    exact {
      live := fun j h st => let ⟨_, ⟨o, e, _⟩⟩ := st; ⟨o, e⟩
      frame := fun j h h' st k => let ⟨ej, ⟨o, e, r⟩⟩ := st; ⟨ej, ⟨o, k it (by simp) o e, r⟩⟩
      item := fun j s Q E hj st hQ => absurd hj (by rw [st.1]; exact Nat.lt_irrefl i)
      done := fun s Q E st hE => wpAny_nextOf_ascii_end (show X.A.in1.handled = none from I.ok.hd hc) st.2 (Array.getElem?_eq_none hg) hE }
  self := fun A i s Q E st h => let ⟨⟨_, he⟩, _⟩ := st; wpAny_pyIter_enum he h
def iEnumX (ta : TA) : TI := fun σ H R => ta σ H fun vs H1 => ∃ z, vs = [.str z] ∧ z.cps.all (· < 128) = true ∧ R (IteX z) H1
/-- for i, x in enumerate(e): e a text -/
theorem pi_enumX {X : Cx} {e : Expr} {ta : TA} {p pos tpos : Pos} {elts : List Expr} {kk : Nat} (hg : Gl X "enumerate") (hm : X.mg "enumerate" = none) (ha : PA X [e] ta) (hs : starEach [e] X.env = [(false, eval e X.env)] := by rfl) : PI X (.Tuple elts kk tpos) (.Call (.Name "enumerate" p) [e] [] pos) (iEnumX ta) := by
  refine ⟨fun pins s σ H R I h => Call_ (ld_blt I hg hm boot_enumerate (PyProof.Rows.callWith_type1 (thn (ha.run pos pins s σ H _ I h) fun us s1 ⟨vs, H1, I1, r1, q1⟩ => ?_) hs rfl))⟩
  obtain ⟨z, ex, hz, q⟩ := q1
  subst ex
  cases r1 with
  | cons r rr =>
    cases rr
    obtain ⟨t, rfl⟩ := r
    refine call_enumerate_str fun h' he hit hsz hk => wpAny_pyIter_enum he ?_
    have hst : strIterType z = "str_ascii_iterator" := by unfold strIterType; rw [if_pos hz]
    rw [hst] at hit
    have I2 : Inv X pins σ H1 { s1 with heap := h' } := I1.kept (t' := s1.toks) hk
    refine ⟨s1.heap.objs.size + 1, [s1.heap.objs.size + 1, s1.heap.objs.size], _, _, H1, rfl, I2, turn_enumX t (s1.heap.objs.size + 1) s1.heap.objs.size, ⟨⟨.none, he⟩, hit, Nat.succ_ne_self _⟩, fun b hb => ?_, q⟩
    have le : s1.heap.objs.size ≤ b := by
      rcases (show b = s1.heap.objs.size + 1 ∨ b = s1.heap.objs.size by simpa using hb) with z | z
      · rw [z]; exact Nat.le_add_right _ _
      · rw [z]; exact Nat.le_refl _
    exact I1.fpOk le (I1.hok.fresh le)
end FP
set_option maxHeartbeats 1000000
namespace FP
open PySem PySem.Spec PyProof.Rows L2
local macro_rules | `(tactic| walk_at "rd") => `(tactic| dsimp only [tVar, tC, tCmp, tIsN, tNotN, tB, tAnd, tOr, tNot, tAndV, tOrV, tNotV, tIf, tNext, tSeq, tBreak, tCont, tDrop, tRet, tRetN, tIfS, tNever, tAsg, tPar, tAug, tOp, tUn, tTest, tChain, tFld, tNil, tCons, tTup, tLst, tCB, iList, iTup, iStr, tLc, tM0, tM1, tPart, tNoPart, tSl, tBM, tCallS, tCallSD, tMethW, tMake, sDPut, tDisp, tPairs, tXf, WE, tDGet, tDIn, gName, gLst, tDNewK, gTup, gCons, gNil, gSub, sFld, sFldAug, rI, rI0, rU, rEq, rNe, rAdd, rSub, t2I, tYes, cx_K, cx_w, cx_prog])
local macro_rules | `(tactic| walk_at "rs") => `(tactic| (try simp (maxSteps := 4000000) only [L2.start, List.map_cons, List.map_nil, List.length_cons, List.length_nil, List.cons_append, List.nil_append, Nat.reduceAdd, Nat.reduceSub, Nat.zero_add, List.replicate, List.getElem?_cons_zero, List.getElem?_cons_succ, Option.some.injEq, exists_eq_left', exists_eq_left, V.int.injEq, V.str.injEq, V.bl.injEq, V.ref.injEq, List.set_cons_zero, List.set_cons_succ, exists_and_left, List.cons.injEq, and_true, true_and, wipe, if_true, if_false, Bool.not_true, Bool.not_false, Bool.false_eq_true, decide_true, decide_false]))
local macro_rules | `(tactic| walk_at "r") => `(tactic| (walk_at "rd"; walk_at "rs"))
local macro_rules | `(tactic| walk_at "T") => `(tactic| (rw [if_pos (by first | assumption | rfl | decide | exact decide_eq_true (by assumption) | (simp [tyOf]; done) | (simp; omega) | omega)]; walk_at "rs"))
local macro_rules | `(tactic| walk_at "F") => `(tactic| (rw [if_neg (by first | assumption | decide | (simp [tyOf]; done) | (simp; omega) | (simp; assumption) | omega)]; walk_at "rs"))
open LamX
/-! ### _law_place -/
def pnc : List Nat := [40, 41, 44, 47, 45]
def frS (l : List Nat) (i : Nat) : Bool := !decide (l.getD i 0 = 32) && (decide (l.getD i 0 ∈ pnc) || (decide (i = 0) || decide (l.getD (i - 1) 0 ∈ 32 :: pnc)))
def cntU (l : List Nat) : Nat → Nat
  | 0 => 0
  | i + 1 => cntU l i + if frS l i then 1 else 0
def placeL (l : List Nat) : Nat := if (TL.spl [32] 0 [] l).length = 1 then 2 else if (TL.spl [32] 0 [] l).drop 1 = [[40, 49, 41]] then 4 else cntU l l.length
theorem pre1 (s c : Nat) (r : List Nat) : TL.pre [s] (c :: r) = decide (c = s) := by
  show ([c] == [s]) = _
  by_cases h : c = s
  · subst h; simp
  · rw [decide_eq_false h]; simp [h]
theorem spl1_cons (s c : Nat) (acc r : List Nat) : TL.spl [s] 0 acc (c :: r) = if c = s then acc :: TL.spl [s] 0 [] r else TL.spl [s] 0 (acc ++ [c]) r := by
  by_cases h : c = s
  · rw [if_pos h, TL.spl_hit (by rw [pre1]; exact decide_eq_true h)]; rfl
  · rw [if_neg h, TL.spl_miss (by rw [pre1]; exact decide_eq_false h)]
theorem spl1_mem {s : Nat} : ∀ (l acc : List Nat) {t : List Nat}, t ∈ TL.spl [s] 0 acc l → ∀ c, c ∈ t → c ∈ acc ∨ c ∈ l
  | [], acc, t, h, c, hc => by
    rw [TL.spl_nil] at h
    rw [List.mem_singleton.mp h] at hc
    exact .inl hc
  | x :: r, acc, t, h, c, hc => by
    rw [spl1_cons] at h
    by_cases hx : x = s
    · rw [if_pos hx] at h
      rcases List.mem_cons.mp h with h | h
      · rw [h] at hc; exact .inl hc
      · rcases spl1_mem r [] h c hc with h | h
        · cases h
        · exact .inr (List.mem_cons_of_mem _ h)
    · rw [if_neg hx] at h
      rcases spl1_mem r (acc ++ [x]) h c hc with h | h
      · rcases List.mem_append.mp h with h | h
        · exact .inl h
        · rw [List.mem_singleton.mp h]; exact .inr List.mem_cons_self
      · exact .inr (List.mem_cons_of_mem _ h)
theorem spl1_len {s : Nat} : ∀ (l acc : List Nat), (TL.spl [s] 0 acc l).length ≤ l.length + 1
  | [], acc => by rw [TL.spl_nil]; exact Nat.le_refl _
  | x :: r, acc => by
    rw [spl1_cons]
    by_cases hx : x = s
    · rw [if_pos hx]
      have := spl1_len (s := s) r []
      simp only [List.length_cons]; omega
    · rw [if_neg hx]
      have := spl1_len (s := s) r (acc ++ [x])
      simp only [List.length_cons]; omega
theorem cut_take (xs : List V) (i : Nat) : cutV xs none (some ((i : Nat) : Int)) = xs.take i := by
  unfold cutV
  rw [HT.sIx_none, HT.sIx_nat, List.drop_zero, Nat.sub_zero]
  by_cases h : i ≤ xs.length
  · rw [Nat.min_eq_left h]
  · rw [Nat.min_eq_right (by omega), List.take_of_length_le (Nat.le_refl _), List.take_of_length_le (by omega)]
theorem cut_drop (xs : List V) (i : Nat) : cutV xs (some ((i : Nat) : Int)) none = xs.drop i := by
  unfold cutV
  rw [HT.sIx_none, HT.sIx_nat]
  by_cases h : i ≤ xs.length
  · rw [Nat.min_eq_left h, List.take_of_length_le (by rw [List.length_drop]; omega)]
  · rw [Nat.min_eq_right (by omega), Nat.sub_self, List.take_zero, List.drop_eq_nil_of_le (by omega)]
theorem eqvAll_strs : ∀ a b : List (List Nat), PyData.eqvAll (a.map fun x => PyData.str (SX.S x)) (b.map fun x => PyData.str (SX.S x)) = decide (a = b)
  | [], [] => rfl
  | [], _ :: _ => rfl
  | _ :: _, [] => rfl
  | x :: a, y :: b => by
    show (PyData.eqv (.str (SX.S x)) (.str (SX.S y)) && PyData.eqvAll (a.map _) (b.map _)) = _
    rw [eqvAll_strs a b, show PyData.eqv (.str (SX.S x)) (.str (SX.S y)) = (SX.S x == SX.S y) from rfl, SX.S_beq_eq]
    by_cases h : x = y <;> by_cases h2 : a = b <;> simp [h, h2]
theorem eqv_strs (a b : List (List Nat)) : PyData.eqv (.list (a.map fun x => PyData.str (SX.S x))) (.list (b.map fun x => PyData.str (SX.S x))) = decide (a = b) := eqvAll_strs a b
section
variable {P : Program} {w : World} {K : PySem.W.Frag} {mg : Str → Option Value} {base : Heap} {f : Addr} {fd : FuncData} {C CT CR : Addr}
def sp_law_place (_ : PySem.W.Frag) : Sp := fun vs H Q _ => ∃ l : List Nat, vs = [strV l] ∧ l.length ≤ 100000 ∧ (∀ c, c ∈ l → c < 128) ∧ ∀ H', Same H H' → Q (.int (placeL l : Nat)) H'
def plI (H : Hp) (l : List Nat) (i : Nat) (σ : L2.St) (H' : Hp) : Prop := Same H H' ∧ ∃ b c d e : Option V, σ = [some (strV l), b, some (.int (cntU l i : Nat)), c, d, e]
theorem ok_law_place (Z : Zb mg) (D : C8.Def K mg "_law_place" s_law_place f fd) (b : Binds K fd ["line"] []) : CalX P w K mg base 2 "_law_place" (sp_law_place K) := by
  have nd := sc_law_place.nd
  refine calX D b sc_law_place (fun vs H Q E h => by obtain ⟨l, rfl, _⟩ := h; rfl) fun cdv A outer s H vs Q E hr h => ?_
  obtain ⟨l, rfl, hl, asc, q⟩ := h
  refine ⟨_, (pss_cons (ps_set (i := 1) nd rfl (Or.inl rfl) (pe_split (pv 0) pe_str))
    (pss_cons (ps_if (pt_cmpR op_eq (pe_callB call_len rfl Z.len PySem.boot_len (pa_cons (pv 1) pa_nil)) pe_int (nomark _)) (pss_one (ps_ret pe_int)) pss_nil)
    (pss_cons (ps_if (pt_cmpR (op_eqD (u64 hr)) (pe_slice sl_list (pv 1) (po_some pe_int) po_none) (pe_lst (pa_cons pe_str pa_nil)) (nomark _)) (pss_one (ps_ret pe_int)) pss_nil)
    (pss_cons (ps_set (i := 2) nd rfl (Or.inl rfl) pe_int)
    (pss_cons (ps_for (L2.passes_of rfl) rfl (pi_enumX rfl Z.enumerate (pa_cons (pv 0) pa_nil)) (pg_tup rfl (pgs_cons (pg_name (i := 3) nd rfl (Or.inl rfl)) (pgs_cons (pg_name (i := 4) nd rfl (Or.inl rfl)) pgs_nil))) (pss_cons (ps_set (i := 5) nd rfl (Or.inl rfl) (pe_and (pe_cmpR op_notInS (pv 4) pe_str (by with_unfolding_all rfl)) (pe_one (pe_or (pe_cmpR op_inS (pv 4) pe_str (by with_unfolding_all rfl)) (pe_or (pe_cmpR op_eq (pv 3) pe_int (nomark _)) (pe_one (pe_cmpR op_inS (pe_ix ix_str (pv 0) (pe_op op_sub (pv 3) pe_int) (fun _ _ => rfl)) pe_str (by with_unfolding_all rfl))))))))
    (pss_one (ps_set (i := 2) nd rfl (Or.inl rfl) (pe_op op_add (pv 2) (pe_callTy call_int1 rfl Z.int PyProof.Rows.boot_int (pa_cons (pv 5) pa_nil)))))))
    (pss_one (ps_ret (pv 2)))))))), ?_⟩
  walk_at "r"
  refine ⟨⟨_, rfl⟩, by decide +kernel, sz (by rw [S_len]; omega), ?_⟩
  rw [show Str.ofString " " = SX.S [32] from rfl, SX.split_S (by simp) (by decide)]
  intro p1 n1
  have e1 := same_new n1 (.lst ((TL.spl [32] 0 [] l).map strV))
  rw [List.map_map]
  generalize hw : TL.spl [32] 0 [] l = ws at *
  have hl1 : (upd H p1 (.lst (ws.map strV))) p1 = some (.lst (ws.map strV)) := upd_same
  refine lenL (.inl (.inl hl1)) ⟨rfl, ?_⟩
  rw [List.length_map]
  unfold placeL at q
  rw [hw] at q
  by_cases h1 : ws.length = 1
  · rw [if_pos h1] at q
    rw [if_pos (decide_eq_true (by omega))]
    exact q _ e1
  rw [if_neg h1] at q
  rw [if_neg (fun z => h1 (by have := of_decide_eq_true z; omega))]
  refine ⟨p1, _, rfl, .inl (.inl hl1), fun p2 n2 => ⟨sz (by decide), fun p3 n3 => ?_⟩⟩
  have hcd : cutV (ws.map strV) (some 1) none = (ws.drop 1).map strV := by rw [List.map_drop]; exact cut_drop _ 1
  rw [hcd] at n3 ⊢
  have e2 := same_new n2 (.lst ((ws.drop 1).map strV))
  have e3 := same_new n3 (.lst [.str (Str.ofString "(1)")])
  have cp : ∀ t, t ∈ ws → Cps t := fun t ht c hc => Nat.lt_trans (asc c (by rcases spl1_mem l [] (hw ▸ ht) c hc with h | h; cases h; exact h)) (by decide)
  refine ⟨_, _, .lst (.inl (.inl (e3 _ _ upd_same))) (dp_strs _), .lst (.inl (.inl upd_same)) (dp_strs [[40, 49, 41]]), shaped_strs fun t ht => cp t (List.mem_of_mem_drop ht), shaped_strs (l := [[40, 49, 41]]) (fun t ht c hc => by rw [List.mem_singleton.mp ht] at hc; simp at hc; omega), ?_⟩
  rw [eqv_strs]
  refine ⟨_, rfl, ?_⟩
  have e13 := (e1.trans e2).trans e3
  by_cases h2 : ws.drop 1 = [[40, 49, 41]]
  · rw [if_pos h2] at q
    rw [if_pos (decide_eq_true h2)]
    exact q _ e13
  rw [if_neg h2] at q
  rw [if_neg (fun z => h2 (of_decide_eq_true z))]
  refine ⟨_, rfl, _, rfl, ?_, ?_⟩
  · show l.toArray.all (· < 128) = true
    rw [List.all_toArray]
    exact List.all_eq_true.mpr fun c hc => decide_eq_true (asc c hc)
  have elt : ∀ i : Nat, (SX.S l).cps[i]? = l[i]? := fun i => by show l.toArray[i]? = _; simp
  refine for_it walk_enumX (plI H l) ⟨e13, _, _, _, _, rfl⟩ (fun _ _ _ _ _ => trivial) ?_ ?_
  · rintro i x σ Ha H2 hi ⟨ea, a1, a3, a4, a5, rfl⟩ ⟨T, vi, vx, rfl, nT, rfl, hvi, hvx⟩
    cases hvi
    replace hvx : ((SX.S l).cps[i]?).map (fun c => V.str ⟨#[c]⟩) = some vx := hvx
    rw [elt] at hvx
    have hil : i < l.length := by
      have : (SX.S l).cps.size = l.length := by show l.toArray.size = _; simp
      omega
    rw [List.getElem?_eq_getElem hil] at hvx
    cases hvx
    have eb := same_new nT (.tup [.int ((i : Nat) : Int), .str ⟨#[l[i]]⟩])
    walk_at "r"
    have hgd : l.getD i 0 = l[i] := by rw [List.getD_eq_getElem?_getD, List.getElem?_eq_getElem hil]; rfl
    have st : ∀ (w : V) (z : Int) (b : Bool), frS l i = b → z = (cntU l i : Nat) + (if b = true then 1 else 0) → plI H l (i + 1) [some (strV l), a1, some (.int z), some (.int (i : Nat)), some (.str ⟨#[l[i]]⟩), some w] (upd Ha T (.tup [.int ((i : Nat) : Int), .str ⟨#[l[i]]⟩])) := fun w z b hb hz => by
      have : z = ((cntU l (i + 1) : Nat) : Int) := by
        rw [hz, show cntU l (i + 1) = cntU l i + if frS l i then 1 else 0 from rfl, hb]
        cases b <;> simp
      rw [this]
      exact ⟨ea.trans eb, a1, _, _, _, rfl⟩
    unfold frS at st
    rw [hgd] at st
    refine ⟨_, .inl (.inl upd_same), rfl, _, _, rfl, _, _, rfl, rfl, _, _, rfl, rfl, _, rfl, ?_⟩
    show if (!decide (l[i] ∈ [32])) = true then _ else _
    by_cases k1 : l[i] = 32
    · rw [if_neg (by rw [k1]; decide)]
      exact .inr (st _ _ false (by rw [k1]; rfl) (by simp))
    rw [if_pos (by simp [k1])]
    rw [decide_eq_false k1] at st
    refine ⟨_, _, rfl, rfl, _, rfl, ?_⟩
    show if decide (l[i] ∈ pnc) = true then _ else _
    by_cases k2 : l[i] ∈ pnc
    · rw [if_pos (decide_eq_true k2)]
      exact .inr (st _ _ true (by rw [decide_eq_true k2]; rfl) (by simp))
    rw [if_neg (fun z => k2 (of_decide_eq_true z))]
    rw [decide_eq_false k2] at st
    refine ⟨rfl, ?_⟩
    by_cases k3 : i = 0
    · rw [if_pos (by subst k3; rfl)]
      exact .inr (st _ _ true (by rw [decide_eq_true k3]; rfl) (by simp))
    rw [if_neg (fun z => k3 (by have := of_decide_eq_true z; injection this with this; omega))]
    rw [decide_eq_false k3] at st
    refine ⟨_, rfl, ixS (c := l.getD (i - 1) 0) (by omega) ?_ ⟨_, _, rfl, rfl, .inr ⟨_, rfl, ?_⟩⟩⟩
    · rw [show ((i : Nat) : Int) - 1 = ((i - 1 : Nat) : Int) by omega]
      exact atI_nat (by rw [List.getD_eq_getElem?_getD, List.getElem?_eq_getElem (show i - 1 < l.length by omega)]; rfl)
    · exact st _ _ (decide (l.getD (i - 1) 0 ∈ 32 :: pnc)) rfl rfl
  · rintro σ Ha ⟨ea, a1, a3, a4, a5, rfl⟩
    have : (SX.S l).cps.size = l.length := by show l.toArray.size = _; simp
    rw [this]
    exact ⟨_, rfl, q _ ea⟩
end
end FP
set_option maxHeartbeats 4000000
/-! tuple * int, the int from 0 on -/
namespace FP
open PySem PySem.Spec PyProof.Rows L2
theorem tuple_mul1 (l : Addr) (items : Array Value) (n : Nat) (dd : Option Addr) (sl : Array (Option Value)) (u : Tok) :
    Meets (Builtin.«tuple.__mul__» ⟨[.ref l, .int 1 u], []⟩) (fun _ R s => s.heap.get? l = some { cls := .type "tuple", dict := dd, data := .seq items n, slots := sl } ∧ R (.ok (.ret (Value.ref l))) s) :=
  .of_wp fun prog w A R s h => by
    obtain ⟨hp, g, d, tk, os⟩ := s
    obtain ⟨hl, h⟩ := h
    have f1 := AutoSeq1.idx_int
    have c0 : (decide ((1 : Int) < -(2 ^ 63)) || decide ((1 : Int) ≥ 2 ^ 63)) = false := by decide
    have c1 : (items.isEmpty || ((1 : Int) == 1)) = true := by simp
    wp_walk using wpAny_loadPart' hl
    repeat (first
      | (refine wpAny_ite_false (decide_eq_false (by rw [c0]; exact Bool.false_ne_true)) ?_; wp_walk using wpAny_loadPart' hl)
      | (refine wpAny_ite_true (decide_eq_true c1) ?_; wp_walk using wpAny_loadPart' hl))
    all_goals first | exact ⟨_, rfl, h⟩ | exact h | skip
theorem tuple_mul0 (l : Addr) (items : Array Value) (n : Nat) (dd : Option Addr) (sl : Array (Option Value)) (u : Tok) (hi : items.isEmpty = false) :
    Meets (Builtin.«tuple.__mul__» ⟨[.ref l, .int 0 u], []⟩) (fun _ R s => s.heap.get? l = some { cls := .type "tuple", dict := dd, data := .seq items n, slots := sl } ∧
      R (.ok (.ret (Value.ref s.heap.objs.size))) { s with heap := s.heap.push { cls := Value.type "tuple", data := Data.seq #[] }, toks := s.toks }) :=
  .of_wp fun prog w A R s h => by
    obtain ⟨hp, g, d, tk, os⟩ := s
    obtain ⟨hl, h⟩ := h
    have f1 := AutoSeq1.idx_int
    have c0 : (decide ((0 : Int) < -(2 ^ 63)) || decide ((0 : Int) ≥ 2 ^ 63)) = false := by decide
    have c1 : (items.isEmpty || ((0 : Int) == 1)) = false := by rw [hi]; rfl
    have c2 : (decide ((0 : Int) ≤ 0) || items.isEmpty) = true := by simp
    wp_walk using wpAny_loadPart' hl
    repeat (first
      | (refine wpAny_ite_false (decide_eq_false (by rw [c0]; exact Bool.false_ne_true)) ?_; wp_walk using wpAny_loadPart' hl)
      | (refine wpAny_ite_false (decide_eq_false (by rw [c1]; exact Bool.false_ne_true)) ?_; wp_walk using wpAny_loadPart' hl)
      | (refine wpAny_ite_true (decide_eq_true c2) ?_; wp_walk using wpAny_loadPart' hl))
    all_goals first | exact ⟨_, rfl, h⟩ | exact h | skip
def rRepA (K : PySem.W.Frag) : R2 := fun x y H Q => ∃ l k xs, x = .ref l ∧ y = .int k ∧ SqT K H l xs ∧ xs ≠ [] ∧ 0 ≤ k ∧ k ≤ 1000 ∧ xs.length ≤ 1000 ∧ (k = 1 → Q (.ref l) H) ∧ (k ≠ 1 → ∀ p, H p = none → Q (.ref p) (upd H p (.tup (List.replicate k.toNat xs).flatten)))
section
variable {X : Cx}
theorem op_repA : OpR X (binaryOp .Mult) (rRepA X.K) := by
  intro pins s σ H x y v u Q I rx ry h
  obtain ⟨l, k, xs, rfl, rfl, hT, hne, h1, h2, hz, q1, q2⟩ := h
  by_cases hk : 2 ≤ k
  · exact op_repT pins s σ H _ _ v u Q I rx ry ⟨l, k, xs, rfl, rfl, hT, hne, hk, h2, hz, q2 (by omega)⟩
  cases rx
  obtain ⟨t, rfl⟩ := ry
  obtain ⟨its, r, ⟨⟨cls, dd, data, sl⟩, ho, hc, n, hd⟩, hs⟩ := I.tuple hT
  simp only at hc hd
  subst hc hd
  have hn : its ≠ [] := fun e => hne (by
    have hle := r.length
    rw [e] at hle
    exact List.eq_nil_of_length_eq_zero hle)
  have hi : its.toArray.isEmpty = false := by
    cases its with
    | nil => exact absurd rfl hn
    | cons a b => rfl
  rcases show k = 0 ∨ k = 1 by omega with rfl | rfl
  · refine wpAny_binaryOp_repeat_ref (T := "tuple") (U := "int") (by decide) ⟨_, ho, rfl⟩ (fun s' => typeIs_int s' 0 t) noFill_tuple_mul F.fills_int_mul F.slot_int_rmul repeat_tuple F.slot_int_index.lookup
      (call_meets F.slot_int_rmul (typeIs_int s 0 t) F.entry_int_rmul (F.args_int_rmul_2 _ _) (int_rmul_tuple 0 t l its.toArray n dd sl)
        ⟨ho, rfl, ⟨_, ho, rfl⟩, call_meets F.slot_tuple_mul ⟨_, ho, rfl⟩ F.entry_tuple_mul (F.args_tuple_mul_2 _ _) (tuple_mul0 l its.toArray n dd sl t hi) ⟨ho, ?_⟩⟩)
    refine ⟨.ref s.heap.objs.size, _, I.laid (t' := s.toks) (o := .tup []) (fun b ob q => Heap.get?_push_of_some _ q) (Nat.le_refl _) ?_, rfl, q2 (by decide) _ (I.hok.fresh (Nat.le_refl _))⟩
    exact ⟨Nat.zero_le _, _, .nil, IsTup.new _ _⟩
  · refine wpAny_binaryOp_repeat_ref (T := "tuple") (U := "int") (by decide) ⟨_, ho, rfl⟩ (fun s' => typeIs_int s' 1 t) noFill_tuple_mul F.fills_int_mul F.slot_int_rmul repeat_tuple F.slot_int_index.lookup
      (call_meets F.slot_int_rmul (typeIs_int s 1 t) F.entry_int_rmul (F.args_int_rmul_2 _ _) (int_rmul_tuple 1 t l its.toArray n dd sl)
        ⟨ho, rfl, ⟨_, ho, rfl⟩, call_meets F.slot_tuple_mul ⟨_, ho, rfl⟩ F.entry_tuple_mul (F.args_tuple_mul_2 _ _) (tuple_mul1 l its.toArray n dd sl t) ⟨ho, ?_⟩⟩)
    exact ⟨.ref l, H, I, rfl, q1 rfl⟩
end
end FP
set_option maxHeartbeats 1000000
namespace FP
open PySem PySem.Spec PyProof.Rows L2
local macro_rules | `(tactic| walk_at "rd") => `(tactic| dsimp only [tVar, tC, tCmp, tIsN, tNotN, tB, tAnd, tOr, tNot, tAndV, tOrV, tNotV, tIf, tNext, tSeq, tBreak, tCont, tDrop, tRet, tRetN, tIfS, tNever, tAsg, tPar, tAug, tOp, tUn, tTest, tChain, tFld, tNil, tCons, tTup, tLst, tCB, iList, iTup, iStr, tLc, tM0, tM1, tPart, tNoPart, tSl, tBM, tCallS, tCallSD, tMethW, tMake, sDPut, tDisp, tPairs, tXf, WE, tDGet, tDIn, gName, gLst, tDNewK, gTup, gCons, gNil, gSub, sFld, sFldAug, rI, rI0, rU, rEq, rNe, rAdd, rSub, t2I, tYes, cx_K, cx_w, cx_prog])
local macro_rules | `(tactic| walk_at "rs") => `(tactic| (try simp (maxSteps := 4000000) only [L2.start, List.map_cons, List.map_nil, List.length_cons, List.length_nil, List.cons_append, List.nil_append, Nat.reduceAdd, Nat.reduceSub, Nat.zero_add, List.replicate, List.getElem?_cons_zero, List.getElem?_cons_succ, Option.some.injEq, exists_eq_left', exists_eq_left, V.int.injEq, V.str.injEq, V.bl.injEq, V.ref.injEq, List.set_cons_zero, List.set_cons_succ, exists_and_left, List.cons.injEq, and_true, true_and, wipe, if_true, if_false, Bool.not_true, Bool.not_false, Bool.false_eq_true, decide_true, decide_false]))
local macro_rules | `(tactic| walk_at "r") => `(tactic| (walk_at "rd"; walk_at "rs"))
local macro_rules | `(tactic| walk_at "T") => `(tactic| (rw [if_pos (by first | assumption | rfl | decide | exact decide_eq_true (by assumption) | (simp [tyOf]; done) | (simp; omega) | omega)]; walk_at "rs"))
local macro_rules | `(tactic| walk_at "F") => `(tactic| (rw [if_neg (by first | assumption | decide | (simp [tyOf]; done) | (simp; omega) | (simp; assumption) | omega)]; walk_at "rs"))
open LamX
/-! ### _law_numbers_right -/
def Dg (d : PyData) : Prop := Nol d ∧ fine 4 d ∧ plB 4 d = true
theorem Dt.dg {d : PyData} (h : Dt 3 d) (n : Nol d) : Dg d := ⟨n, h.fine, h.up.pl⟩
theorem one40 : (1 : Int) ≤ 10 ^ 40 := by omega
theorem pl_int {o : Int} (h : o.natAbs < 10 ^ 40) : plB 3 (.int o) = true := by
  rw [plB_ratio (t := o) (b := 1) rfl]
  exact Dt.small h one40
theorem pl_rat {os : List Int} {t b : Int} (h : ∀ o, o ∈ os → o.natAbs < 10 ^ 40 ∧ o ≤ 10 ^ 40) (hr : ratioOf (.tuple (os.map .int)) = some (t, b)) : plB 4 (.tuple (os.map .int)) = true := by
  rw [plB_ratio hr]
  rcases ratio_some hr with ⟨z, _⟩ | ⟨z, _⟩
  · cases z
  · have z : os.map PyData.int = [.int t, .int b] := by injection z
    have ht : PyData.int t ∈ os.map PyData.int := by rw [z]; simp
    have hb : PyData.int b ∈ os.map PyData.int := by rw [z]; simp
    obtain ⟨o1, m1, e1⟩ := List.mem_map.mp ht
    obtain ⟨o2, m2, e2⟩ := List.mem_map.mp hb
    injection e1 with e1; injection e2 with e2
    rw [← e1, ← e2]
    exact Dt.small (h _ m1).1 (h _ m2).2
theorem pl_ints {os : List Int} (h : ∀ o, o ∈ os → o.natAbs < 10 ^ 40 ∧ o ≤ 10 ^ 40) : plB 4 (.tuple (os.map .int)) = true := by
  cases hr : ratioOf (.tuple (os.map .int)) with
  | some tb => exact pl_rat h (t := tb.1) (b := tb.2) hr
  | none =>
    rw [plB_seq hr (.inr rfl)]
    refine List.all_eq_true.mpr fun x hx => ?_
    obtain ⟨o, ho, e⟩ := List.mem_map.mp hx
    rw [← e]
    exact pl_int (h o ho).1
theorem dg_ints {os : List Int} (h : ∀ o, o ∈ os → o.natAbs < 10 ^ 40 ∧ o ≤ 10 ^ 40) (hl : os.length ≤ 100) : Dg (.tuple (os.map .int)) := by
  refine ⟨.tup fun d hd => ?_, .inr ⟨_, .inr rfl, by rw [List.length_map]; exact hl, fun d hd => ?_⟩, pl_ints h⟩
  · obtain ⟨o, _, rfl⟩ := List.mem_map.mp hd
    exact .int o
  · obtain ⟨o, _, rfl⟩ := List.mem_map.mp hd
    exact .inl leaf_int
theorem dg_00 : Dg (.tuple [.int 0, .int 0]) := dg_ints (os := [0, 0]) (fun o ho => by simp at ho; subst ho; exact ⟨by omega, by omega⟩) (by decide)
theorem dg_st (r : Nat) (h : r < 4) : Dg (.tuple (List.replicate r (.tuple [.int 0, .int 0]))) := by
  refine ⟨.tup fun d hd => ?_, .inr ⟨_, .inr rfl, by rw [List.length_replicate]; omega, fun d hd => ?_⟩, ?_⟩
  · rw [(List.mem_replicate.mp hd).2]; exact dg_00.1
  · rw [(List.mem_replicate.mp hd).2]
    refine .inr ⟨_, .inr rfl, by decide, fun e he => ?_⟩
    simp only [List.mem_cons, List.not_mem_nil, or_false, or_self] at he
    subst he
    exact .inl leaf_int
  · match r, h with
    | 0, _ | 1, _ | 2, _ | 3, _ => decide +kernel
    | _ + 4, h => omega
/-- fifteen values as functions -/
theorem vals15 {K : PySem.W.Frag} {H : Hp} {ys : List V} {ds : List PyData} {Pd : PyData → Prop} (al : DpAll K H ys ds) (hl : ys.length = 15) (hp : ∀ d, d ∈ ds → Pd d) : ∃ (v : Nat → V) (d : Nat → PyData), ys = args15 v ∧ ds = dl d ∧ ∀ i, i < 15 → Dp K H (v i) (d i) ∧ Pd (d i) := by
  have hx := DpAll.length al
  refine ⟨fun i => ys.getD i .non, fun i => ds.getD i .none, (args15_of hl).symm, ?_, fun i hi => ?_⟩
  · refine List.ext_getElem? fun i => ?_
    by_cases hi : i < 15
    · rw [dl_get _ hi, List.getElem?_eq_getElem (by omega), List.getD_eq_getElem?_getD, List.getElem?_eq_getElem (by omega)]; rfl
    · rw [List.getElem?_eq_none (by omega), List.getElem?_eq_none (by rw [dl_len]; omega)]
  · have h1 : ys[i]? = some (ys.getD i .non) := by rw [List.getD_eq_getElem?_getD, List.getElem?_eq_getElem (by omega)]; rfl
    obtain ⟨d, hd, dp⟩ := DpAll.getV al h1
    have h2 : ds.getD i .none = d := by rw [List.getD_eq_getElem?_getD, hd]; rfl
    show Dp K H (ys.getD i .non) (ds.getD i .none) ∧ Pd (ds.getD i .none)
    rw [h2]
    exact ⟨dp, hp d (List.mem_of_getElem? hd)⟩
theorem dl_all {n : Nat} {d : Nat → PyData} (h : ∀ i, i < 15 → plB n (d i) = true) : (dl d).all (plB n) = true := by
  refine List.all_eq_true.mpr fun x hx => ?_
  obtain ⟨i, hi, e⟩ := List.mem_iff_getElem.mp hx
  have hi : i < 15 := hi
  have := dl_get d hi
  rw [List.getElem?_eq_getElem (by rw [dl_len]; exact hi)] at this
  rw [← e, Option.some.inj this]
  exact h i hi
def sub8 {α : Type} (f : Nat → α) (k : Nat) (a : α) : Nat → α := fun i => if i = k then a else f i
theorem set8 (v : Nat → V) (a : V) : (args15 v).set 8 a = args15 (sub8 v 8 a) := rfl
theorem set2 (v : Nat → V) (a : V) : (args15 v).set 2 a = args15 (sub8 v 2 a) := rfl
theorem set0 (v : Nat → V) (a : V) : (args15 v).set 0 a = args15 (sub8 v 0 a) := rfl
theorem sub8_all {K : PySem.W.Frag} {H : Hp} {v : Nat → V} {d : Nat → PyData} {Pd : PyData → Prop} (h : ∀ i, i < 15 → Dp K H (v i) (d i) ∧ Pd (d i)) {k : Nat} {a : V} {e : PyData} (ha : Dp K H a e) (he : Pd e) : ∀ i, i < 15 → Dp K H (sub8 v k a i) (sub8 d k e i) ∧ Pd (sub8 d k e i) := fun i hi => by
  unfold sub8
  by_cases hk : i = k
  · rw [if_pos hk, if_pos hk]; exact ⟨ha, he⟩
  · rw [if_neg hk, if_neg hk]; exact h i hi
theorem rep_one {K : PySem.W.Frag} {H : Hp} {l : Addr} {x : V} {k : Int} {Q : VK} (hl : SqT K H l [x]) (k0 : 0 ≤ k) (k1 : k ≤ 1000) (q : ∀ st H', Same H H' → SqT K H' st (List.replicate k.toNat x) → Q (.ref st) H') : rRepA K (.ref l) (.int k) H Q := by
  have fl : (List.replicate k.toNat [x]).flatten = List.replicate k.toNat x := by
    induction k.toNat with
    | zero => rfl
    | succ n ih => rw [List.replicate_succ, List.flatten_cons, ih]; rfl
  refine ⟨l, k, [x], rfl, rfl, hl, by simp, k0, k1, by simp, fun h => q l H (Same.refl H) (by rw [h]; exact hl), fun h p np => ?_⟩
  rw [fl]
  exact q p _ (same_new np _) (.inl (.inl upd_same))
theorem dp_rep {K : PySem.W.Frag} {H : Hp} {x : V} {d : PyData} (h : Dp K H x d) : ∀ n, DpAll K H (List.replicate n x) (List.replicate n d)
  | 0 => .nil
  | n + 1 => .cons h (dp_rep h n)
theorem dp_ints {K : PySem.W.Frag} {H : Hp} : ∀ os : List Int, DpAll K H (os.map V.int) (os.map PyData.int)
  | [] => .nil
  | o :: os => .cons (.int o) (dp_ints os)
theorem Bk.congr {K : PySem.W.Frag} {C : Addr} {H : Hp} {a dx : Addr} {w : Nat → V} {d e : Nat → PyData} (bk : Bk K C H a dx w d) (h : ∀ i, i < 15 → d i = e i) : Bk K C H a dx w e := ⟨bk.cls, bk.ins, fun i hi => by rw [← h i hi]; exact bk.dat i hi⟩
/-- a book made of plain values -/
theorem made_of {K : PySem.W.Frag} {C D : Addr} {W : Nat → V} {E : Nat → PyData} {H : Hp} {Q : VK} {Ex : XK} (hD : H D = some (.lst (args15 W))) (hv : ∀ i, i < 15 → Dp K H (W i) (E i) ∧ Dg (E i)) (q : ∀ a dx w H', Same H H' → H a = none → Bk K C H' a dx w E → Q (.ref a) H') : sp_book_by K C 4 [.ref D] H Q Ex :=
  ⟨D, W, E, rfl, .inl (.inl hD), fun i hi => ⟨(hv i hi).1, (hv i hi).2.2.1⟩, fun a dx w H' e na bk => q a dx w H' e na (bk.congr fun i hi => asTup_of (hv i hi).2.1)⟩
theorem fl_2 (i j : Int) : Fl 4 (.tuple [.int i, .int j]) := .tup (fun d hd => by
  simp only [List.mem_cons, List.not_mem_nil, or_false] at hd
  rcases hd with rfl | rfl
  · exact .int _
  · exact .int _) (by show 2 ≤ 1000; decide)
theorem shaped_2s {x y : Str} (h1 : (PyData.str x).canLay0 = true) (h2 : (PyData.str y).canLay0 = true) : SeqAt.shaped (.tuple [.str x, .str y]) = true := shapedT (k := 0) (fun d hd => by
  simp only [List.mem_cons, List.not_mem_nil, or_false] at hd
  rcases hd with rfl | rfl
  · exact ⟨h1, Nat.le_refl 0⟩
  · exact ⟨h2, Nat.le_refl 0⟩) (by decide)
theorem eqv_2s (x y : Str) : PyData.eqv (.tuple [.str x, .str y]) (.tuple [.str x, .str y]) = true := by
  simp [PyData.eqv, PyData.eqvAll]
theorem dp_2s {K : PySem.W.Frag} {H : Hp} {t : Addr} {x y : Str} (h : SqT K H t [.str x, .str y]) : Dp K H (.ref t) (.tuple [.str x, .str y]) := .tup h (.cons (.str x) (.cons (.str y) .nil))
theorem nol_1 {d : PyData} (h : Nol d) : Nol (.tuple [d]) := .tup fun e he => by rw [List.mem_singleton.mp he]; exact h
theorem fine_1 {n : Nat} {d : PyData} (h : fine n d) : fine (n + 1) (.tuple [d]) := .inr ⟨_, .inr rfl, by simp, fun e he => by rw [List.mem_singleton.mp he]; exact h⟩
theorem dg_13 : Dg (.tuple [.tuple [.int 1, .int 3]]) := by
  refine ⟨nol_1 (.tup fun d hd => ?_), fine_1 (.inr ⟨_, .inr rfl, by decide, fun d hd => ?_⟩), by decide +kernel⟩
  · simp only [List.mem_cons, List.not_mem_nil, or_false] at hd
    rcases hd with rfl | rfl <;> exact .int _
  · simp only [List.mem_cons, List.not_mem_nil, or_false] at hd
    rcases hd with rfl | rfl <;> exact .inl leaf_int
theorem dg_e : Dg (.tuple [.tuple []]) := ⟨nol_1 (.tup fun d hd => nomatch hd), fine_1 (.inr ⟨_, .inr rfl, by decide, fun d hd => nomatch hd⟩), by decide +kernel⟩
section
variable {P : Program} {w : World} {K : PySem.W.Frag} {mg : Str → Option Value} {base : Heap} {f c : Addr} {fd : FuncData} {C CT CR : Addr} {T : List (Addr × Str)}
def sp_law_nr (K : PySem.W.Frag) (T : List (Addr × Str)) : Sp := fun vs H Q _ => ∃ p tc, vs = [.ref p] ∧ Pen K H p tc ∧ Tabs T H ∧ ∀ H', ButN p H H' → Pen K H' p tc → Tabs T H' → Q (.bl true) H'
theorem ok_law_numbers_right (Z : Zb mg) (D : C8.Def K mg "_law_numbers_right" s_law_numbers_right f fd) (hc : fd.code = .ref c) (b : Binds K fd ["pen"] [])
    (c_law_drawn_value : CalX P w K mg base 5 "_law_drawn_value" (sp_law_drawn K 1)) (c_law_draw : CalX P w K mg base 1 "_law_draw" (sp_law_draw K)) (c_law_is : CalX P w K mg base 5 "_law_is" (sp_law_is K 4)) (c_law_made : CalX P w K mg base 8 "_law_made" (sp_book_by K C 4))
    (c_class_number : CalX P w K mg base 10 "class_number" (sp_class_number K C CR 4)) (c_places_of : CalX P w K mg base 10 "places_of" (sp_places_of K C CR 4)) (c_law_pick : CalX P w K mg base 2 "_law_pick" (sp_law_pick K)) (c_law_count_fault : CalG P w K mg base 13 "_law_count_fault" (sp_law_count_fault K C T 4)) : CalG P w K mg base 14 "_law_numbers_right" (sp_law_nr K T) := by
  refine calG D hc b sc_law_numbers_right (fun vs H Q E h => by obtain ⟨p, tc, rfl, _⟩ := h; rfl) fun A outer s H vs Q E hg hr h => ?_
  obtain ⟨p, tc, rfl, pn, hT, q⟩ := h
  have nd := sc_law_numbers_right.nd
  refine ⟨_, (pss_cons (ps_setLc (i := 1) (own := [("lap", 2)]) rfl nd rfl rfl (by rfl) (pi_range1 rfl Z.range (pa_cons pe_int pa_nil)) (blkOk_by (N := ["pen", "values", "lap", "orders", "real", "degree", "count", "one"]) (sc := C8.fnScope s_law_numbers_right) (by decide +kernel)) (fun _ _ _ _ _ => (pg_name (i := 2) nd rfl (Or.inl rfl))) (fun _ _ _ _ _ => pts_nil) (fun _ _ _ _ _ => (pe_x c_law_drawn_value hr (by(omega)) tk0 rfl (pa_cons (pv 0) (pa_cons pe_int pa_nil)))))
    (pss_cons (ps_par (i := 3) (j := 4) rfl nd rfl rfl (by decide) rfl rfl (pa_cons (pe_callTy call_tuple_of rfl Z.tuple PyProof.Rows.boot_tuple (pa_cons (pe_lc (own := [("lap", 2)]) rfl nd (pi_range1 rfl Z.range (pa_cons (pe_x c_law_draw hr (by(omega)) tk0 rfl (pa_cons (pv 0) (pa_cons pe_int pa_nil))) pa_nil)) (blkOk_by (N := ["pen", "values", "lap", "orders", "real", "degree", "count", "one"]) (sc := C8.fnScope s_law_numbers_right) (by decide +kernel)) (fun _ _ _ _ _ => (pg_name (i := 2) nd rfl (Or.inl rfl))) (fun _ _ _ _ _ => pts_nil) (fun _ _ _ _ _ => (pe_op op_add pe_int (pe_x c_law_draw hr (by(omega)) tk0 rfl (pa_cons (pv 0) (pa_cons pe_int pa_nil)))))) pa_nil)) (pa_cons (pe_x c_law_draw hr (by(omega)) tk0 rfl (pa_cons (pv 0) (pa_cons pe_int pa_nil))) pa_nil)) (by rfl))
    (pss_cons (ps_set (i := 5) nd rfl (Or.inl rfl) (pe_op op_add (pv 4) (pe_op op_mul pe_int (pe_x c_law_draw hr (by(omega)) tk0 rfl (pa_cons (pv 0) (pa_cons pe_int pa_nil))))))
    (pss_cons (ps_asg (pe_tup (pa_cons (pv 3) (pa_cons (pe_op op_repA (pe_tup (pa_cons (pe_tup (pa_cons pe_int (pa_cons pe_int pa_nil))) pa_nil)) (pv 4)) (pa_cons (pe_op op_repA (pe_tup (pa_cons pe_int pa_nil)) (pe_op op_add (pv 5) pe_int)) pa_nil)))) (pg_tup rfl (pgs_cons (pg_sub (pv 1) pe_int set_list) (pgs_cons (pg_sub (pv 1) pe_int set_list) (pgs_cons (pg_sub (pv 1) pe_int set_list) pgs_nil)))))
    (pss_cons (ps_set (i := 6) nd rfl (Or.inl rfl) pe_int)
    (pss_cons (ps_for (L2.passes_of rfl) rfl (pi_seq (pv 3)) (pg_name (i := 7) nd rfl (Or.inl rfl)) (pss_one (ps_set (i := 6) nd rfl (Or.inl rfl) (pe_op op_mul (pv 6) (pv 7)))))
    (pss_cons (ps_if (PW.pt (pw_or (pt_not (pt_val (pe_x c_law_is hr (by(omega)) tk0 rfl (pa_cons (pe_x c_class_number hr (by(omega)) tk0 rfl (pa_cons (pe_x c_law_made hr (by(omega)) tk0 rfl (pa_cons (pv 1) pa_nil)) pa_nil)) (pa_cons (pv 6) pa_nil))))) (pw_or1 (pt_not (pt_val (pe_x c_law_is hr (by(omega)) tk0 rfl (pa_cons (pe_x c_places_of hr (by(omega)) tk0 rfl (pa_cons (pe_x c_law_made hr (by(omega)) tk0 rfl (pa_cons (pv 1) pa_nil)) pa_nil)) (pa_cons (pe_tup (pa_cons (pv 4) (pa_cons (pe_op op_fdiv (pe_op op_sub (pv 5) (pv 4)) pe_int) pa_nil))) pa_nil)))))))) (pss_one (ps_ret pe_bl)) pss_nil)
    (pss_cons (ps_asg (pe_x c_law_pick hr (by(omega)) tk0 rfl (pa_cons (pv 0) (pa_cons (pe_lst (pa_cons pe_int (pa_cons (pe_tup (pa_cons (pe_tup (pa_cons pe_int (pa_cons pe_int pa_nil))) pa_nil)) (pa_cons (pe_tup (pa_cons (pe_tup pa_nil) pa_nil)) pa_nil)))) pa_nil))) (pg_sub (pv 1) pe_int set_list))
    (pss_one (ps_ret (pe_cmpR (op_eqD (u64 hr)) (pe_xG c_law_count_fault hr (by(omega)) hg tk0 rfl (pa_cons (pe_x c_law_made hr (by(omega)) tk0 rfl (pa_cons (pv 1) pa_nil)) pa_nil)) (pe_tup (pa_cons pe_str (pa_cons pe_str pa_nil))) (nomark _)))))))))))), ?_⟩
  walk_at "r"
  refine ⟨_, rfl, by decide, by decide, fun D nD => ?_⟩
  refine comp_pen walk_range (szL (by decide)) nD pn (fun x H' Q' => sp_law_drawn K 1 [.ref p, .int 1] H' Q' _) (fun v H' => ∃ d, Dp K H' v d ∧ (Nol d ∧ Dv 1 d)) (fun _ _ _ _ y => y.1) ?_ ?_ ?_
  · rintro v Ha Hb k z ⟨d, hd, nl, dv⟩
    exact ⟨d, Dp.but z k nl hd, nl, dv⟩
  · intro x Ha Q' ka pna q'
    exact ⟨p, tc, rfl, pna, fun v d Hb kb pnb hd nl dv => q' v Hb kb pnb ⟨d, hd, nl, dv⟩⟩
  intro Ha ys ka pna hD hl hR
  obtain ⟨ds, al, hlen, hp⟩ := gather hR
  obtain ⟨v, d, rfl, -, hv⟩ := vals15 al hl hp
  clear hR al hlen hp ds
  have nDp : ¬ D = p := pna.ne hD
  unfold iRng1
  walk_at "r"
  refine ⟨p, tc, 4, rfl, by decide, by decide, pna, fun m H2 m0 m1 k2 pn2 => ⟨m, rfl, by omega, by omega, fun D2 nD2 => ?_⟩⟩
  refine comp_pen walk_range (szL (by omega)) nD2 pn2 (fun x H' Q' => sp_law_draw K [.ref p, .int 5] H' (fun y H2 => ∃ x, y = .int x ∧ Q' (.int (2 + x)) H2) _) (fun v _ => ∃ o : Int, v = .int o ∧ 2 ≤ o ∧ o < 7) (fun _ _ _ _ y => y.1) (fun _ _ _ _ _ h => h) ?_ ?_
  · intro x Ha Q' ka pna q'
    exact ⟨p, tc, 5, rfl, by decide, by decide, pna, fun o Hb o0 o1 kb pnb => ⟨_, rfl, q' _ Hb kb pnb ⟨_, rfl, by omega, by omega⟩⟩⟩
  intro Hb ys2 kb pnb hD2 hl2 hR2
  obtain ⟨os, rfl, hos⟩ : ∃ os : List Int, ys2 = os.map V.int ∧ ∀ o, o ∈ os → 2 ≤ o ∧ o < 7 := by
    clear hD2 hl2
    induction ys2 with
    | nil => exact ⟨[], rfl, fun _ h => nomatch h⟩
    | cons y r ih =>
      obtain ⟨os, e, h⟩ := ih fun y hy => hR2 y (List.mem_cons_of_mem _ hy)
      obtain ⟨o, e2, h2⟩ := hR2 y List.mem_cons_self
      refine ⟨o :: os, by rw [e, e2]; rfl, fun o' ho => ?_⟩
      rcases List.mem_cons.mp ho with rfl | ho
      · exact h2
      · exact h o' ho
  rw [List.length_map] at hl2
  refine ⟨_, .inl ⟨.inl (.inl hD2), fun l nl => ?_⟩⟩
  have k02 : But (· = p) Ha Hb := k2.trans kb
  have e1 := same_new nl (.tup (os.map V.int))
  have pnc := pnb.same e1
  refine ⟨p, tc, 4, rfl, by decide, by decide, pnc, fun r H4 r0 r1 k4 pn4 => ⟨_, _, ⟨rfl, rfl⟩, p, tc, 2, rfl, by decide, by decide, pn4, fun e H5 ee0 ee1 k5 pn5 => ⟨_, rfl, .inr ⟨by omega, by omega⟩, _, rfl, sz (by decide), fun p1 n1 => ⟨sz (by decide), fun p2 n2 => ?_⟩⟩⟩⟩
  have s1 := same_new n1 (.tup [.int 0, .int 0])
  have s2 := same_new n2 (.tup [.ref p1])
  refine rep_one (.inl (.inl upd_same)) r0 (by omega) fun st H6 e6 hst => ⟨sz (by decide), fun p3 n3 => ?_⟩
  have s3 := same_new n3 (.tup [.int 1])
  refine rep_one (.inl (.inl upd_same)) (by omega) (by omega) fun pl H7 e7 hpl => ⟨sz (by decide), fun p4 n4 => ?_⟩
  have s4 := same_new n4 (.tup [.ref l, .ref st, .ref pl])
  have s57 : Same H5 (upd H7 p4 (.tup [.ref l, .ref st, .ref pl])) := ((((s1.trans s2).trans e6).trans s3).trans e7).trans s4
  -- what stands
  have kab : But (· = p) Ha (upd H7 p4 (.tup [.ref l, .ref st, .ref pl])) := (((k02.trans (Same.but e1)).trans k4).trans k5).trans (Same.but s57)
  have pn7 := pn5.same s57
  have hD7 := kab _ _ nDp hD
  have zt := pna.noTup
  have hv7 : ∀ i, i < 15 → Dp K (upd H7 p4 (.tup [.ref l, .ref st, .ref pl])) (v i) (d i) ∧ Dg (d i) := fun i hi => ⟨Dp.but zt kab (hv i hi).2.1 (hv i hi).1, (Dv.dt (hv i hi).2.2).up.up.dg (hv i hi).2.1⟩
  have dgo : Dg (.tuple (os.map .int)) := dg_ints (fun o ho => by have := hos o ho; exact ⟨by omega, by omega⟩) (by omega)
  have hor : Dp K (upd H7 p4 (.tup [.ref l, .ref st, .ref pl])) (.ref l) (.tuple (os.map .int)) := Dp.but pnc.noTup ((k4.trans k5).trans (Same.but s57)) dgo.1 (.tup (.inl (.inl upd_same)) (dp_ints os))
  have hst7 : Dp K (upd H7 p4 (.tup [.ref l, .ref st, .ref pl])) (.ref st) (.tuple (List.replicate r.toNat (.tuple [.int 0, .int 0]))) := by
    refine Dp.same ((s3.trans e7).trans s4) (.tup hst (dp_rep (.tup (.inl (.inl ((s2.trans e6) _ _ upd_same))) (.cons (.int 0) (.cons (.int 0) .nil))) _))
  have hpl7 : Dp K (upd H7 p4 (.tup [.ref l, .ref st, .ref pl])) (.ref pl) (.tuple ((List.replicate (r + 2 * e + 1).toNat 1).map PyData.int)) := by
    refine Dp.same s4 (.tup hpl ?_)
    have := dp_ints (K := K) (H := H7) (List.replicate (r + 2 * e + 1).toNat 1)
    rw [List.map_replicate] at this ⊢
    rw [List.map_replicate] at this
    exact this
  refine ⟨_, .inl (.inl upd_same), rfl, _, _, rfl, ⟨D, _, 8, 8, rfl, rfl, hD7, rfl, _, _, rfl, ⟨D, _, 2, 2, rfl, rfl, upd_same, rfl, _, _, rfl, ⟨D, _, 0, 0, rfl, rfl, upd_same, rfl, rfl, ?_⟩⟩⟩⟩
  rw [set8, set2, set0]
  obtain ⟨px, kx⟩ := pn.app (D := D) (o := .lst (args15 (sub8 v 8 (.ref l)))) (ka.trans kab) pn7 nD
  obtain ⟨py, ky⟩ := pn.app (D := D) (o := .lst (args15 (sub8 (sub8 v 8 (.ref l)) 2 (.ref st)))) kx px nD
  obtain ⟨pn8, k8⟩ := pn.app (D := D) (o := .lst (args15 (sub8 (sub8 (sub8 v 8 (.ref l)) 2 (.ref st)) 0 (.ref pl)))) ky py nD
  have dgs := dg_st r.toNat (by omega)
  have dgp : Dg (.tuple ((List.replicate (r + 2 * e + 1).toNat 1).map PyData.int)) := dg_ints (fun o ho => by rw [(List.mem_replicate.mp ho).2]; exact ⟨by omega, by omega⟩) (by rw [List.length_replicate]; omega)
  have hv8 := sub8_all (k := 0) (sub8_all (k := 2) (sub8_all (k := 8) hv7 hor dgo) hst7 dgs) hpl7 dgp
  have kD : But (· = D) (upd H7 p4 (.tup [.ref l, .ref st, .ref pl])) (upd (upd (upd (upd H7 p4 (.tup [.ref l, .ref st, .ref pl])) D (.lst (args15 (sub8 v 8 (.ref l))))) D (.lst (args15 (sub8 (sub8 v 8 (.ref l)) 2 (.ref st))))) D (.lst (args15 (sub8 (sub8 (sub8 v 8 (.ref l)) 2 (.ref st)) 0 (.ref pl))))) := ((But.upd (S := (· = D)) rfl).trans (But.upd (S := (· = D)) rfl)).trans (But.upd (S := (· = D)) rfl)
  have hv9 := fun i hi => (⟨Dp.but (noTupD hD7) kD (hv8 i hi).2.1 (hv8 i hi).1, (hv8 i hi).2⟩ : Dp K _ _ _ ∧ Dg _)
  have hD9 : (upd (upd (upd (upd H7 p4 (.tup [.ref l, .ref st, .ref pl])) D (.lst (args15 (sub8 v 8 (.ref l))))) D (.lst (args15 (sub8 (sub8 v 8 (.ref l)) 2 (.ref st))))) D (.lst (args15 (sub8 (sub8 (sub8 v 8 (.ref l)) 2 (.ref st)) 0 (.ref pl))))) D = some (.lst (args15 (sub8 (sub8 (sub8 v 8 (.ref l)) 2 (.ref st)) 0 (.ref pl)))) := upd_same
  generalize hH8 : upd (upd (upd (upd H7 p4 (.tup [.ref l, .ref st, .ref pl])) D (.lst (args15 (sub8 v 8 (.ref l))))) D (.lst (args15 (sub8 (sub8 v 8 (.ref l)) 2 (.ref st))))) D (.lst (args15 (sub8 (sub8 (sub8 v 8 (.ref l)) 2 (.ref st)) 0 (.ref pl)))) = H8 at *
  clear hH8 kD hv8 px kx py ky hpl7 hst7 hor hv7 hD7 pn7 kab s57 s4 hpl e7 s3 hst e6 s2 s1 pn5 k5 k4 pn4 pnc e1 k02 hR2 hD2 pnb kb pn2 k2 hv hD pna ka zt
  generalize hW : sub8 (sub8 (sub8 v 8 (.ref l)) 2 (.ref st)) 0 (.ref pl) = W at *
  have hE8 : (sub8 (sub8 (sub8 d 8 (PyData.tuple (os.map .int))) 2 (.tuple (List.replicate r.toNat (.tuple [.int 0, .int 0])))) 0 (.tuple ((List.replicate (r + 2 * e + 1).toNat 1).map .int))) 8 = .tuple (os.map .int) := rfl
  have hE2 : (sub8 (sub8 (sub8 d 8 (PyData.tuple (os.map .int))) 2 (.tuple (List.replicate r.toNat (.tuple [.int 0, .int 0])))) 0 (.tuple ((List.replicate (r + 2 * e + 1).toNat 1).map .int))) 2 = .tuple (List.replicate r.toNat (.tuple [.int 0, .int 0])) := rfl
  have hE0 : (sub8 (sub8 (sub8 d 8 (PyData.tuple (os.map .int))) 2 (.tuple (List.replicate r.toNat (.tuple [.int 0, .int 0])))) 0 (.tuple ((List.replicate (r + 2 * e + 1).toNat 1).map .int))) 0 = .tuple ((List.replicate (r + 2 * e + 1).toNat 1).map .int) := rfl
  have hW8 : W 8 = .ref l := by rw [← hW]; rfl
  generalize hE : sub8 (sub8 (sub8 d 8 (PyData.tuple (os.map .int))) 2 (.tuple (List.replicate r.toNat (.tuple [.int 0, .int 0])))) 0 (.tuple ((List.replicate (r + 2 * e + 1).toNat 1).map .int)) = E at *
  have hl8 : SqT K H8 l (os.map V.int) := by
    have h := (hv9 8 (by decide)).1
    rw [hE8, hW8] at h
    obtain ⟨l', xs, e', hq, al⟩ := Dp.tupI h
    cases e'
    rw [DpAll.ints al] at hq
    exact hq
  have h10 : ∀ o, o ∈ os → -(2 ^ 64) < o ∧ o < 2 ^ 64 := fun o ho => by have := hos o ho; omega
  refine .inr ⟨_, rfl, l, rfl, ⟨_, hl8⟩, for_it (walk_tup (xs := os.map V.int)) (fun i σ H' => H' = H8 ∧ ∃ a, σ = [some (.ref p), some (.ref D), none, some (.ref l), some (.int r), some (.int (r + 2 * e)), some (.int (prodL (os.take i))), a]) ⟨rfl, _, rfl⟩ (fun i σ H' _ h => by rw [h.1]; exact hl8) ?_ ?_⟩
  · rintro i x σ Hx Hy hi ⟨rfl, a2, rfl⟩ ⟨rfl, hx⟩
    rw [List.length_map] at hi
    rw [List.getElem?_map, List.getElem?_eq_getElem hi] at hx
    cases hx
    walk_at "r"
    have e2 : prodL (os.take (i + 1)) = prodL (os.take i) * os[i] := by
      rw [List.take_succ, List.getElem?_eq_getElem hi]
      unfold prodL
      rw [List.foldl_append]; rfl
    exact ⟨.inr (h10 _ (List.getElem_mem hi)), e2.symm, _, rfl⟩
  rintro σ Hx ⟨rfl, a2, rfl⟩
  rw [List.length_map, List.take_length]
  walk_at "r"
  have plE : ∀ i, i < 15 → fine 4 (E i) := fun i hi => (hv9 i hi).2.2.1
  have allE : (dl E).all (plB 4) = true := dl_all fun i hi => (hv9 i hi).2.2.2
  refine made_of hD9 hv9 fun a dx w H9 e9 na bk => ?_
  refine ⟨.ref a, rfl, .inl ⟨a, dx, w, E, rfl, bk, plE, allE, .inl ⟨os, hE8, by omega, h10, fun H10 e10 => ?_⟩⟩⟩
  refine ⟨_, _, .int (prodL os), rfl, .int _, .int _, .int _, fun H11 e11 => ⟨true, rfl, ?_⟩⟩
  rw [if_neg (by decide)]
  have e911 := (e9.trans e10).trans e11
  refine made_of (e911 _ _ hD9) (fun i hi => ⟨Dp.same e911 (hv9 i hi).1, (hv9 i hi).2⟩) fun a3 dx3 w3 H12 e12 na3 bk3 => ?_
  refine ⟨.ref a3, rfl, .inl ⟨_, _, _, E, _, _, rfl, bk3, plE, allE, hE0, hE2, fun l2 H13 e13 hq => ⟨⟨by decide, by decide⟩, sz (by decide), fun p5 n5 => ?_⟩⟩⟩
  have z1 : (((List.replicate r.toNat (PyData.tuple [.int 0, .int 0])).length : Nat) : Int) = r := by rw [List.length_replicate]; omega
  have z2 : ((((List.replicate (r + 2 * e + 1).toNat 1).map PyData.int).length : Nat) : Int) = r + 2 * e + 1 := by rw [List.length_map, List.length_replicate]; omega
  rw [z1, z2, show r + 2 * e + 1 - 1 - r = r + 2 * e - r by omega] at hq
  have s5 := same_new n5 (.tup [.int r, .int ((r + 2 * e - r) / 2)])
  refine ⟨_, _, .tuple [.int r, .int ((r + 2 * e - r) / 2)], rfl, Dp.of_pair (SqT.same s5 hq), Dp.of_pair (.inl (.inl upd_same)), fl_2 _ _, fun H14 e14 => ⟨true, rfl, ?_⟩⟩
  rw [if_neg (by decide)]
  have e914 := (((e911.trans e12).trans e13).trans s5).trans e14
  refine ⟨sz (by decide), fun q1 m1 => ⟨sz (by decide), fun q2 m2 => ⟨sz (by decide), fun q3 m3 => ⟨sz (by decide), fun q4 m4 => ⟨sz (by decide), fun q5 m5 => ?_⟩⟩⟩⟩⟩
  have u1 := same_new m1 (.tup [.int 1, .int 3])
  have u2 := same_new m2 (.tup [.ref q1])
  have u3 := same_new m3 (.tup [])
  have u4 := same_new m4 (.tup [.ref q3])
  have u5 := same_new m5 (.lst [.int 3, .ref q2, .ref q4])
  have u15 := (((u1.trans u2).trans u3).trans u4).trans u5
  have e915 := e914.trans u15
  have pn15 := pn8.same e915
  have t1 := (((u2.trans u3).trans u4).trans u5) _ _ upd_same
  have t2 := ((u3.trans u4).trans u5) _ _ upd_same
  have t3 := (u4.trans u5) _ _ upd_same
  have t4 := u5 _ _ upd_same
  refine ⟨p, tc, q5, _, rfl, pn15, .inl (.inl upd_same), pn15.ne upd_same, by simp, by simp, fun j x H15 hj k15 pn16 => ?_⟩
  have hx : ∃ dat, Dp K H15 x dat ∧ Dg dat ∧ ((∃ i, dat = .int i) ∨ ∃ e, dat = .tuple [e] ∧ (tyOf e == "int") = false) := by
    match j, hj with
    | 0, h => cases h; exact ⟨.int 3, .int 3, ⟨.int 3, .inl leaf_int, by decide +kernel⟩, .inl ⟨3, rfl⟩⟩
    | 1, h =>
      cases h
      have dg := dg_13
      exact ⟨_, Dp.but pn15.noTup k15 dg.1 (.tup (.inl (.inl t2)) (.cons (Dp.of_pair (.inl (.inl t1))) .nil)), dg, .inr ⟨_, rfl, rfl⟩⟩
    | 2, h =>
      cases h
      have dg := dg_e
      exact ⟨_, Dp.but pn15.noTup k15 dg.1 (.tup (.inl (.inl t4)) (.cons (.tup (.inl (.inl t3)) .nil) .nil)), dg, .inr ⟨_, rfl, rfl⟩⟩
    | _ + 3, h => cases h
  obtain ⟨dat, hxd, dgx, odd⟩ := hx
  have hD15 := k15 _ _ nDp (e915 _ _ hD9)
  have hv15 : ∀ i, i < 15 → Dp K H15 (W i) (E i) ∧ Dg (E i) := fun i hi => ⟨Dp.but pn15.noTup k15 (hv9 i hi).2.1 (Dp.same e915 (hv9 i hi).1), (hv9 i hi).2⟩
  refine ⟨D, _, 8, 8, rfl, rfl, hD15, rfl, ?_⟩
  rw [set8]
  obtain ⟨pn17, k17⟩ := pn.app (D := D) (o := .lst (args15 (sub8 W 8 x))) ((k8.trans (Same.but e915)).trans k15) pn16 nD
  have hv16 := sub8_all (k := 8) hv15 hxd dgx
  have hv17 := fun i hi => (⟨Dp.but (noTupD hD15) (But.upd (o := .lst (args15 (sub8 W 8 x))) rfl) (hv16 i hi).2.1 (hv16 i hi).1, (hv16 i hi).2⟩ : Dp K _ _ _ ∧ Dg _)
  refine made_of upd_same hv17 fun a4 dx4 w4 H17 e17 na4 bk4 => ?_
  have k18 := k17.trans (Same.but e17)
  refine ⟨.ref a4, rfl, Tabs.but pn k18 hT, fun H' eN => .inr ⟨a4, dx4, w4, _, rfl, bk4.extN eN, fun i hi => (hv17 i hi).2.2.1, dl_all fun i hi => (hv17 i hi).2.2.2, odd⟩, fun l3 H18 eN hT18 hq3 => ⟨sz (by decide), fun q6 m6 => ?_⟩⟩
  have u6 := same_new m6 (.tup [.str (Str.ofString "paper"), .str (Str.ofString "book")])
  refine ⟨_, _, dp_2s (SqT.same u6 hq3), dp_2s (.inl (.inl upd_same)), shaped_2s (by decide +kernel) (by decide +kernel), shaped_2s (by decide +kernel) (by decide +kernel), ?_⟩
  rw [eqv_2s]
  exact q _ (((ButN.but k18).trans (.ext eN)).trans (.same u6)) (((pn17.same e17).extN eN).same u6) (hT18.ext u6)
end
end FP
set_option maxHeartbeats 4000000
/-! the plain law of the books: how many tokens a line has -/
namespace FP
open PySem PySem.Spec PyProof.Rows L2
def Ptk (t : List Nat) : Prop := (∃ c, c ∈ pnc ∧ t = [c]) ∨ (t ≠ [] ∧ ∀ x, x ∈ t → x ∈ figL)
theorem Ptk.pn {c : Nat} (h : c ∈ pnc) : Ptk [c] := .inl ⟨c, h, rfl⟩
theorem Ptk.num (n : Nat) : Ptk (TL.numL n) := .inr ⟨TL.numL_ne n, fun _ h => numL_fig h⟩
theorem Dt.pts {n : Nat} {d : PyData} (h : Dt n d) : ∀ t, t ∈ tokV n d → Ptk t := by
  induction h with
  | @rat n d t b h1 h2 h3 =>
    rw [tokV_rat h1]
    intro x hx
    unfold ratT at hx
    rcases List.mem_append.mp hx with hx | hx
    · split at hx
      · rw [List.mem_singleton.mp hx]; exact .pn (by decide)
      · cases hx
    · split at hx
      · rw [List.mem_singleton.mp hx]; exact .num _
      · simp only [List.mem_cons, List.not_mem_nil, or_false] at hx
        rcases hx with rfl | rfl | rfl
        · exact .num _
        · exact .pn (by decide)
        · exact .num _
  | @tup n ds h1 h2 h3 ih =>
    rw [tokV_tup h1]
    intro t ht
    rcases List.mem_cons.mp ht with rfl | ht
    · exact .pn (by decide)
    · rcases List.mem_append.mp ht with ht | ht
      · rcases sepT_all ht with rfl | ⟨x, hx, ht⟩
        · exact .pn (by decide)
        · obtain ⟨e, he, rfl⟩ := List.mem_map.mp hx
          exact ih e he t ht
      · rcases List.mem_append.mp ht with ht | ht
        · split at ht
          · rw [List.mem_singleton.mp ht]; exact .pn (by decide)
          · cases ht
        · rw [List.mem_singleton.mp ht]; exact .pn (by decide)
/-! ### counting -/
def cntB : Bool → List Nat → Nat
  | _, [] => 0
  | p, c :: r => (if (!decide (c = 32) && (decide (c ∈ pnc) || p)) = true then 1 else 0) + cntB (decide (c ∈ 32 :: pnc)) r
theorem cnt_split (l : List Nat) : ∀ k i, k + i = l.length → cntU l l.length = cntU l i + cntB (decide (i = 0) || decide (l.getD (i - 1) 0 ∈ 32 :: pnc)) (l.drop i)
  | 0, i, h => by
    have : i = l.length := by omega
    subst this
    rw [List.drop_eq_nil_of_le (Nat.le_refl _)]; rfl
  | k + 1, i, h => by
    have hi : i < l.length := by omega
    rw [cnt_split l k (i + 1) (by omega), List.drop_eq_getElem_cons hi]
    have e : l.getD i 0 = l[i] := by rw [List.getD_eq_getElem?_getD, List.getElem?_eq_getElem hi]; rfl
    show (cntU l i + if frS l i = true then 1 else 0) + _ = cntU l i + (_ + _)
    rw [Nat.add_assoc, Nat.add_sub_cancel, e, decide_eq_false (Nat.succ_ne_zero i), Bool.false_or]
    unfold frS
    rw [e]
theorem cntU_eq (l : List Nat) : cntU l l.length = cntB true l := by
  rw [cnt_split l l.length 0 rfl]
  show 0 + cntB true l = _
  rw [Nat.zero_add]
theorem cntB_run {r : List Nat} : ∀ {t : List Nat}, (∀ x, x ∈ t → x ∉ 32 :: pnc) → cntB false (t ++ r) = cntB false r
  | [], _ => rfl
  | c :: t, h => by
    have hc := h c List.mem_cons_self
    have h1 : ¬ c = 32 := fun z => hc (by rw [z]; exact List.mem_cons_self)
    have h2 : c ∉ pnc := fun z => hc (List.mem_cons_of_mem _ z)
    show (if (!decide (c = 32) && (decide (c ∈ pnc) || false)) = true then 1 else 0) + cntB (decide (c ∈ 32 :: pnc)) (t ++ r) = _
    rw [decide_eq_false hc, decide_eq_false h2, cntB_run fun x hx => h x (List.mem_cons_of_mem _ hx)]
    simp
theorem cntB_word {t r : List Nat} (hn : t ≠ []) (h : ∀ x, x ∈ t → x ∉ 32 :: pnc) : cntB true (t ++ r) = 1 + cntB false r := by
  cases t with
  | nil => exact absurd rfl hn
  | cons c t =>
    have hc := h c List.mem_cons_self
    have h1 : ¬ c = 32 := fun z => hc (by rw [z]; exact List.mem_cons_self)
    show (if (!decide (c = 32) && (decide (c ∈ pnc) || true)) = true then 1 else 0) + cntB (decide (c ∈ 32 :: pnc)) (t ++ r) = _
    rw [decide_eq_false hc, decide_eq_false h1, cntB_run fun x hx => h x (List.mem_cons_of_mem _ hx)]
    simp
theorem cntB_sym {p : Bool} {c : Nat} {r : List Nat} (h : c ∈ pnc) : cntB p (c :: r) = 1 + cntB true r := by
  have h1 : ¬ c = 32 := fun z => by rw [z] at h; exact absurd h (by decide)
  show (if (!decide (c = 32) && (decide (c ∈ pnc) || p)) = true then 1 else 0) + cntB (decide (c ∈ 32 :: pnc)) r = _
  rw [decide_eq_false h1, decide_eq_true h, decide_eq_true (List.mem_cons_of_mem _ h)]
  rfl
theorem cntB_blank {p : Bool} {r : List Nat} : cntB p (32 :: r) = cntB true r := by
  show 0 + cntB true r = _
  rw [Nat.zero_add]
theorem fig_np {x : Nat} (h : x ∈ figL) : x ∉ 32 :: pnc := by
  have : ∀ x, x ∈ figL → x ∉ 32 :: pnc := by decide
  exact this x h
theorem ltr_np {x : Nat} (h : x ∈ letL) : x ∉ 32 :: pnc := by
  have : ∀ x, x ∈ letL → x ∉ 32 :: pnc := by decide
  exact this x h
theorem Ptk.nsym {t : List Nat} (hn : t ≠ []) (h : ∀ x, x ∈ t → x ∈ figL) : ¬ Symt t := fun ⟨c, e, _, h2, _⟩ => h2 (h c (by rw [e]; exact List.mem_singleton.mpr rfl))
theorem cnt_txt {suf : List Nat} : ∀ {ts : List (List Nat)} {p : Bool}, (∀ t, t ∈ ts → Ptk t) → Sep ts → (p = true ∨ ∀ u, ts.head? = some u → Symt u) → ∃ q, cntB p (txtT ts ++ suf) = ts.length + cntB q suf
  | [], p, _, _, _ => ⟨p, by show cntB p suf = 0 + _; rw [Nat.zero_add]⟩
  | t :: r, p, h, s, hp => by
    have sr : Sep r := by
      cases r with
      | nil => trivial
      | cons u r => exact s.2
    have hr : ∀ x, x ∈ r → Ptk x := fun x hx => h x (List.mem_cons_of_mem _ hx)
    have e0 : txtT (t :: r) ++ suf = t ++ ((if t = [44] ∧ r.head? ≠ some [41] then [32] else []) ++ (txtT r ++ suf)) := by
      show (t ++ ((if t = [44] ∧ r.head? ≠ some [41] then [32] else []) ++ txtT r)) ++ suf = _
      rw [List.append_assoc, List.append_assoc]
    rw [e0]
    rcases h t List.mem_cons_self with ⟨c, hc, rfl⟩ | ⟨hn, hf⟩
    · obtain ⟨q, hq⟩ := cnt_txt (suf := suf) (p := true) hr sr (.inl rfl)
      refine ⟨q, ?_⟩
      show cntB p (c :: ((if [c] = [44] ∧ r.head? ≠ some [41] then [32] else []) ++ (txtT r ++ suf))) = _
      rw [cntB_sym hc]
      have : cntB true ((if [c] = [44] ∧ r.head? ≠ some [41] then [32] else []) ++ (txtT r ++ suf)) = cntB true (txtT r ++ suf) := by
        split
        · exact cntB_blank
        · rfl
      rw [this, hq, List.length_cons]
      omega
    · have np : p = true := by
        rcases hp with hp | hp
        · exact hp
        · exact absurd (hp t rfl) (Ptk.nsym hn hf)
      subst np
      have n44 : ¬ t = [44] := fun e => absurd (hf 44 (by rw [e]; exact List.mem_singleton.mpr rfl)) (by decide)
      rw [if_neg (fun z => n44 z.1), cntB_word hn fun x hx => fig_np (hf x hx)]
      obtain ⟨q, hq⟩ := cnt_txt (suf := suf) (p := false) hr sr (.inr fun u hu => by
        cases r with
        | nil => cases hu
        | cons v r =>
          cases hu
          rcases s.1 with z | z
          · exact absurd z (Ptk.nsym hn hf)
          · exact z)
      refine ⟨q, ?_⟩
      show 1 + cntB false (txtT r ++ suf) = _
      rw [hq, List.length_cons]
      omega
/-! ### the tokens of a text with something behind it -/
theorem toks_sfx {suf : List Nat} {us : List (List Nat)} (hu : Toks suf us) (hh : ∀ x, suf.head? = some x → x ∉ figL ∧ x ∉ letL) : ∀ {ts : List (List Nat)}, (∀ t, t ∈ ts → Gtok t) → Sep ts → Toks (txtT ts ++ suf) (ts ++ us)
  | [], _, _ => hu
  | t :: r, h, s => by
    have sr : Sep r := by
      cases r with
      | nil => trivial
      | cons u r => exact s.2
    have ih := toks_sfx hu hh (ts := r) (fun x hx => h x (List.mem_cons_of_mem _ hx)) sr
    show Toks ((t ++ ((if t = [44] ∧ r.head? ≠ some [41] then [32] else []) ++ txtT r)) ++ suf) (t :: (r ++ us))
    rw [List.append_assoc, List.append_assoc]
    refine .add (h t List.mem_cons_self) (.blanks (fun x hx => ?_) ih) ?_
    · split at hx
      · exact List.mem_singleton.mp hx
      · cases hx
    · by_cases e : t = [44]
      · exact .inl ⟨44, e, by decide, by decide, by decide⟩
      rw [if_neg (fun z => e z.1)]
      cases r with
      | nil => exact .inr hh
      | cons u r =>
        rcases s.1 with z | ⟨c, rfl, h1, h2, h3⟩
        · exact .inl z
        · refine .inr fun x hx => ?_
          cases hx
          exact ⟨h2, h3⟩
theorem mem_txt {c : Nat} : ∀ {ts : List (List Nat)}, c ∈ txtT ts → c = 32 ∨ ∃ t, t ∈ ts ∧ c ∈ t
  | t :: r, h => by
    have h : c ∈ t ++ ((if t = [44] ∧ r.head? ≠ some [41] then [32] else []) ++ txtT r) := h
    rcases List.mem_append.mp h with h | h
    · exact .inr ⟨t, List.mem_cons_self, h⟩
    · rcases List.mem_append.mp h with h | h
      · split at h
        · exact .inl (List.mem_singleton.mp h)
        · cases h
      · rcases mem_txt h with h | ⟨u, hu, h⟩
        · exact .inl h
        · exact .inr ⟨u, List.mem_cons_of_mem _ hu, h⟩
theorem txt_mem {c : Nat} {t : List Nat} (hc : c ∈ t) : ∀ {ts : List (List Nat)}, t ∈ ts → c ∈ txtT ts
  | u :: r, h => by
    show c ∈ u ++ ((if u = [44] ∧ r.head? ≠ some [41] then [32] else []) ++ txtT r)
    rcases List.mem_cons.mp h with rfl | h
    · exact List.mem_append_left _ hc
    · exact List.mem_append_right _ (List.mem_append_right _ (txt_mem hc h))
end FP
set_option maxHeartbeats 4000000
/-! the plain law of the books: what comes of the texts -/
namespace FP
open PySem PySem.Spec PyProof.Rows L2
theorem nm_ltr : ∀ i, i < 15 → nmi i ≠ [] ∧ ∀ x, x ∈ nmi i → x ∈ letL := by
  intro i hi
  match i, hi with
  | 0, _ | 1, _ | 2, _ | 3, _ | 4, _ | 5, _ | 6, _ | 7, _ | 8, _ | 9, _ | 10, _ | 11, _ | 12, _ | 13, _ | 14, _ => decide
  | _ + 15, h => omega
theorem nm_drop {i : Nat} (h : i < 15) : nmc.drop i = nmi i :: nmc.drop (i + 1) := by
  rw [List.drop_eq_getElem_cons (show i < nmc.length from h)]
  have := nmi_get h
  rw [List.getElem?_eq_getElem (show i < nmc.length from h)] at this
  rw [Option.some.inj this]
theorem fig_asc : ∀ c, c ∈ figL → c < 128 ∧ c ≠ 10 ∧ c ≠ 32 := by decide
theorem ltr_asc : ∀ c, c ∈ letL → c < 128 ∧ c ≠ 10 ∧ c ≠ 32 := by decide
theorem pnc_asc : ∀ c, c ∈ pnc → c < 128 ∧ c ≠ 10 ∧ c ≠ 32 := by decide
theorem ptk_asc {t : List Nat} (h : Ptk t) : ∀ c, c ∈ t → c < 128 ∧ c ≠ 10 ∧ c ≠ 32 := fun c hc => by
  rcases h with ⟨x, hx, rfl⟩ | ⟨_, h⟩
  · rw [List.mem_singleton.mp hc]; exact pnc_asc x hx
  · exact fig_asc c (h c hc)
theorem txt_asc {ts : List (List Nat)} (h : ∀ t, t ∈ ts → Ptk t) : ∀ c, c ∈ txtT ts → c < 128 ∧ c ≠ 10 := fun c hc => by
  rcases mem_txt hc with rfl | ⟨t, ht, hc⟩
  · decide
  · exact ⟨(ptk_asc (h t ht) c hc).1, (ptk_asc (h t ht) c hc).2.1⟩
/-- a line with something behind it -/
def lineS (i : Nat) (d : PyData) (suf : List Nat) : List Nat := nmi i ++ (32 :: (txtT (tokV 3 d) ++ suf))
theorem lineL_eq {i : Nat} {d : PyData} (h : Dt 3 d) : lineL 4 d i = lineS i d [] := by
  unfold lineL lineS
  rw [h.up.txt, tokV_up h, List.append_assoc, List.append_nil]; rfl
theorem lineS_app {i : Nat} {d : PyData} {suf : List Nat} : lineS i d [] ++ suf = lineS i d suf := by
  unfold lineS
  rw [List.append_nil, List.append_assoc, List.cons_append]
theorem nm_toks {i : Nat} (hi : i < 15) {r : List Nat} {ts : List (List Nat)} (h : Toks r ts) (hh : ∀ x, r.head? = some x → x ∉ figL ∧ x ∉ letL) : Toks (nmi i ++ r) (nmi i :: ts) := .add (.inr (.inr (nm_ltr i hi))) h (.inr hh)
theorem lineS_toks {i : Nat} (hi : i < 15) {d : PyData} (h : Dt 3 d) {suf : List Nat} {us : List (List Nat)} (hu : Toks suf us) (hh : ∀ x, suf.head? = some x → x ∉ figL ∧ x ∉ letL) : Toks (lineS i d suf) (nmi i :: (tokV 3 d ++ us)) := by
  have tk := h.tks
  exact nm_toks hi (.sp (toks_sfx hu hh (fun t ht => (tk.good t ht).1) tk.sep)) fun x hx => by cases hx; decide
theorem lineS_len {i : Nat} {d : PyData} (h : Dt 3 d) {suf : List Nat} (hs : suf.length ≤ 2) : (lineS i d suf).length ≤ 20000 := by
  have tk := h.tks
  have := txtT_len (M := 41) (ts := tokV 3 d) fun t ht => (tk.good t ht).2
  have few : (tokV 3 d).length ≤ 384 := tk.few
  have l1 := nmi_len (i := i)
  unfold lineS
  simp only [List.length_append, List.length_cons]; omega
theorem lineS_asc {i : Nat} (hi : i < 15) {d : PyData} (h : Dt 3 d) {suf : List Nat} (hs : ∀ c, c ∈ suf → c < 128 ∧ c ≠ 10) : ∀ c, c ∈ lineS i d suf → c < 128 ∧ c ≠ 10 := fun c hc => by
  unfold lineS at hc
  rcases List.mem_append.mp hc with hc | hc
  · exact ⟨(ltr_asc c ((nm_ltr i hi).2 c hc)).1, (ltr_asc c ((nm_ltr i hi).2 c hc)).2.1⟩
  · rcases List.mem_cons.mp hc with rfl | hc
    · decide
    · rcases List.mem_append.mp hc with hc | hc
      · exact txt_asc h.pts c hc
      · exact hs c hc
theorem ltr_cps : ∀ c, c ∈ letL → c < 1114112 := by decide
theorem nm_cps {i : Nat} (hi : i < 15) : Cps (nmi i) := fun c hc => ltr_cps c ((nm_ltr i hi).2 c hc)
theorem cnt_line {i : Nat} (hi : i < 15) {d : PyData} (h : Dt 3 d) {suf : List Nat} : ∃ q, cntU (lineS i d suf) (lineS i d suf).length = 1 + ((tokV 3 d).length + cntB q suf) := by
  obtain ⟨q, hq⟩ := cnt_txt (suf := suf) (p := true) h.pts h.tks.sep (.inl rfl)
  refine ⟨q, ?_⟩
  rw [cntU_eq]
  unfold lineS
  rw [cntB_word (nm_ltr i hi).1 fun x hx => ltr_np ((nm_ltr i hi).2 x hx), cntB_blank, hq]
/-! ### cutting at one sign -/
theorem spl1_ne (s : Nat) (l acc : List Nat) : TL.spl [s] 0 acc l ≠ [] := by
  induction l generalizing acc with
  | nil => rw [TL.spl_nil]; simp
  | cons c r ih =>
    rw [spl1_cons]
    split
    · simp
    · exact ih _
theorem spl1_app {s : Nat} : ∀ {p r acc : List Nat}, s ∉ p → TL.spl [s] 0 acc (p ++ s :: r) = (acc ++ p) :: TL.spl [s] 0 [] r
  | [], r, acc, _ => by
    rw [List.nil_append, spl1_cons, if_pos rfl, List.append_nil]
  | c :: p, r, acc, h => by
    have hc : ¬ c = s := fun z => h (by rw [z]; exact List.mem_cons_self)
    rw [List.cons_append, spl1_cons, if_neg hc, spl1_app fun z => h (List.mem_cons_of_mem _ z), List.append_assoc]; rfl
theorem spl1_one {s : Nat} {w : List Nat} : ∀ {l acc : List Nat}, TL.spl [s] 0 acc l = [w] → w = acc ++ l
  | [], acc, h => by
    rw [TL.spl_nil] at h
    rw [List.append_nil]; exact (List.head_eq_of_cons_eq h).symm
  | c :: r, acc, h => by
    rw [spl1_cons] at h
    split at h
    · exact absurd (List.tail_eq_of_cons_eq h) (spl1_ne _ _ _)
    · have := spl1_one h
      rw [this, List.append_assoc]; rfl
theorem spl1_has {s : Nat} : ∀ {l acc : List Nat}, s ∈ l → (TL.spl [s] 0 acc l).length ≠ 1
  | c :: r, acc, h => by
    rw [spl1_cons]
    split
    · have := spl1_ne s r []
      intro z
      cases hz : TL.spl [s] 0 [] r with
      | nil => exact this hz
      | cons a b => rw [hz] at z; simp at z
    · rename_i hc
      rcases List.mem_cons.mp h with e | h
      · exact absurd e.symm hc
      · exact spl1_has h
theorem txt_no {d : PyData} (h : Dt 3 d) : txtT (tokV 3 d) ≠ [40, 49] := by
  intro e
  cases h with
  | rat h1 h2 h3 =>
    rw [tokV_rat h1] at e
    unfold ratT at e
    have hd : ∀ (k : Nat) (r : List (List Nat)), (txtT (TL.numL k :: r)).head? ≠ some 40 := fun k r z => by
      have : (TL.numL k ++ ((if TL.numL k = [44] ∧ r.head? ≠ some [41] then [32] else []) ++ txtT r)).head? = some 40 := z
      cases hk : TL.numL k with
      | nil => exact TL.numL_ne k hk
      | cons a b =>
        rw [hk] at this
        cases this
        exact absurd (numL_fig (n := k) (by rw [hk]; exact List.mem_cons_self)) (by decide)
    split at e
    · have := congrArg List.head? e
      cases this
    · rw [List.nil_append] at e
      split at e
      · exact hd _ _ (by rw [e]; rfl)
      · exact hd _ _ (by rw [e]; rfl)
  | @tup n ds h1 h2 h3 =>
    have m : [41] ∈ tokV 3 (.tuple ds) := by
      rw [tokV_tup h1]
      exact List.mem_cons_of_mem _ (List.mem_append_right _ (List.mem_append_right _ List.mem_cons_self))
    have t := txt_mem (t := [41]) (c := 41) List.mem_cons_self m
    rw [e] at t
    exact absurd t (by decide)
/-! ### the wrong tokens' places -/
theorem nm_no {i : Nat} (hi : i < 15) {s : Nat} (hs : s ∉ letL) : s ∉ nmi i := fun z => hs ((nm_ltr i hi).2 s z)
theorem place_name {i : Nat} (hi : i < 15) : placeL (nmi i) = 2 := by
  unfold placeL
  have h : TL.spl [32] 0 [] (nmi i) = [[] ++ nmi i] := TL.spl_last1 (nm_no hi (by decide))
  rw [h]
  exact if_pos rfl
theorem spl_line {i : Nat} (hi : i < 15) {X : List Nat} : TL.spl [32] 0 [] (nmi i ++ 32 :: X) = nmi i :: TL.spl [32] 0 [] X := by
  rw [spl1_app (nm_no hi (by decide)), List.nil_append]
theorem place_one {i : Nat} (hi : i < 15) : placeL (nmi i ++ [32, 40, 49, 41]) = 4 := by
  unfold placeL
  rw [show nmi i ++ [32, 40, 49, 41] = nmi i ++ 32 :: [40, 49, 41] from rfl, spl_line hi]
  have e : TL.spl [32] 0 [] [40, 49, 41] = [[40, 49, 41]] := by decide
  rw [e]
  exact (if_neg (by simp)).trans (if_pos rfl)
theorem place_line {i : Nat} (hi : i < 15) {d : PyData} {suf : List Nat} (h : TL.spl [32] 0 [] (txtT (tokV 3 d) ++ suf) ≠ [[40, 49, 41]]) : placeL (lineS i d suf) = cntU (lineS i d suf) (lineS i d suf).length := by
  unfold placeL
  have e : TL.spl [32] 0 [] (lineS i d suf) = nmi i :: TL.spl [32] 0 [] (txtT (tokV 3 d) ++ suf) := spl_line hi
  rw [e]
  refine (if_neg fun z => ?_).trans (if_neg h)
  have := spl1_ne 32 (txtT (tokV 3 d) ++ suf) []
  cases hz : TL.spl [32] 0 [] (txtT (tokV 3 d) ++ suf) with
  | nil => exact this hz
  | cons a b => rw [hz] at z; simp at z
theorem place_1 {i : Nat} (hi : i < 15) {d : PyData} (h : Dt 3 d) : placeL (lineS i d [32, 49]) = 2 + (tokV 3 d).length := by
  rw [place_line hi fun z => spl1_has (s := 32) (l := txtT (tokV 3 d) ++ [32, 49]) (acc := []) (List.mem_append_right _ List.mem_cons_self) (by rw [z]; rfl)]
  obtain ⟨q, hq⟩ := cnt_line hi h (suf := [32, 49])
  rw [hq, cntB_blank]
  show 1 + (_ + 1) = _
  omega
theorem place_b {i : Nat} (hi : i < 15) {d : PyData} (h : Dt 3 d) : placeL (lineS i d [41]) = 2 + (tokV 3 d).length := by
  rw [place_line hi fun z => ?_]
  · obtain ⟨q, hq⟩ := cnt_line hi h (suf := [41])
    rw [hq, cntB_sym (by decide)]
    show 1 + (_ + (1 + 0)) = _
    omega
  · have e := spl1_one z
    rw [List.nil_append] at e
    have e2 : [40, 49] ++ [41] = txtT (tokV 3 d) ++ [41] := e
    exact txt_no h (List.append_cancel_right e2).symm
/-! ### what comes of a line -/
theorem pv_line {i : Nat} {d : PyData} (h : Dt 3 d) {us : List (List Nat)} (hu : us.head? ≠ some [47]) : PV (nmi i :: (tokV 3 d ++ us)) 20 1 (.ok (1 + (tokV 3 d).length) d) := h.pv (by decide) 1 us rfl hu
theorem lnr_ok {i : Nat} {d : PyData} (h : Dt 3 d) : LnR 20 (nmi i) (nmi i :: (tokV 3 d ++ [])) (.ok (1 + (tokV 3 d).length) d) := by
  refine .inr ⟨_, rfl, pv_line h (by simp), ?_⟩
  exact (if_pos (by simp; omega)).symm
theorem lnr_more {i : Nat} {d : PyData} (h : Dt 3 d) {u : List Nat} (hu : u ≠ [47]) : LnR 20 (nmi i) (nmi i :: (tokV 3 d ++ [u])) (.err (1 + (tokV 3 d).length)) := by
  refine .inr ⟨_, rfl, pv_line h (fun z => hu (Option.some.inj z)), ?_⟩
  exact (if_neg (by simp; omega)).symm
end FP
set_option maxHeartbeats 4000000
/-! the plain law of the books: the read texts -/
namespace FP
open PySem PySem.Spec PyProof.Rows L2
theorem nm_ne : ∀ i, i < 15 → nmi i ≠ [120] ∧ [120] ≠ nmi i := by
  intro i hi
  match i, hi with
  | 0, _ | 1, _ | 2, _ | 3, _ | 4, _ | 5, _ | 6, _ | 7, _ | 8, _ | 9, _ | 10, _ | 11, _ | 12, _ | 13, _ | 14, _ => decide
  | _ + 15, h => omega
theorem lnr_name {i : Nat} : LnR 20 (nmi i) [nmi i] (.err 1) := .inr ⟨.err 1, rfl, .inl ⟨(show ([] : List Nat) ≠ [40] by decide), rfl⟩, rfl⟩
theorem lnr_one {i : Nat} : LnR 20 (nmi i) [nmi i, [40], [49], [41]] (.err 3) := by
  refine .inr ⟨.err 3, rfl, .inr ⟨rfl, .inr ⟨(show ([49] : List Nat) ≠ [41] by decide), .inr ⟨3, .int 1, .inl ⟨(show ([49] : List Nat) ≠ [40] by decide), ?_⟩, .inl ⟨(show ([41] : List Nat) ≠ [44] by decide), rfl⟩⟩⟩⟩, rfl⟩
  rfl
theorem lnr_s {i : Nat} : LnR 20 (nmi i) [nmi i ++ [115], [49]] (.err 0) := by
  refine .inl ⟨fun z => ?_, rfl⟩
  have := congrArg List.length (Option.some.inj z)
  rw [List.length_append] at this
  simp at this
theorem lnr_x {i : Nat} (hi : i < 15) : LnR 20 (nmi i) [[120]] (.err 0) := .inl ⟨fun z => (nm_ne i hi).2 (Option.some.inj z), rfl⟩
theorem lnr_e {i : Nat} (hi : i < 15) : LnR 20 (nmi i) [] (.err 0) := .inl ⟨fun z => (nomatch z), rfl⟩
def bentL (i : Nat) (d : PyData) : List (List Nat) := [lineS i d [32, 49], lineS i d [41], nmi i, nmi i ++ [115, 32, 49], nmi i ++ [32, 40, 49, 41], [120]]
structure Bent (i : Nat) (b : List Nat) : Prop where
  ex : ∃ ts e, Toks b ts ∧ (∀ u, u ∈ ts → Cps u) ∧ LnR 20 (nmi i) ts (.err e) ∧ ((b = [120] ∨ b.take ((nmi i).length + 1) = nmi i ++ [115]) → e = 0) ∧ (¬ (b = [120] ∨ b.take ((nmi i).length + 1) = nmi i ++ [115]) → placeL b = e + 1)
  len : b.length ≤ 20020
  asc : ∀ c, c ∈ b → c < 128 ∧ c ≠ 10
theorem take_nm (i : Nat) (c : Nat) (X : List Nat) : (nmi i ++ c :: X).take ((nmi i).length + 1) = nmi i ++ [c] := by
  rw [List.take_append, List.take_of_length_le (by omega), Nat.add_sub_cancel_left]; rfl
theorem not_bent {i : Nat} (hi : i < 15) {c : Nat} (hc : c ≠ 115) (X : List Nat) : ¬ (nmi i ++ c :: X = [120] ∨ (nmi i ++ c :: X).take ((nmi i).length + 1) = nmi i ++ [115]) := by
  rintro (z | z)
  · have := congrArg List.length z
    have h0 := List.length_pos_iff.mpr (nm_ltr i hi).1
    simp at this
    omega
  · rw [take_nm] at z
    have := List.append_cancel_left z
    cases this
    exact hc rfl
theorem not_name {i : Nat} (hi : i < 15) : ¬ (nmi i = [120] ∨ (nmi i).take ((nmi i).length + 1) = nmi i ++ [115]) := by
  rintro (z | z)
  · exact (nm_ne i hi).1 z
  · have := congrArg List.length z
    rw [List.length_take, List.length_append] at this
    simp at this
theorem one_tok : Toks [49] [[49]] := .fig (w := []) (by decide) (fun _ h => nomatch h) .nil
theorem cps_ts {i : Nat} (hi : i < 15) {d : PyData} (h : Dt 3 d) {us : List (List Nat)} (hu : ∀ u, u ∈ us → Cps u) : ∀ u, u ∈ nmi i :: (tokV 3 d ++ us) → Cps u := fun u m => by
  rcases List.mem_cons.mp m with rfl | m
  · exact nm_cps hi
  · rcases List.mem_append.mp m with m | m
    · exact h.cps u m
    · exact hu u m
theorem nm_asc {i : Nat} (hi : i < 15) {X : List Nat} (hX : ∀ c, c ∈ X → c < 128 ∧ c ≠ 10) : ∀ c, c ∈ nmi i ++ X → c < 128 ∧ c ≠ 10 := fun c hc => by
  rcases List.mem_append.mp hc with hc | hc
  · exact ⟨(ltr_asc c ((nm_ltr i hi).2 c hc)).1, (ltr_asc c ((nm_ltr i hi).2 c hc)).2.1⟩
  · exact hX c hc
theorem bent_all {i : Nat} (hi : i < 15) {d : PyData} (h : Dt 3 d) {j : Nat} {b : List Nat} (hj : (bentL i d)[j]? = some b) : Bent i b := by
  have ln := nmi_len (i := i)
  match j, hj with
  | 0, e =>
    cases e
    exact ⟨⟨_, _, lineS_toks hi h (.sp one_tok) (fun x hx => by cases hx; decide), cps_ts hi h (by simp [Cps]), lnr_more h (by decide), fun z => absurd z (not_bent hi (by decide) _), fun _ => by rw [place_1 hi h]; omega⟩, Nat.le_trans (lineS_len h (by decide)) (by decide), lineS_asc hi h (by decide)⟩
  | 1, e =>
    cases e
    exact ⟨⟨_, _, lineS_toks hi h (.one (by decide) (by decide) (by decide) .nil) (fun x hx => by cases hx; decide), cps_ts hi h (by simp [Cps]), lnr_more h (by decide), fun z => absurd z (not_bent hi (by decide) _), fun _ => by rw [place_b hi h]; omega⟩, Nat.le_trans (lineS_len h (by decide)) (by decide), lineS_asc hi h (by decide)⟩
  | 2, e =>
    cases e
    refine ⟨⟨[nmi i], 1, ?_, fun u m => by rw [List.mem_singleton.mp m]; exact nm_cps hi, lnr_name, fun z => absurd z (not_name hi), fun _ => place_name hi⟩, by omega, ?_⟩
    · have := nm_toks hi (r := []) .nil (fun x hx => nomatch hx)
      rw [List.append_nil] at this
      exact this
    · have := nm_asc hi (X := []) (fun c hc => nomatch hc)
      rw [List.append_nil] at this
      exact this
  | 3, e =>
    cases e
    refine ⟨⟨[nmi i ++ [115], [49]], 0, ?_, ?_, lnr_s, fun _ => rfl, fun z => absurd (.inr (take_nm i 115 [32, 49])) z⟩, by simp; omega, nm_asc hi (by decide)⟩
    · rw [show nmi i ++ [115, 32, 49] = (nmi i ++ [115]) ++ [32, 49] by rw [List.append_assoc]; rfl]
      refine .add (.inr (.inr ⟨by simp, fun x hx => ?_⟩)) (.sp one_tok) (.inr fun x hx => by cases hx; decide)
      rcases List.mem_append.mp hx with hx | hx
      · exact (nm_ltr i hi).2 x hx
      · rw [List.mem_singleton.mp hx]; decide
    · intro u m
      simp only [List.mem_cons, List.not_mem_nil, or_false] at m
      rcases m with rfl | rfl
      · intro c hc
        rcases List.mem_append.mp hc with hc | hc
        · exact nm_cps hi c hc
        · rw [List.mem_singleton.mp hc]; decide
      · exact one_cps (by decide)
  | 4, e =>
    cases e
    refine ⟨⟨[nmi i, [40], [49], [41]], 3, ?_, ?_, lnr_one, fun z => absurd z (not_bent hi (c := 32) (by decide) _), fun _ => place_one hi⟩, by simp; omega, nm_asc hi (by decide)⟩
    · exact nm_toks hi (r := [32, 40, 49, 41]) (.sp (.one (by decide) (by decide) (by decide) (.fig (w := []) (r := [41]) (by decide) (fun x hx => by cases hx; decide) (.one (by decide) (by decide) (by decide) .nil)))) fun x hx => by cases hx; decide
    · intro u m
      simp only [List.mem_cons, List.not_mem_nil, or_false] at m
      rcases m with rfl | rfl | rfl | rfl
      · exact nm_cps hi
      · exact one_cps (by decide)
      · exact one_cps (by decide)
      · exact one_cps (by decide)
  | 5, e =>
    cases e
    exact ⟨⟨[[120]], 0, .ltr (w := []) (by decide) (fun _ h => nomatch h) .nil, fun u m => by rw [List.mem_singleton.mp m]; exact one_cps (by decide), lnr_x hi, fun _ => rfl, fun z => absurd (.inl rfl) z⟩, by decide, by decide⟩
  | _ + 6, e => cases e
end FP
set_option maxHeartbeats 4000000
/-! the plain law of the books: what comes of whole texts -/
namespace FP
open PySem PySem.Spec PyProof.Rows L2
theorem joinL_le (S : List Nat) : ∀ (ps : List (List Nat)), (TL.joinL S ps).length ≤ (ps.map (·.length)).sum + ps.length * S.length
  | [] => Nat.zero_le _
  | [p] => by show p.length ≤ (p.length + 0) + 1 * S.length; omega
  | p :: q :: r => by
    have ih := joinL_le S (q :: r)
    have e : (TL.joinL S (p :: q :: r)).length = p.length + (S.length + (TL.joinL S (q :: r)).length) := by
      show (p ++ (S ++ TL.joinL S (q :: r))).length = _
      rw [List.length_append, List.length_append]
    rw [e]
    show _ ≤ (p.length + ((q :: r).map (·.length)).sum) + ((q :: r).length + 1) * S.length
    rw [Nat.succ_mul]
    omega
theorem join_snoc (S : List Nat) : ∀ {Ls : List (List Nat)}, Ls ≠ [] → TL.joinL S Ls ++ S = TL.joinL S (Ls ++ [[]])
  | [], h => absurd rfl h
  | [p], _ => by show p ++ S = p ++ (S ++ []); rw [List.append_nil]
  | p :: q :: r, _ => by
    have ih := join_snoc S (Ls := q :: r) (by simp)
    show (p ++ (S ++ TL.joinL S (q :: r))) ++ S = p ++ (S ++ TL.joinL S ((q :: r) ++ [[]]))
    rw [← ih, List.append_assoc, List.append_assoc]
section
variable {d : Nat → PyData}
theorem lines_get {i : Nat} (h : i < 15) (hd : ∀ i, i < 15 → Dt 3 (d i)) : (linesL 4 d)[i]? = some (lineS i (d i) []) := by
  unfold linesL
  rw [List.getElem?_map, List.getElem?_range h, ← lineL_eq (hd i h)]; rfl
theorem lines_len : (linesL 4 d).length = 15 := by unfold linesL; rw [List.length_map, List.length_range]
theorem lines_end : (linesL 4 d).drop 15 = [] := List.drop_eq_nil_of_le (by rw [lines_len]; exact Nat.le_refl _)
theorem take_end (m : Nat) : ((linesL 4 d).take m).drop m = [] := List.drop_eq_nil_of_le (by rw [List.length_take]; omega)
theorem line_at {i : Nat} (h : i < 15) (hd : ∀ i, i < 15 → Dt 3 (d i)) {rest : List (List Nat)} {r : BRes} {acc : List PyData} (q : BR 20 (nmc.drop (i + 1)) (i + 1) rest (acc ++ [d i]) r) : BR 20 (nmc.drop i) i (lineS i (d i) [] :: rest) acc r := by
  rw [nm_drop h]
  refine ⟨_, _, lineS_toks h (hd i h) .nil (fun x hx => nomatch hx), cps_ts h (hd i h) (fun u m => nomatch m), lnr_ok (hd i h), .inr ⟨_, _, rfl, q⟩⟩
theorem line_bad {i : Nat} (h : i < 15) {b : List Nat} {ts : List (List Nat)} {e : Nat} (h1 : Toks b ts) (h2 : ∀ u, u ∈ ts → Cps u) (h3 : LnR 20 (nmi i) ts (.err e)) {rest : List (List Nat)} {acc : List PyData} : BR 20 (nmc.drop i) i (b :: rest) acc (.err i e) := by
  rw [nm_drop h]
  exact ⟨_, _, h1, h2, h3, .inl ⟨e, rfl, rfl⟩⟩
theorem br_run (hd : ∀ i, i < 15 → Dt 3 (d i)) {Ls : List (List Nat)} {r : BRes} : ∀ k, k ≤ 15 → (∀ i, i < k → Ls[i]? = some (lineS i (d i) [])) → BR 20 (nmc.drop k) k (Ls.drop k) ((List.range k).map d) r → BR 20 nmc 0 Ls [] r
  | 0, _, _, q => q
  | k + 1, hk, hl, q => by
    refine br_run hd k (by omega) (fun i hi => hl i (by omega)) ?_
    have e := hl k (by omega)
    have hlt : k < Ls.length := (List.getElem?_eq_some_iff.mp e).1
    rw [List.drop_eq_getElem_cons hlt, show Ls[k] = lineS k (d k) [] from (List.getElem?_eq_some_iff.mp e).2]
    refine line_at (by omega) hd ?_
    rw [List.range_succ, List.map_append] at q
    exact q
theorem range_dl : (List.range 15).map d = dl d := rfl
theorem br_all (hd : ∀ i, i < 15 → Dt 3 (d i)) : BR 20 nmc 0 (linesL 4 d) [] (.ok (dl d)) := by
  refine br_run hd 15 (Nat.le_refl _) (fun i hi => lines_get hi hd) ?_
  rw [lines_end, range_dl]
  exact .inl ⟨rfl, rfl⟩
theorem br_nl (hd : ∀ i, i < 15 → Dt 3 (d i)) : BR 20 nmc 0 (linesL 4 d ++ [[]]) [] (.err 15 0) := by
  refine br_run hd 15 (Nat.le_refl _) (fun i hi => ?_) ?_
  · rw [List.getElem?_append_left (by rw [lines_len]; exact hi)]
    exact lines_get hi hd
  · rw [List.drop_append, lines_end, lines_len, List.nil_append]
    exact .inr ⟨by simp, rfl⟩
theorem br_none {r : BRes} (h : r = .err 0 0) : BR 20 nmc 0 [[]] [] r := by
  rw [h]
  exact line_bad (i := 0) (by decide) .nil (fun u m => nomatch m) (lnr_e (by decide))
theorem br_take (hd : ∀ i, i < 15 → Dt 3 (d i)) {m : Nat} (h0 : m < 15) : BR 20 nmc 0 ((linesL 4 d).take m) [] (.err m 0) := by
  refine br_run hd m (by omega) (fun i hi => ?_) ?_
  · rw [List.getElem?_take_of_lt hi]
    exact lines_get (by omega) hd
  · rw [take_end, nm_drop h0]
    exact rfl
def subst1 (Ls : List (List Nat)) (i : Nat) (b : List Nat) : List (List Nat) := (Ls.take i ++ [b]) ++ Ls.drop (i + 1)
theorem br_at (hd : ∀ i, i < 15 → Dt 3 (d i)) {i : Nat} (hi : i < 15) {b : List Nat} {ts : List (List Nat)} {e : Nat} (h1 : Toks b ts) (h2 : ∀ u, u ∈ ts → Cps u) (h3 : LnR 20 (nmi i) ts (.err e)) : BR 20 nmc 0 (subst1 (linesL 4 d) i b) [] (.err i e) := by
  have hl : ((linesL 4 d).take i).length = i := by rw [List.length_take, lines_len]; omega
  refine br_run hd i (by omega) (fun j hj => ?_) ?_
  · unfold subst1
    rw [List.append_assoc, List.getElem?_append_left (by omega), List.getElem?_take_of_lt hj]
    exact lines_get (by omega) hd
  · unfold subst1
    rw [List.append_assoc, List.drop_append, hl, take_end, Nat.sub_self, List.nil_append, List.drop_zero]
    exact line_bad hi h1 h2 h3
/-! ### the texts -/
structure Txt15 (Ls : List (List Nat)) : Prop where
  ne : Ls ≠ []
  few : Ls.length ≤ 16
  each : ∀ l, l ∈ Ls → l.length ≤ 20020 ∧ 10 ∉ l
theorem Txt15.len {Ls : List (List Nat)} (h : Txt15 Ls) : (TL.joinL [10] Ls).length ≤ 900000 := by
  have h1 := joinL_le [10] Ls
  have h2 := sum_le (M := 20020) fun t ht => (h.each t ht).1
  have h3 := h.few
  have l1 : ([10] : List Nat).length = 1 := rfl
  rw [l1] at h1
  omega
theorem Txt15.spl {Ls : List (List Nat)} (h : Txt15 Ls) : TL.spl [10] 0 [] (TL.joinL [10] Ls) = Ls := TL.spl_join h.ne fun p hp => (h.each p hp).2
theorem line_ok (hd : ∀ i, i < 15 → Dt 3 (d i)) : ∀ l, l ∈ linesL 4 d → l.length ≤ 20020 ∧ 10 ∉ l := fun l hl => by
  unfold linesL at hl
  obtain ⟨i, hi, rfl⟩ := List.mem_map.mp hl
  have hi := List.mem_range.mp hi
  rw [lineL_eq (hd i hi)]
  exact ⟨Nat.le_trans (lineS_len (hd i hi) (by decide)) (by decide), fun z => (lineS_asc hi (hd i hi) (suf := []) (fun c hc => nomatch hc) 10 z).2 rfl⟩
theorem txt_all (hd : ∀ i, i < 15 → Dt 3 (d i)) : Txt15 (linesL 4 d) := ⟨fun z => absurd (lines_len (d := d)) (by rw [z]; decide), by rw [lines_len]; decide, line_ok hd⟩
theorem txt_nl (hd : ∀ i, i < 15 → Dt 3 (d i)) : Txt15 (linesL 4 d ++ [[]]) := ⟨by simp, by rw [List.length_append, lines_len]; decide, fun l hl => by
  rcases List.mem_append.mp hl with hl | hl
  · exact line_ok hd l hl
  · rw [List.mem_singleton.mp hl]; exact ⟨Nat.zero_le _, by simp⟩⟩
theorem txt_none : Txt15 [[]] := ⟨by simp, by decide, fun l hl => by rw [List.mem_singleton.mp hl]; exact ⟨Nat.zero_le _, by simp⟩⟩
theorem txt_take (hd : ∀ i, i < 15 → Dt 3 (d i)) {m : Nat} (h0 : 0 < m) (h1 : m ≤ 15) : Txt15 ((linesL 4 d).take m) := by
  have e : ((linesL 4 d).take m).length = m := by rw [List.length_take, lines_len]; omega
  refine ⟨fun z => ?_, by omega, fun l hl => line_ok hd l (List.mem_of_mem_take hl)⟩
  rw [z] at e
  exact absurd e.symm (Nat.ne_of_gt h0)
theorem txt_sub (hd : ∀ i, i < 15 → Dt 3 (d i)) {i : Nat} (hi : i < 15) {b : List Nat} (hb : b.length ≤ 20020) (hn : 10 ∉ b) : Txt15 (subst1 (linesL 4 d) i b) := by
  refine ⟨?_, ?_, fun l hl => ?_⟩
  · unfold subst1; simp
  · unfold subst1
    simp only [List.length_append, List.length_take, List.length_drop, List.length_cons, List.length_nil, lines_len]; omega
  · unfold subst1 at hl
    rcases List.mem_append.mp hl with hl | hl
    · rcases List.mem_append.mp hl with hl | hl
      · exact line_ok hd l (List.mem_of_mem_take hl)
      · rw [List.mem_singleton.mp hl]; exact ⟨hb, hn⟩
    · exact line_ok hd l (List.mem_of_mem_drop hl)
end
/-! ### drawn data as such -/
theorem Dt.lay {n : Nat} {d : PyData} (h : Dt n d) : d.canLay0 = true ∧ d.depth ≤ n + 1 := by
  induction h with
  | @rat n d t b h1 h2 h3 =>
    rcases ratio_some h1 with ⟨rfl, _⟩ | ⟨rfl, _⟩
    · exact ⟨rfl, Nat.zero_le _⟩
    · exact ⟨rfl, by show 0 + 1 ≤ _; omega⟩
  | @tup n ds h1 h2 h3 ih =>
    refine ⟨lay_all fun e he => (ih e he).1, ?_⟩
    have := depth_all (ds := ds) (k := n + 1) fun e he => (ih e he).2
    show PyData.depthAll ds + 1 ≤ _
    omega
/-- list(one) of a drawn tuple that is no ratio -/
def lstD (d : PyData) : PyData := match ratioOf d, d with
  | none, .tuple ds => .list ds
  | _, d => d
theorem lstD_rat {d : PyData} {t b : Int} (h : ratioOf d = some (t, b)) : lstD d = d := by
  unfold lstD; rw [h]
theorem lstD_tup {ds : List PyData} (h : ratioOf (.tuple ds) = none) : lstD (.tuple ds) = .list ds := by
  unfold lstD; rw [h]
theorem asTup_lst {n : Nat} {d : PyData} (h : Dt n d) (nl : Nol d) : asTup 4 (lstD d) = d := by
  cases h with
  | rat h1 h2 h3 => rw [lstD_rat h1]; exact asTup_of nl
  | tup h1 h2 h3 =>
    rw [lstD_tup h1]
    have := asTup_of (n := 4) nl
    exact this
theorem fine_lst {d : PyData} (h : Dt 3 d) : fine 4 (lstD d) := by
  cases h with
  | rat h1 h2 h3 => rw [lstD_rat h1]; exact (Dt.rat h1 h2 h3 : Dt 3 _).fine
  | tup h1 h2 h3 =>
    rw [lstD_tup h1]
    exact .inr ⟨_, .inl rfl, by omega, fun e he => (h3 e he).fine⟩
end FP
set_option maxHeartbeats 1000000
namespace FP
open PySem PySem.Spec PyProof.Rows L2
local macro_rules | `(tactic| walk_at "rd") => `(tactic| dsimp only [tVar, tC, tCmp, tIsN, tNotN, tB, tAnd, tOr, tNot, tAndV, tOrV, tNotV, tIf, tNext, tSeq, tBreak, tCont, tDrop, tRet, tRetN, tIfS, tNever, tAsg, tPar, tAug, tOp, tUn, tTest, tChain, tFld, tNil, tCons, tTup, tLst, tCB, iList, iTup, iStr, tLc, tM0, tM1, tPart, tNoPart, tSl, tBM, tCallS, tCallSD, tMethW, tMake, sDPut, tDisp, tPairs, tXf, WE, tDGet, tDIn, gName, gLst, tDNewK, gTup, gCons, gNil, gSub, sFld, sFldAug, rI, rI0, rU, rEq, rNe, rAdd, rSub, t2I, tYes, cx_K, cx_w, cx_prog])
local macro_rules | `(tactic| walk_at "rs") => `(tactic| (try simp (maxSteps := 4000000) only [L2.start, List.map_cons, List.map_nil, List.length_cons, List.length_nil, List.cons_append, List.nil_append, Nat.reduceAdd, Nat.reduceSub, Nat.zero_add, List.replicate, List.getElem?_cons_zero, List.getElem?_cons_succ, Option.some.injEq, exists_eq_left', exists_eq_left, V.int.injEq, V.str.injEq, V.bl.injEq, V.ref.injEq, List.set_cons_zero, List.set_cons_succ, exists_and_left, List.cons.injEq, and_true, true_and, wipe, if_true, if_false, Bool.not_true, Bool.not_false, Bool.false_eq_true, decide_true, decide_false]))
local macro_rules | `(tactic| walk_at "r") => `(tactic| (walk_at "rd"; walk_at "rs"))
local macro_rules | `(tactic| walk_at "T") => `(tactic| (rw [if_pos (by first | assumption | rfl | decide | exact decide_eq_true (by assumption) | (simp [tyOf]; done) | (simp; omega) | omega)]; walk_at "rs"))
local macro_rules | `(tactic| walk_at "F") => `(tactic| (rw [if_neg (by first | assumption | decide | (simp [tyOf]; done) | (simp; omega) | (simp; assumption) | omega)]; walk_at "rs"))
open LamX
/-! ### _law_right: its end -/
def rLstOf (K : PySem.W.Frag) : List V → Hp → VK → Prop := fun xs H Q => ∃ p ys, xs = [.ref p] ∧ (SqL K H p ys ∨ SqT K H p ys) ∧ ∀ l, H l = none → Q (.ref l) (upd H l (.lst ys))
theorem cutS_take (l : List Nat) (k : Nat) : cutS (SX.S l) none (some ((k : Nat) : Int)) = SX.S (l.take k) := by
  unfold cutS
  rw [HT.sIx_none, HT.sIx_nat]
  show (⟨((l.drop 0).take (min k (SX.S l).length - 0)).toArray⟩ : Str) = ⟨(l.take k).toArray⟩
  rw [S_len, List.drop_zero, Nat.sub_zero]
  by_cases h : k ≤ l.length
  · rw [Nat.min_eq_left h]
  · rw [Nat.min_eq_right (by omega), List.take_of_length_le (Nat.le_refl _), List.take_of_length_le (by omega)]
theorem spl_ix {K : PySem.W.Frag} {H : Hp} {L nm : List Nat} {rest : List (List Nat)} {Q : VK} (hs : TL.spl [32] 0 [] L = nm :: rest) (q : ∀ H', Same H H' → Q (strV nm) H') : rNewStrs (Txt.split (SX.S L) (Str.ofString " ")) H fun x H1 => rIxL K x (.int 0) H1 Q := by
  rw [show Str.ofString " " = SX.S [32] from rfl, SX.split_S (by simp) (by decide)]
  intro p np
  refine ixL (.inl (.inl upd_same)) (atI_nat (j := 0) (by rw [hs]; rfl)) (q _ (same_new np _))
theorem eqv_3 (x : Str) (i j : Int) : PyData.eqv (.tuple [.str x, .int i, .int j]) (.tuple [.str x, .int i, .int j]) = true := by
  simp [PyData.eqv, PyData.eqvAll]
theorem shaped_3 {x : Str} (h : (PyData.str x).canLay0 = true) (i j : Int) : SeqAt.shaped (.tuple [.str x, .int i, .int j]) = true := shapedT (k := 0) (fun d hd => by
  simp only [List.mem_cons, List.not_mem_nil, or_false] at hd
  rcases hd with rfl | rfl | rfl
  · exact ⟨h, Nat.le_refl 0⟩
  · exact ⟨rfl, Nat.le_refl 0⟩
  · exact ⟨rfl, Nat.le_refl 0⟩) (by decide)
theorem due_dp {K : PySem.W.Frag} {H : Hp} {t : Addr} {x : Str} {i j : Int} (h : SqT K H t [.str x, .int i, .int j]) : Dp K H (.ref t) (.tuple [.str x, .int i, .int j]) := .tup h (.cons (.str x) (.cons (.int i) (.cons (.int j) .nil)))
/-- the joining of the lines in a list -/
theorem jn0 {K : PySem.W.Frag} {H : Hp} {x : Addr} {Ls : List (List Nat)} {R : V → Hp → Prop} (h : H x = some (.lst (Ls.map strV))) (tx : Ls.length ≤ 16) (each : ∀ l, l ∈ Ls → l.length ≤ 20020) (q : R (strV (TL.joinL [10] Ls)) H) : ∃ x_1 : List Str, (SqL K H x (x_1.map V.str) ∨ SqT K H x (x_1.map V.str)) ∧ (x_1.map fun x => x.length).sum + x_1.length * (Str.ofString "\n").length ≤ 16777216 ∧ R (.str (Txt.join (Str.ofString "\n") x_1)) H := by
  refine ⟨Ls.map SX.S, .inl (.inl (.inl (by rw [List.map_map]; exact h))), ?_, ?_⟩
  · rw [SX.lens, List.length_map]
    have := sum_le (M := 20020) each
    show _ + _ * 1 ≤ _
    omega
  · rw [show (Str.ofString "\n") = SX.S [10] from rfl, SX.join_S]
    exact q
theorem jn {K : PySem.W.Frag} {D2 : Addr} {H : Hp} {Ls : List (List Nat)} {vb : V} {b : List Nat} {i : Nat} {R : V → Hp → Prop} (hD : H D2 = some (.lst (Ls.map strV))) (hvb : vb = strV b) (tx : Txt15 (subst1 Ls i b)) (hl : Ls.length ≤ 16) (q : ∀ H', Same H H' → R (strV (TL.joinL [10] (subst1 Ls i b))) H') :
    rSlL K (.ref D2) none (some ((i : Nat) : Int)) H fun x H1 => 1 ≤ sizeLine ∧ ∀ p_1, H1 p_1 = none → rCat x (.ref p_1) (upd H1 p_1 (.lst [vb])) fun x H1 => rSlL K (.ref D2) (some (((i : Nat) : Int) + 1)) none H1 fun y H2 => rCat x y H2 fun y H2 =>
      ∃ x, y = .ref x ∧ ∃ x_1 : List Str, (SqL K H2 x (x_1.map V.str) ∨ SqT K H2 x (x_1.map V.str)) ∧ (x_1.map fun x => x.length).sum + x_1.length * (Str.ofString "\n").length ≤ 16777216 ∧ R (.str (Txt.join (Str.ofString "\n") x_1)) H2 := by
  subst hvb
  refine ⟨D2, _, rfl, .inl (.inl hD), fun p1 n1 => ⟨sz (by decide), fun p2 n2 => ?_⟩⟩
  rw [cut_take] at n2 ⊢
  have e1 := same_new n1 (.lst ((Ls.map strV).take i))
  have e2 := same_new n2 (.lst [strV b])
  refine ⟨p1, p2, _, _, rfl, rfl, e2 _ _ upd_same, upd_same, szL (by simp; omega), fun p3 n3 => ?_⟩
  have e3 := same_new n3 (.lst ((Ls.map strV).take i ++ [strV b]))
  refine ⟨D2, _, rfl, .inl (.inl (e3 _ _ (e2 _ _ (e1 _ _ hD)))), fun p4 n4 => ?_⟩
  rw [show ((i : Nat) : Int) + 1 = ((i + 1 : Nat) : Int) by omega, cut_drop]
  have e4 := same_new n4 (.lst ((Ls.map strV).drop (i + 1)))
  refine ⟨p3, p4, (Ls.map strV).take i ++ [strV b], (Ls.map strV).drop (i + 1), rfl, rfl, e4 _ _ upd_same, upd_same, sz (by rw [List.length_append, List.length_take, List.length_drop, List.length_map]; show _ + 1 + _ ≤ _; omega), fun p5 n5 => ?_⟩
  have e5 := same_new n5 (.lst ((Ls.map strV).take i ++ [strV b] ++ (Ls.map strV).drop (i + 1)))
  have es : (Ls.map strV).take i ++ [strV b] ++ (Ls.map strV).drop (i + 1) = (subst1 Ls i b).map strV := by
    unfold subst1
    rw [List.map_append, List.map_append, List.map_take, List.map_drop]; rfl
  refine ⟨p5, rfl, jn0 (Ls := subst1 Ls i b) (by rw [← es]; exact upd_same) tx.few (fun l hl => (tx.each l hl).1) (q _ ((((e1.trans e2).trans e3).trans e4).trans e5))⟩
section
variable {P : Program} {w : World} {K : PySem.W.Frag} {mg : Str → Option Value} {base : Heap} {f c : Addr} {fd : FuncData} {C CT CR CW : Addr} {T : List (Addr × Str)}
def NR : List Str := ["pen", "values", "lap", "book", "lines", "name", "value", "text", "one", "at", "many", "told", "bent", "due"]
theorem right_C (Z : Zb mg) {A : Around} {outer : List Env} {s : Shared} {H : Hp} {E : XK} (hg : A.guards = some []) (hr : Room 32 (A.deeper (envOfC "_law_right" (C8.fnScope s_law_right) s.heap.objs.size f (.ref c))))
    (c_law_names : CalX P w K mg base 1 "_law_names" sp_law_names) (c_law_pick : CalX P w K mg base 2 "_law_pick" (sp_law_pick K)) (c_law_place : CalX P w K mg base 2 "_law_place" (sp_law_place K)) (c_law_read_fault : CalG P w K mg base 32 "_law_read_fault" (sp_law_read_fault K T 20 4)) :
    ∃ t, PSs (cxOf (L2N.CX P w) P w K mg base NR "_law_right" (C8.fnScope s_law_right) f (.ref c) A outer s H E) ((C8.fnBody s_law_right).drop 9) t ∧ ∀ (Q : VK) (Hc : Hp) (p : Addr) (tc : Addr × List Int) (D2 : Addr) (d : Nat → PyData) (i : Nat) (o1 o2 o3 o5 o6 o7 o8 o10 o11 o12 o13 : Option V),
      Pen K Hc p tc → Tabs T Hc → Hc D2 = some (.lst ((linesL 4 d).map strV)) → (∀ i, i < 15 → Dt 3 (d i)) → i < 15 → (∀ H', ButN p Hc H' → Pen K H' p tc → Tabs T H' → Q (.bl true) H') →
      t { nx := fun _ H' => Q .non H', rt := Q } [some (.ref p), o1, o2, o3, some (.ref D2), o5, o6, o7, o8, some (.int (i : Nat)), o10, o11, o12, o13] Hc := by
  have nd := sc_law_right.nd
  refine ⟨_, (pss_cons (ps_set (i := 12) nd rfl (Or.inl rfl) (pe_x c_law_pick hr (by(omega)) tk0 rfl (pa_cons (pv 0) (pa_cons (pe_lst (pa_cons (pe_op op_add_str (pe_ix ix_list (pv 4) (pv 9) (fun _ _ => rfl)) pe_str) (pa_cons (pe_op op_add_str (pe_ix ix_list (pv 4) (pv 9) (fun _ _ => rfl)) pe_str) (pa_cons (pe_ix ix_list (pe_split (pe_ix ix_list (pv 4) (pv 9) (fun _ _ => rfl)) pe_str) pe_int (fun _ _ => rfl)) (pa_cons (pe_op op_add_str (pe_ix ix_list (pe_split (pe_ix ix_list (pv 4) (pv 9) (fun _ _ => rfl)) pe_str) pe_int (fun _ _ => rfl)) pe_str) (pa_cons (pe_op op_add_str (pe_ix ix_list (pe_split (pe_ix ix_list (pv 4) (pv 9) (fun _ _ => rfl)) pe_str) pe_int (fun _ _ => rfl)) pe_str) (pa_cons pe_str pa_nil))))))) pa_nil))))
    (pss_cons (ps_set (i := 13) nd rfl (Or.inl rfl) (pe_ifExp (PW.pt (pw_or (pt_cmpR op_eq (pv 12) pe_str (nomark _)) (pw_or1 (pt_cmpR op_eq (pe_slice sl_str (pv 12) po_none (po_some (pe_op op_add (pe_callB call_len rfl Z.len PySem.boot_len (pa_cons (pe_ix ix_list (pe_x0 c_law_names hr (by(omega)) tk0 rfl) (pv 9) (fun _ _ => rfl)) pa_nil)) pe_int))) (pe_op op_add_str (pe_ix ix_list (pe_x0 c_law_names hr (by(omega)) tk0 rfl) (pv 9) (fun _ _ => rfl)) pe_str) (nomark _))))) pe_int (pe_x c_law_place hr (by(omega)) tk0 rfl (pa_cons (pv 12) pa_nil))))
    (pss_one (ps_ret (pe_cmpR (op_eqD (u64 hr)) (pe_xG c_law_read_fault hr (by(omega)) hg tk0 rfl (pa_cons (pe_join pe_str (pe_op op_cat (pe_op op_cat (pe_slice sl_list (pv 4) po_none (po_some (pv 9))) (pe_lst (pa_cons (pv 12) pa_nil))) (pe_slice sl_list (pv 4) (po_some (pe_op op_add (pv 9) pe_int)) po_none))) pa_nil)) (pe_tup (pa_cons pe_str (pa_cons (pe_op op_add (pv 9) pe_int) (pa_cons (pv 13) pa_nil)))) (nomark _)))))), ?_⟩
  intro Q Hc p tc D2 d i o1 o2 o3 o5 o6 o7 o8 o10 o11 o12 o13 pn hT hD2 dt hi q
  walk_at "r"
  have hat : ∀ {H' : Hp} {Q' : VK}, H' D2 = some (.lst ((linesL 4 d).map strV)) → Q' (strV (lineS i (d i) [])) H' → rIxL K (.ref D2) (.int (i : Nat)) H' Q' := fun h q => ixL (.inl (.inl h)) (atI_nat (by rw [List.getElem?_map, lines_get hi dt]; rfl)) q
  have LL : (lineS i (d i) []).length ≤ 20000 := lineS_len (dt i hi) (by decide)
  obtain ⟨rest, hsp⟩ : ∃ rest, TL.spl [32] 0 [] (lineS i (d i) []) = nmi i :: rest := ⟨_, spl_line hi⟩
  have ln := nmi_len (i := i)
  refine hat hD2 ⟨_, rfl, sz (by rw [S_len]; show _ + 2 ≤ _; omega), hat hD2 ⟨_, rfl, sz (by rw [S_len]; show _ + 1 ≤ _; omega), hat hD2 ⟨⟨_, rfl⟩, _, rfl, by decide +kernel, sz (by rw [S_len]; omega), spl_ix hsp fun H1 e1 => ?_⟩⟩⟩
  refine hat (e1 _ _ hD2) ⟨⟨_, rfl⟩, _, rfl, by decide +kernel, sz (by rw [S_len]; omega), spl_ix hsp fun H2 e2 => ⟨_, rfl, sz (by rw [S_len]; show _ + 3 ≤ _; omega), ?_⟩⟩
  refine hat (e2 _ _ (e1 _ _ hD2)) ⟨⟨_, rfl⟩, _, rfl, by decide +kernel, sz (by rw [S_len]; omega), spl_ix hsp fun H3 e3 => ⟨_, rfl, sz (by rw [S_len]; show _ + 4 ≤ _; omega), ?_⟩⟩
  have e13 := (e1.trans e2).trans e3
  refine ⟨sz (by decide), fun q1 m1 => ?_⟩
  have s4 := same_new m1 (.lst ((bentL i (d i)).map strV))
  have e6 : (HO.lst [V.str (SX.S (lineS i (d i) []) ++ Str.ofString " 1"), V.str (SX.S (lineS i (d i) []) ++ Str.ofString ")"), strV (nmi i), V.str (SX.S (nmi i) ++ Str.ofString "s 1"), V.str (SX.S (nmi i) ++ Str.ofString " (1)"), V.str (Str.ofString "x")]) = .lst ((bentL i (d i)).map strV) := by
    rw [show Str.ofString " 1" = SX.S [32, 49] from rfl, show Str.ofString ")" = SX.S [41] from rfl, show Str.ofString "s 1" = SX.S [115, 32, 49] from rfl, show Str.ofString " (1)" = SX.S [32, 40, 49, 41] from rfl, show Str.ofString "x" = SX.S [120] from rfl, S_cat, S_cat, S_cat, S_cat, lineS_app, lineS_app]
    rfl
  rw [e6]
  have pn4 := pn.same (e13.trans s4)
  refine ⟨p, tc, q1, _, rfl, pn4, .inl (.inl upd_same), pn4.ne upd_same, by simp [bentL], by simp [bentL], fun j x H5 hj k5 pn5 => ?_⟩
  obtain ⟨b, hb, rfl⟩ : ∃ b, (bentL i (d i))[j]? = some b ∧ x = strV b := by
    rw [List.getElem?_map] at hj
    cases hz : (bentL i (d i))[j]? with
    | none => rw [hz] at hj; cases hj
    | some b => rw [hz] at hj; cases hj; exact ⟨b, rfl, rfl⟩
  have B := bent_all hi (dt i hi) hb
  have hD5 := k5 _ _ (pn4.ne ((e13.trans s4) _ _ hD2)) ((e13.trans s4) _ _ hD2)
  have k05 : But (· = p) Hc H5 := (Same.but (e13.trans s4)).trans k5
  have hT5 := Tabs.but pn k05 hT
  clear hat hsp rest LL k5 pn4 s4 e6 m1 e13 e1 e2 e3 hD2 hT hj
  obtain ⟨ts, e, tk, cp, lnr, due0, due1⟩ := B.ex
  have tx := txt_sub dt hi B.len (fun z => (B.asc 10 z).2 rfl)
  have br := br_at dt hi tk cp lnr
  have fin : ∀ (H7 : Hp) (du : V) (W : XK), Same H5 H7 → du = .int ((e + 1 : Nat) : Int) → sp_law_read_fault K T 20 4 [strV (TL.joinL [10] (subst1 (linesL 4 d) i b))] H7 (fun x H1 => 3 ≤ sizeLine ∧ ∀ p, H1 p = none → rEqD K x (.ref p) (upd H1 p (.tup [.str (Str.ofString "text"), .int (((i : Nat) : Int) + 1), du])) Q) W := by
    intro H7 du W e7 hdu
    subst hdu
    refine ⟨_, rfl, hT5.ext e7, .inl ⟨_, .err i e, rfl, tx.len, by rw [tx.spl]; exact Nat.le_trans tx.few (by decide), fun l hl => ?_, by rw [tx.spl]; exact br, fun l H8 eN hT8 st => ⟨sz (by decide), fun p6 n6 => ?_⟩⟩⟩
    · rw [tx.spl] at hl
      exact Nat.le_trans (tx.each l hl).1 (by decide)
    · have u6 := same_new n6 (.tup [.str (Str.ofString "text"), .int (((i : Nat) : Int) + 1), .int ((e + 1 : Nat) : Int)])
      rw [show ((i + 1 : Nat) : Int) = ((i : Nat) : Int) + 1 by omega] at st
      refine ⟨_, _, due_dp (SqT.same u6 st), due_dp (.inl (.inl upd_same)), shaped_3 (by decide +kernel) _ _, shaped_3 (by decide +kernel) _ _, ?_⟩
      rw [eqv_3]
      exact q _ ((((ButN.but k05).trans (.same e7)).trans (.ext eN)).trans (.same u6)) (((pn5.same e7).extN eN).same u6) (hT8.ext u6)
  refine ⟨rfl, ?_⟩
  rw [show (V.str (Str.ofString "x")) = strV [120] from rfl, eqSd]
  by_cases hx : b = [120]
  · rw [if_pos (decide_eq_true hx)]
    refine ⟨⟨_, rfl⟩, jn (R := fun v H2 => sp_law_read_fault K T 20 4 [v] H2 _ _) hD5 rfl tx (by rw [lines_len]; decide) fun H7 e7 => fin H7 _ _ e7 (by rw [due0 (.inl hx)]; first | done | rfl)⟩
  rw [if_neg (fun z => hx (of_decide_eq_true z))]
  refine ⟨rfl, fun l1 H6 e6 _ hl1 => ?_⟩
  have nmI : ∀ {H' : Hp} {l1 : Addr} {Q' : VK}, H' l1 = some (.lst (nmc.map strV)) → Q' (strV (nmi i)) H' → rIxL K (.ref l1) (.int (i : Nat)) H' Q' := fun h q => ixL (.inl (.inl h)) (atI_nat (by rw [List.getElem?_map, nmi_get hi]; rfl)) q
  refine nmI hl1 ?_
  refine lenS (by omega) ?_
  refine ⟨_, rfl, sz (by rw [S_len]; have := B.len; omega), ?_⟩
  rw [show (((nmi i).length : Nat) : Int) + 1 = (((nmi i).length + 1 : Nat) : Int) by omega, cutS_take]
  refine ⟨rfl, fun l2 H7 e7 _ hl2 => nmI hl2 ⟨_, rfl, sz (by rw [S_len]; show _ + 1 ≤ _; omega), rfl, ?_⟩⟩
  rw [show Str.ofString "s" = SX.S [115] from rfl, S_cat, eqSd]
  have e67 := e6.trans e7
  by_cases hs : b.take ((nmi i).length + 1) = nmi i ++ [115]
  · rw [if_pos (decide_eq_true hs)]
    refine ⟨⟨_, rfl⟩, jn (R := fun v H2 => sp_law_read_fault K T 20 4 [v] H2 _ _) (e67 _ _ hD5) rfl tx (by rw [lines_len]; decide) fun H8 e8 => fin H8 _ _ (e67.trans e8) (by rw [due0 (.inr hs)]; first | done | rfl)⟩
  rw [if_neg (fun z => hs (of_decide_eq_true z))]
  refine ⟨b, rfl, Nat.le_trans B.len (by decide), fun c hc => (B.asc c hc).1, fun H8 e8 => ⟨⟨_, rfl⟩, jn (R := fun v H2 => sp_law_read_fault K T 20 4 [v] H2 _ _) (e8 _ _ (e67 _ _ hD5)) rfl tx (by rw [lines_len]; decide) fun H9 e9 => fin H9 _ _ ((e67.trans e8).trans e9) (by rw [due1 (fun z => z.elim hx hs)])⟩⟩
end
end FP
set_option maxHeartbeats 1000000
namespace FP
open PySem PySem.Spec PyProof.Rows L2
local macro_rules | `(tactic| walk_at "rd") => `(tactic| dsimp only [tVar, tC, tCmp, tIsN, tNotN, tB, tAnd, tOr, tNot, tAndV, tOrV, tNotV, tIf, tNext, tSeq, tBreak, tCont, tDrop, tRet, tRetN, tIfS, tNever, tAsg, tPar, tAug, tOp, tUn, tTest, tChain, tFld, tNil, tCons, tTup, tLst, tCB, iList, iTup, iStr, tLc, tM0, tM1, tPart, tNoPart, tSl, tBM, tCallS, tCallSD, tMethW, tMake, sDPut, tDisp, tPairs, tXf, WE, tDGet, tDIn, gName, gLst, tDNewK, gTup, gCons, gNil, gSub, sFld, sFldAug, rI, rI0, rU, rEq, rNe, rAdd, rSub, t2I, tYes, cx_K, cx_w, cx_prog])
local macro_rules | `(tactic| walk_at "rs") => `(tactic| (try simp (maxSteps := 4000000) only [L2.start, List.map_cons, List.map_nil, List.length_cons, List.length_nil, List.cons_append, List.nil_append, Nat.reduceAdd, Nat.reduceSub, Nat.zero_add, List.replicate, List.getElem?_cons_zero, List.getElem?_cons_succ, Option.some.injEq, exists_eq_left', exists_eq_left, V.int.injEq, V.str.injEq, V.bl.injEq, V.ref.injEq, List.set_cons_zero, List.set_cons_succ, exists_and_left, List.cons.injEq, and_true, true_and, wipe, if_true, if_false, Bool.not_true, Bool.not_false, Bool.false_eq_true, decide_true, decide_false]))
local macro_rules | `(tactic| walk_at "r") => `(tactic| (walk_at "rd"; walk_at "rs"))
local macro_rules | `(tactic| walk_at "T") => `(tactic| (rw [if_pos (by first | assumption | rfl | decide | exact decide_eq_true (by assumption) | (simp [tyOf]; done) | (simp; omega) | omega)]; walk_at "rs"))
local macro_rules | `(tactic| walk_at "F") => `(tactic| (rw [if_neg (by first | assumption | decide | (simp [tyOf]; done) | (simp; omega) | (simp; assumption) | omega)]; walk_at "rs"))
open LamX
/-! ### _law_right: its middle -/
/-- what a fault tells -/
def datR : BRes → PyData
  | .ok _ => .none
  | .err k e => .tuple [.str "text", .int ((k + 1 : Nat) : Int), .int ((e + 1 : Nat) : Int)]
theorem datR_lay (r : BRes) : (datR r).canLay0 = true ∧ (datR r).depth ≤ 2 := by
  cases r with
  | ok _ => exact ⟨rfl, Nat.zero_le _⟩
  | err k e => exact ⟨by show (PyData.canLay0 (.str (Str.ofString "text")) && true) = true; decide +kernel, by show 1 ≤ 2; decide⟩
section
variable {P : Program} {w : World} {K : PySem.W.Frag} {mg : Str → Option Value} {base : Heap} {f c : Addr} {fd : FuncData} {C CT CR CW : Addr} {T : List (Addr × Str)}
theorem rf_text {H : Hp} {Q : VK} {W : XK} {t : List Nat} {Ls : List (List Nat)} {r : BRes} (h1 : t.length ≤ 900000) (h2 : TL.spl [10] 0 [] t = Ls) (h3 : Ls.length ≤ 1000) (h4 : ∀ l, l ∈ Ls → l.length ≤ 100000) (br : BR 20 nmc 0 Ls [] r) (hok : ∀ ds, r = .ok ds → ds.length = 15 ∧ ∀ d, d ∈ ds → fine 4 d)
    (hT : Tabs T H) (q : ∀ v H', ExtN H H' → Tabs T H' → Dp K H' v (datR r) → Q v H') : sp_law_read_fault K T 20 4 [strV t] H Q W := by
  subst h2
  refine ⟨_, rfl, hT, .inl ⟨t, r, rfl, h1, h3, h4, br, ?_⟩⟩
  cases r with
  | ok ds => exact ⟨(hok ds rfl).1, (hok ds rfl).2, fun H' eN hT' => q _ _ eN hT' .non⟩
  | err k e => exact fun l H' eN hT' st => q _ _ eN hT' (due_dp st)
theorem rf_15 {H : Hp} {Q : VK} {W : XK} {Ls : List (List Nat)} {r : BRes} (tx : Txt15 Ls) (br : BR 20 nmc 0 Ls [] r) (hok : ∀ ds, r = .ok ds → ds.length = 15 ∧ ∀ d, d ∈ ds → fine 4 d) (hT : Tabs T H) (q : ∀ v H', ExtN H H' → Tabs T H' → Dp K H' v (datR r) → Q v H') : sp_law_read_fault K T 20 4 [strV (TL.joinL [10] Ls)] H Q W :=
  rf_text tx.len tx.spl (Nat.le_trans tx.few (by decide)) (fun l hl => Nat.le_trans (tx.each l hl).1 (by decide)) br hok hT q
def rM (m : Nat) (d : Nat → PyData) : BRes := if m < 15 then .err m 0 else .ok (dl d)
theorem rf_take {H : Hp} {Q : VK} {W : XK} {d : Nat → PyData} (dt : ∀ i, i < 15 → Dt 3 (d i)) {m : Nat} (hm : m < 16) (hT : Tabs T H) (q : ∀ v H', ExtN H H' → Tabs T H' → Dp K H' v (datR (rM m d)) → Q v H') : sp_law_read_fault K T 20 4 [strV (TL.joinL [10] ((linesL 4 d).take m))] H Q W := by
  unfold rM at q
  by_cases h15 : m < 15
  · rw [if_pos h15] at q
    by_cases h0 : m = 0
    · subst h0
      exact rf_text (r := .err 0 0) (t := []) (Ls := [[]]) (by decide) rfl (by decide) (by decide) (br_none rfl) (fun ds h => nomatch h) hT q
    · exact rf_15 (txt_take dt (by omega) (by omega)) (br_take dt h15) (fun ds h => nomatch h) hT q
  · rw [if_neg h15] at q
    have : m = 15 := by omega
    subst this
    rw [List.take_of_length_le (by rw [lines_len]; exact Nat.le_refl _)]
    refine rf_15 (txt_all dt) (br_all dt) (fun ds h => ?_) hT q
    cases h
    refine ⟨rfl, fun e he => ?_⟩
    obtain ⟨i, hi, e2⟩ := List.mem_iff_getElem.mp he
    have hi : i < 15 := hi
    have := dl_get d hi
    rw [List.getElem?_eq_getElem (by rw [dl_len]; exact hi)] at this
    rw [← e2, Option.some.inj this]
    exact (dt i hi).fine
theorem told_eq {H : Hp} {pt pe : Addr} {v1 v2 v3 u1 u2 u3 : V} {r1 r2 r3 : BRes} {Q : VK} (ht : H pt = some (.lst [v1, v2, v3])) (he : H pe = some (.lst [u1, u2, u3])) (a1 : Dp K H v1 (datR r1)) (a2 : Dp K H v2 (datR r2)) (a3 : Dp K H v3 (datR r3)) (b1 : Dp K H u1 (datR r1)) (b2 : Dp K H u2 (datR r2)) (b3 : Dp K H u3 (datR r3)) (q : Q (.bl false) H) : rNeD K (.ref pt) (.ref pe) H Q := by
  have sh : SeqAt.shaped (.list [datR r1, datR r2, datR r3]) = true := shapedL (k := 2) (fun d hd => by
    simp only [List.mem_cons, List.not_mem_nil, or_false] at hd
    rcases hd with rfl | rfl | rfl <;> exact datR_lay _) (by decide)
  refine ⟨.list [datR r1, datR r2, datR r3], .list [datR r1, datR r2, datR r3], .lst (.inl (.inl ht)) (.cons a1 (.cons a2 (.cons a3 .nil))), .lst (.inl (.inl he)) (.cons b1 (.cons b2 (.cons b3 .nil))), sh, sh, ?_⟩
  rw [PySem.SeqAt.eqv_refl _ (PySem.SeqAt.canLay_of_shaped sh)]
  exact q
theorem datR_i (i : Nat) : datR (.err i 0) = .tuple [.str "text", .int (((i : Nat) : Int) + 1), .int 1] := by
  show PyData.tuple [.str "text", .int ((i + 1 : Nat) : Int), .int ((0 + 1 : Nat) : Int)] = _
  rw [show ((i + 1 : Nat) : Int) = ((i : Nat) : Int) + 1 by omega]; rfl
theorem right_B (Z : Zb mg) {A : Around} {outer : List Env} {s : Shared} {H : Hp} {E : XK} (hg : A.guards = some []) (hr : Room 32 (A.deeper (envOfC "_law_right" (C8.fnScope s_law_right) s.heap.objs.size f (.ref c))))
    (c_law_draw : CalX P w K mg base 1 "_law_draw" (sp_law_draw K)) (c_law_names : CalX P w K mg base 1 "_law_names" sp_law_names) (c_law_pick : CalX P w K mg base 2 "_law_pick" (sp_law_pick K)) (c_law_place : CalX P w K mg base 2 "_law_place" (sp_law_place K)) (c_law_read_fault : CalG P w K mg base 32 "_law_read_fault" (sp_law_read_fault K T 20 4)) :
    ∃ t, PSs (cxOf (L2N.CX P w) P w K mg base NR "_law_right" (C8.fnScope s_law_right) f (.ref c) A outer s H E) ((C8.fnBody s_law_right).drop 6) t ∧ ∀ (Q : VK) (Hc : Hp) (p : Addr) (tc : Addr × List Int) (D2 : Addr) (d : Nat → PyData) (o1 o2 o3 o5 o6 o8 o9 o10 o11 o12 o13 : Option V),
      Pen K Hc p tc → Tabs T Hc → Hc D2 = some (.lst ((linesL 4 d).map strV)) → (∀ i, i < 15 → Dt 3 (d i)) → (∀ H', ButN p Hc H' → Pen K H' p tc → Tabs T H' → Q (.bl true) H') →
      t { nx := fun _ H' => Q .non H', rt := Q } [some (.ref p), o1, o2, o3, some (.ref D2), o5, o6, some (strV (TL.joinL [10] (linesL 4 d))), o8, o9, o10, o11, o12, o13] Hc := by
  have nd := sc_law_right.nd
  obtain ⟨tB, hB, qB⟩ := right_C (P := P) (w := w) (K := K) (mg := mg) (base := base) (f := f) (c := c) (T := T) Z (outer := outer) (H := H) (E := E) hg hr c_law_names c_law_pick c_law_place c_law_read_fault
  refine ⟨_, (pss_cons (ps_par (i := 9) (j := 10) rfl nd rfl rfl (by decide) rfl rfl (pa_cons (pe_x c_law_draw hr (by(omega)) tk0 rfl (pa_cons (pv 0) (pa_cons pe_int pa_nil))) (pa_cons (pe_x c_law_draw hr (by(omega)) tk0 rfl (pa_cons (pv 0) (pa_cons pe_int pa_nil))) pa_nil)) (by rfl))
    (pss_cons (ps_set (i := 11) nd rfl (Or.inl rfl) (pe_lst (pa_cons (pe_xG c_law_read_fault hr (by(omega)) hg tk0 rfl (pa_cons (pe_join pe_str (pe_slice sl_list (pv 4) po_none (po_some (pv 10)))) pa_nil)) (pa_cons (pe_xG c_law_read_fault hr (by(omega)) hg tk0 rfl (pa_cons (pe_op op_add_str (pv 7) pe_str) pa_nil)) (pa_cons (pe_xG c_law_read_fault hr (by(omega)) hg tk0 rfl (pa_cons (pe_join pe_str (pe_op op_cat (pe_op op_cat (pe_slice sl_list (pv 4) po_none (po_some (pv 9))) (pe_lst (pa_cons pe_str pa_nil))) (pe_slice sl_list (pv 4) (po_some (pe_op op_add (pv 9) pe_int)) po_none))) pa_nil)) pa_nil)))))
    (pss_cons (ps_if (pt_cmpR (op_neD (u64 hr)) (pv 11) (pe_lst (pa_cons (pe_ifExp (pt_cmpR op_eq (pv 10) pe_int (nomark _)) (pe_tup (pa_cons pe_str (pa_cons pe_int (pa_cons pe_int pa_nil)))) (pe_ifExp (pt_cmpR op_lt (pv 10) pe_int (nomark _)) (pe_tup (pa_cons pe_str (pa_cons (pe_op op_add (pv 10) pe_int) (pa_cons pe_int pa_nil)))) pe_non)) (pa_cons (pe_tup (pa_cons pe_str (pa_cons pe_int (pa_cons pe_int pa_nil)))) (pa_cons (pe_tup (pa_cons pe_str (pa_cons (pe_op op_add (pv 9) pe_int) (pa_cons pe_int pa_nil)))) pa_nil)))) (nomark _)) (pss_one (ps_ret pe_bl)) pss_nil)
    hB))), ?_⟩
  intro Q Hc p tc D2 d o1 o2 o3 o5 o6 o8 o9 o10 o11 o12 o13 pn hT hD2 dt q
  walk_at "r"
  refine ⟨p, tc, 15, rfl, by decide, by decide, pn, fun i' Ha i0 i1 ka pna => ⟨p, tc, 16, rfl, by decide, by decide, pna, fun m' Hb m0 m1 kb pnb => ⟨_, _, ⟨rfl, rfl⟩, ⟨_, rfl⟩, _, rfl, ?_⟩⟩⟩
  obtain ⟨i, rfl⟩ : ∃ a : Nat, i' = (a : Nat) := ⟨i'.toNat, by omega⟩
  obtain ⟨m, rfl⟩ : ∃ a : Nat, m' = (a : Nat) := ⟨m'.toNat, by omega⟩
  have hi : i < 15 := by omega
  have hm : m < 16 := by omega
  have kab := ka.trans kb
  have hDb := kab _ _ (pn.ne hD2) hD2
  have hTb := Tabs.but pn kab hT
  have tl := txt_all dt
  refine ⟨D2, _, rfl, .inl (.inl hDb), fun p1 n1 => ⟨p1, rfl, ?_⟩⟩
  rw [cut_take, ← List.map_take]
  have e1 := same_new n1 (.lst (((linesL 4 d).take m).map strV))
  refine jn0 (R := fun v H2 => sp_law_read_fault K T 20 4 [v] H2 _ _) (Ls := (linesL 4 d).take m) upd_same (by rw [List.length_take]; omega) (fun l hl => (line_ok dt l (List.mem_of_mem_take hl)).1) ?_
  refine rf_take dt hm (hTb.ext e1) fun v1 H1 eN1 hT1 dp1 => ⟨sz (by rw [S_len]; have := tl.len; show _ + 1 ≤ _; omega), ?_⟩
  rw [show Str.ofString "\n" = SX.S [10] from rfl, S_cat, join_snoc _ tl.ne]
  refine rf_15 (txt_nl dt) (br_nl dt) (fun ds h => nomatch h) hT1 fun v2 H2 eN2 hT2 dp2 => ⟨⟨_, rfl⟩, _, rfl, ?_⟩
  simp only [V.int.injEq, exists_eq_left']
  have eN12 := ((ExtN.of e1).trans eN1).trans eN2
  have hD3 := eN12 _ _ hDb (fun _ z => nomatch z)
  refine jn (R := fun v H2 => sp_law_read_fault K T 20 4 [v] H2 _ _) hD3 (b := []) rfl (txt_sub dt hi (by decide) (by decide)) (by rw [lines_len]; decide) fun H3 e3 => ?_
  refine rf_15 (txt_sub dt hi (by decide) (by decide)) (br_at dt hi .nil (fun u z => nomatch z) (lnr_e hi)) (fun ds h => nomatch h) (hT2.ext e3) fun v3 H4 eN4 hT4 dp3 => ?_
  have eN34 := (ExtN.of e3).trans eN4
  have dp14 := Dp.extN (eN2.trans eN34) dp1
  have dp24 := Dp.extN eN34 dp2
  have eNall := eN12.trans eN34
  have pn4 := pnb.extN eNall
  have hD4 := eNall _ _ hDb (fun _ z => nomatch z)
  have kN : ButN p Hc H4 := (ButN.but kab).trans (.ext eNall)
  clear dp1 dp2 eN34 hD3 eN12 eN1 eN2 eN4 e3 e1 n1 hT1 hT2 hTb hDb kab ka kb pna
  have d16 : ∀ {H' : Hp} {a : Addr}, SqT K H' a [.str (Str.ofString "text"), .int 16, .int 1] → Dp K H' (.ref a) (datR (.err 15 0)) := fun h => due_dp h
  have di : ∀ {H' : Hp} {a : Addr}, SqT K H' a [.str (Str.ofString "text"), .int (((i : Nat) : Int) + 1), .int 1] → Dp K H' (.ref a) (datR (.err i 0)) := fun h => by rw [datR_i]; exact due_dp h
  have fin : ∀ (H5 : Hp) (a b : Option V) (pt : Addr), Same H4 H5 → tB { nx := fun x H' => Q V.non H', rt := Q } [some (V.ref p), o1, o2, o3, some (V.ref D2), o5, o6, some (strV (TL.joinL [10] (linesL 4 d))), o8, some (V.int ((i : Nat) : Int)), some (V.int ((m : Nat) : Int)), some (V.ref pt), a, b] H5 := fun H5 a b pt e5 =>
    qB Q H5 p tc D2 d i _ _ _ _ _ _ _ _ _ _ _ (pn4.same e5) (hT4.ext e5) (e5 _ _ hD4) dt hi fun H' k1 k2 k3 => q H' ((kN.trans (.same e5)).trans k1) k2 k3
  refine ⟨sz (by decide), fun p1 n1 => ⟨rfl, ?_⟩⟩
  have s1 := same_new n1 (.lst [v1, v2, v3])
  by_cases h0 : m = 0
  · rw [if_pos (decide_eq_true (by omega))]
    refine ⟨sz (by decide), fun p2 n2 => ⟨sz (by decide), fun p3 n3 => ⟨sz (by decide), fun p4 n4 => ⟨sz (by decide), fun p5 n5 => ?_⟩⟩⟩⟩
    have s2 := same_new n2 (.tup [.str (Str.ofString "text"), .int 1, .int 1])
    have s3 := same_new n3 (.tup [.str (Str.ofString "text"), .int 16, .int 1])
    have s4 := same_new n4 (.tup [.str (Str.ofString "text"), .int (((i : Nat) : Int) + 1), .int 1])
    have s5 := same_new n5 (.lst [.ref p2, .ref p3, .ref p4])
    have s25 := ((s2.trans s3).trans s4).trans s5
    have s15 := s1.trans s25
    have hr0 : rM m d = .err 0 0 := by unfold rM; rw [if_pos (by omega), h0]
    rw [hr0] at dp14
    refine told_eq (r1 := .err 0 0) (r2 := .err 15 0) (r3 := .err i 0) (s25 _ _ upd_same) upd_same (Dp.same s15 dp14) (Dp.same s15 dp24) (Dp.same s15 dp3) (due_dp (SqT.same ((s3.trans s4).trans s5) (.inl (.inl upd_same)))) (d16 (SqT.same (s4.trans s5) (.inl (.inl upd_same)))) (di (SqT.same s5 (.inl (.inl upd_same)))) ⟨_, rfl, ?_⟩
    rw [if_neg (by decide)]
    exact fin _ _ _ _ s15
  rw [if_neg (fun z => h0 (by have := of_decide_eq_true z; omega))]
  by_cases h15 : m < 15
  · rw [if_pos (decide_eq_true (by omega))]
    refine ⟨sz (by decide), fun p2 n2 => ⟨sz (by decide), fun p3 n3 => ⟨sz (by decide), fun p4 n4 => ⟨sz (by decide), fun p5 n5 => ?_⟩⟩⟩⟩
    have s2 := same_new n2 (.tup [.str (Str.ofString "text"), .int (((m : Nat) : Int) + 1), .int 1])
    have s3 := same_new n3 (.tup [.str (Str.ofString "text"), .int 16, .int 1])
    have s4 := same_new n4 (.tup [.str (Str.ofString "text"), .int (((i : Nat) : Int) + 1), .int 1])
    have s5 := same_new n5 (.lst [.ref p2, .ref p3, .ref p4])
    have s25 := ((s2.trans s3).trans s4).trans s5
    have s15 := s1.trans s25
    have hr0 : rM m d = .err m 0 := by unfold rM; rw [if_pos h15]
    rw [hr0] at dp14
    refine told_eq (r1 := .err m 0) (r2 := .err 15 0) (r3 := .err i 0) (s25 _ _ upd_same) upd_same (Dp.same s15 dp14) (Dp.same s15 dp24) (Dp.same s15 dp3) (by rw [datR_i]; exact due_dp (SqT.same ((s3.trans s4).trans s5) (.inl (.inl upd_same)))) (d16 (SqT.same (s4.trans s5) (.inl (.inl upd_same)))) (di (SqT.same s5 (.inl (.inl upd_same)))) ⟨_, rfl, ?_⟩
    rw [if_neg (by decide)]
    exact fin _ _ _ _ s15
  · rw [if_neg (fun z => h15 (by have := of_decide_eq_true z; omega))]
    refine ⟨sz (by decide), fun p3 n3 => ⟨sz (by decide), fun p4 n4 => ⟨sz (by decide), fun p5 n5 => ?_⟩⟩⟩
    have s3 := same_new n3 (.tup [.str (Str.ofString "text"), .int 16, .int 1])
    have s4 := same_new n4 (.tup [.str (Str.ofString "text"), .int (((i : Nat) : Int) + 1), .int 1])
    have s5 := same_new n5 (.lst [.non, .ref p3, .ref p4])
    have s25 := (s3.trans s4).trans s5
    have s15 := s1.trans s25
    have hr0 : rM m d = .ok (dl d) := by unfold rM; rw [if_neg h15]
    rw [hr0] at dp14
    refine told_eq (r1 := .ok (dl d)) (r2 := .err 15 0) (r3 := .err i 0) (s25 _ _ upd_same) upd_same (Dp.same s15 dp14) (Dp.same s15 dp24) (Dp.same s15 dp3) .non (d16 (SqT.same (s4.trans s5) (.inl (.inl upd_same)))) (di (SqT.same s5 (.inl (.inl upd_same)))) ⟨_, rfl, ?_⟩
    rw [if_neg (by decide)]
    exact fin _ _ _ _ s15
end
end FP
set_option maxHeartbeats 1000000
namespace FP
open PySem PySem.Spec PyProof.Rows L2
local macro_rules | `(tactic| walk_at "rd") => `(tactic| dsimp only [tVar, tC, tCmp, tIsN, tNotN, tB, tAnd, tOr, tNot, tAndV, tOrV, tNotV, tIf, tNext, tSeq, tBreak, tCont, tDrop, tRet, tRetN, tIfS, tNever, tAsg, tPar, tAug, tOp, tUn, tTest, tChain, tFld, tNil, tCons, tTup, tLst, tCB, iList, iTup, iStr, tLc, tM0, tM1, tPart, tNoPart, tSl, tBM, tCallS, tCallSD, tMethW, tMake, sDPut, tDisp, tPairs, tXf, WE, tDGet, tDIn, gName, gLst, tDNewK, gTup, gCons, gNil, gSub, sFld, sFldAug, rI, rI0, rU, rEq, rNe, rAdd, rSub, t2I, tYes, cx_K, cx_w, cx_prog])
local macro_rules | `(tactic| walk_at "rs") => `(tactic| (try simp (maxSteps := 4000000) only [L2.start, List.map_cons, List.map_nil, List.length_cons, List.length_nil, List.cons_append, List.nil_append, Nat.reduceAdd, Nat.reduceSub, Nat.zero_add, List.replicate, List.getElem?_cons_zero, List.getElem?_cons_succ, Option.some.injEq, exists_eq_left', exists_eq_left, V.int.injEq, V.str.injEq, V.bl.injEq, V.ref.injEq, List.set_cons_zero, List.set_cons_succ, exists_and_left, List.cons.injEq, and_true, true_and, wipe, if_true, if_false, Bool.not_true, Bool.not_false, Bool.false_eq_true, decide_true, decide_false]))
local macro_rules | `(tactic| walk_at "r") => `(tactic| (walk_at "rd"; walk_at "rs"))
local macro_rules | `(tactic| walk_at "T") => `(tactic| (rw [if_pos (by first | assumption | rfl | decide | exact decide_eq_true (by assumption) | (simp [tyOf]; done) | (simp; omega) | omega)]; walk_at "rs"))
local macro_rules | `(tactic| walk_at "F") => `(tactic| (rw [if_neg (by first | assumption | decide | (simp [tyOf]; done) | (simp; omega) | (simp; assumption) | omega)]; walk_at "rs"))
open LamX
/-! ### _law_right -/
theorem comp_acc2 {J : It} {xs : List V} {G : Hp → Prop} {H1 : Hp} {D : Addr} {Rend : Hp → Prop} (w : Walk J xs.length G (YAt xs)) (small : xs.length < sizeLine) (nD : H1 D = none) (B : V → Hp → VK → Prop) (R : Nat → V → Hp → Prop)
    (hG : ∀ H, But (· = D) (upd H1 D (.lst [])) H → G H)
    (hup : ∀ i v H H' acc, H D = some (.lst acc) → But (· = D) H H' → R i v H → R i v H')
    (hs : ∀ i x H Q, xs[i]? = some x → But (· = D) (upd H1 D (.lst [])) H → (∃ acc, H D = some (.lst acc)) → (∀ y H', Same H H' → R i y H' → Q y H') → B x H Q)
    (hd : ∀ H ys, But (· = D) (upd H1 D (.lst [])) H → H D = some (.lst ys) → ys.length = xs.length → (∀ i y, ys[i]? = some y → R i y H) → Rend H) :
    ∃ W : Nat → Nat → Hp → Prop, (∃ m, W 0 m (upd H1 D (.lst []))) ∧ ∀ i m H, W i m H →
      (J.stop i H ∧ Rend H) ∨ (J.go i H ∧ ∃ Nx : Hp → Prop, (∀ H', Nx H' → ∃ m', m' < m ∧ W (i + 1) m' H') ∧ ∀ x H', J.yld i H x H' →
        B x H' fun y H4 => ∃ acc, H4 D = some (.lst acc) ∧ acc.length < sizeLine ∧ Nx (upd H4 D (.lst (acc ++ [y])))) := by
  refine ⟨fun i m H => m = xs.length - i ∧ i ≤ xs.length ∧ But (· = D) (upd H1 D (.lst [])) H ∧ ∃ ys, H D = some (.lst ys) ∧ ys.length = i ∧ ∀ k y, ys[k]? = some y → R k y H, ⟨xs.length, by simp, Nat.zero_le _, But.refl _ _, [], upd_same, rfl, fun k y h => by simp at h⟩, ?_⟩
  rintro i m H ⟨rfl, hi, e, ys, hD, hl, hR⟩
  have q := hG H e
  by_cases hlt : i < xs.length
  · refine .inr ⟨w.goes i H hlt q, fun H' => But (· = D) (upd H1 D (.lst [])) H' ∧ ∃ ys, H' D = some (.lst ys) ∧ ys.length = i + 1 ∧ ∀ k y, ys[k]? = some y → R k y H', fun H' p' => ⟨xs.length - (i + 1), by omega, rfl, hlt, p'⟩, fun x H' y => ?_⟩
    obtain ⟨rfl, hy⟩ := w.yields i H x H' hlt q y
    refine hs i x H' _ hy e ⟨_, hD⟩ fun v H4 e4 r => ⟨ys, e4 _ _ hD, by omega, ?_, ys ++ [v], upd_same, by simp [hl], ?_⟩
    · exact e.trans ((Same.but e4).trans (But.upd rfl))
    · intro k y hk
      by_cases hk1 : k < ys.length
      · rw [List.getElem?_append_left hk1] at hk
        exact hup k y H' _ ys hD ((Same.but e4).trans (But.upd rfl)) (hR k y hk)
      · rw [List.getElem?_append_right (by omega)] at hk
        have : k = ys.length := by
          have := List.getElem?_eq_some_iff.mp hk
          obtain ⟨h, _⟩ := this
          simp at h; omega
        subst this
        simp at hk
        subst hk
        rw [hl]
        exact hup i v H4 _ ys (e4 _ _ hD) (But.upd rfl) r
  · have e1 : i = xs.length := by omega
    subst e1
    exact .inl ⟨w.stops H q, hd H ys e hD hl hR⟩
/-- what stands in the list of lists: a drawn value, or a new list of a drawn tuple's parts -/
def RL (K : PySem.W.Frag) (D : Addr) (d : PyData) (y : V) (H : Hp) : Prop := (lstD d = d ∧ Dp K H y d ∧ Nol d) ∨ ∃ l xs ds, y = .ref l ∧ H l = some (.lst xs) ∧ ¬ l = D ∧ lstD d = .list ds ∧ DpAll K H xs ds ∧ ∀ e, e ∈ ds → Nol e
theorem RL.up {K : PySem.W.Frag} {D : Addr} {d : PyData} {y : V} {H H' : Hp} {acc : List V} (hD : H D = some (.lst acc)) (k : But (· = D) H H') (h : RL K D d y H) : RL K D d y H' := by
  rcases h with ⟨h1, h2, h3⟩ | ⟨l, xs, ds, rfl, h2, h3, h4, h5, h6⟩
  · exact .inl ⟨h1, Dp.but (noTupD hD) k h3 h2, h3⟩
  · exact .inr ⟨l, xs, ds, rfl, k _ _ h3 h2, h3, h4, DpAll.but (noTupD hD) k h6 h5, h6⟩
theorem RL.dp {K : PySem.W.Frag} {D : Addr} {d : PyData} {y : V} {H : Hp} (h : RL K D d y H) : Dp K H y (lstD d) := by
  rcases h with ⟨h1, h2, h3⟩ | ⟨l, xs, ds, rfl, h2, h3, h4, h5, h6⟩
  · rw [h1]; exact h2
  · rw [h4]; exact .lst (.inl (.inl h2)) h5
theorem all15 {K : PySem.W.Frag} {H : Hp} {v : Nat → V} {d : Nat → PyData} (h : ∀ i, i < 15 → Dp K H (v i) (d i)) : DpAll K H (args15 v) (dl d) := by
  refine DpAll.of_get rfl fun i x y hx hy => ?_
  have hi : i < 15 := (List.getElem?_eq_some_iff.mp hx).1
  rw [args15_get v hi] at hx
  rw [dl_get d hi] at hy
  cases hx; cases hy
  exact h i hi
theorem dl_mem {d : Nat → PyData} {Pd : PyData → Prop} (h : ∀ i, i < 15 → Pd (d i)) : ∀ e, e ∈ dl d → Pd e := fun e he => by
  obtain ⟨i, hi, e2⟩ := List.mem_iff_getElem.mp he
  have hi : i < 15 := hi
  have := dl_get d hi
  rw [List.getElem?_eq_getElem (by rw [dl_len]; exact hi)] at this
  rw [← e2, Option.some.inj this]
  exact h i hi
theorem dl_getD {d : Nat → PyData} {i : Nat} (hi : i < 15) : (dl d).getD i .none = d i := by
  rw [List.getD_eq_getElem?_getD, dl_get d hi]; rfl
theorem sh_t {d : Nat → PyData} (dt : ∀ i, i < 15 → Dt 3 (d i)) : SeqAt.shaped (.tuple (dl d)) = true := shapedT (k := 4) (dl_mem (Pd := fun e => e.canLay0 = true ∧ e.depth ≤ 4) fun i hi => (dt i hi).lay) (by decide)
theorem sh_l {d : Nat → PyData} (dt : ∀ i, i < 15 → Dt 3 (d i)) : SeqAt.shaped (.list (dl d)) = true := shapedL (k := 4) (dl_mem (Pd := fun e => e.canLay0 = true ∧ e.depth ≤ 4) fun i hi => (dt i hi).lay) (by decide)
theorem ev_t {d : Nat → PyData} (dt : ∀ i, i < 15 → Dt 3 (d i)) : PyData.eqv (.tuple (dl d)) (.tuple (dl d)) = true := PySem.SeqAt.eqv_refl _ (PySem.SeqAt.canLay_of_shaped (sh_t dt))
theorem ev_l {d : Nat → PyData} (dt : ∀ i, i < 15 → Dt 3 (d i)) : PyData.eqv (.list (dl d)) (.list (dl d)) = true := PySem.SeqAt.eqv_refl _ (PySem.SeqAt.canLay_of_shaped (sh_l dt))
section
variable {P : Program} {w : World} {K : PySem.W.Frag} {mg : Str → Option Value} {base : Heap} {f c : Addr} {fd : FuncData} {C CT CR CW : Addr} {T : List (Addr × Str)}
theorem ok_law_right (Z : Zb mg) (Z_zip : mg "zip" = none) (D : C8.Def K mg "_law_right" s_law_right f fd) (hc : fd.code = .ref c) (b : Binds K fd ["pen"] []) (BE : BkE P w K mg base C)
    (c_law_drawn_value : CalX P w K mg base 6 "_law_drawn_value" (sp_law_drawn K 2)) (c_law_draw : CalX P w K mg base 1 "_law_draw" (sp_law_draw K)) (c_law_is : CalX P w K mg base 5 "_law_is" (sp_law_is K 4)) (c_law_made : CalX P w K mg base 8 "_law_made" (sp_book_by K C 4))
    (c_law_names : CalX P w K mg base 1 "_law_names" sp_law_names) (c_value_text : CalX P w K mg base 8 "value_text" (sp_value_text K CW 4)) (c_book_text : CalX P w K mg base 10 "book_text" (sp_book_text K C CR 4)) (c_book_of_text : CalX P w K mg base 29 "book_of_text" (sp_book_of_text K C CT 20 4))
    (c_law_book_values : CalX P w K mg base 1 "_law_book_values" (sp_law_book_values K C)) (c_law_is_ratio : CalX P w K mg base 2 "_law_is_ratio" (sp_law_is_ratio K)) (c_law_pick : CalX P w K mg base 2 "_law_pick" (sp_law_pick K)) (c_law_place : CalX P w K mg base 2 "_law_place" (sp_law_place K))
    (c_law_read_fault : CalG P w K mg base 32 "_law_read_fault" (sp_law_read_fault K T 20 4)) : CalG P w K mg base 33 "_law_right" (sp_law_nr K T) := by
  refine calG D hc b sc_law_right (fun vs H Q E h => by obtain ⟨p, tc, rfl, _⟩ := h; rfl) fun A outer s H vs Q E hg hr h => ?_
  obtain ⟨p, tc, rfl, pn, hT, q⟩ := h
  have nd := sc_law_right.nd
  obtain ⟨tB, hB, qB⟩ := right_B (P := P) (w := w) (K := K) (mg := mg) (base := base) (f := f) (c := c) (T := T) Z (outer := outer) (H := H) (E := E) hg hr c_law_draw c_law_names c_law_pick c_law_place c_law_read_fault
  refine ⟨_, (pss_cons (ps_setLc (i := 1) (own := [("lap", 2)]) rfl nd rfl rfl (by rfl) (pi_range1 rfl Z.range (pa_cons pe_int pa_nil)) (blkOk_by (N := ["pen", "values", "lap", "book", "lines", "name", "value", "text", "one", "at", "many", "told", "bent", "due"]) (sc := C8.fnScope s_law_right) (by decide +kernel)) (fun _ _ _ _ _ => (pg_name (i := 2) nd rfl (Or.inl rfl))) (fun _ _ _ _ _ => pts_nil) (fun _ _ _ _ _ => (pe_x c_law_drawn_value hr (by(omega)) tk0 rfl (pa_cons (pv 0) (pa_cons pe_int pa_nil)))))
    (pss_cons (ps_set (i := 3) nd rfl (Or.inl rfl) (pe_x c_law_made hr (by(omega)) tk0 rfl (pa_cons (pv 1) pa_nil)))
    (pss_cons (ps_setLc (i := 4) (g := gTup K 2 (gCons (gName 5) (gCons (gName 6) gNil))) (own := [("name", 5), ("value", 6)]) rfl nd rfl rfl (by rfl) (RZ.pi_zipA rfl Z_zip (pa_cons (pe_x0 c_law_names hr (by(omega)) tk0 rfl) (pa_cons (pv 1) pa_nil))) (blkOk_by (N := ["pen", "values", "lap", "book", "lines", "name", "value", "text", "one", "at", "many", "told", "bent", "due"]) (sc := C8.fnScope s_law_right) (by decide +kernel)) (fun _ _ _ _ _ => (pg_tup rfl (pgs_cons (pg_name (i := 5) nd rfl (Or.inl rfl)) (pgs_cons (pg_name (i := 6) nd rfl (Or.inl rfl)) pgs_nil)))) (fun _ _ _ _ _ => pts_nil) (fun _ _ _ _ _ => (pe_op op_add_str (pe_op op_add_str (pv 5) pe_str) (pe_x c_value_text hr (by(omega)) tk0 rfl (pa_cons (pv 6) pa_nil)))))
    (pss_cons (ps_set (i := 7) nd rfl (Or.inl rfl) (pe_join pe_str (pv 4)))
    (pss_cons (ps_if (PW.pt (pw_or (pt_not (pt_val (pe_x c_law_is hr (by(omega)) tk0 rfl (pa_cons (pe_x c_book_text hr (by(omega)) tk0 rfl (pa_cons (pv 3) pa_nil)) (pa_cons (pv 7) pa_nil))))) (pw_or (pt_cmpR (op_bkNe BE (k := 29) hr) (pe_x c_book_of_text hr (by(omega)) tk0 rfl (pa_cons (pv 7) pa_nil)) (pv 3) (nomark _)) (pw_or1 (pt_cmpR (op_neD (u64 hr)) (pe_x c_law_book_values hr (by(omega)) tk0 rfl (pa_cons (pv 3) pa_nil)) (pv 1) (nomark _)))))) (pss_one (ps_ret pe_bl)) pss_nil)
    (pss_cons (ps_if (PW.pt (pw_or (pt_cmpR (op_bkNe BE (k := 29) hr) (pe_x c_law_made hr (by(omega)) tk0 rfl (pa_cons (pe_lc (own := [("one", 8)]) rfl nd (pi_list (pv 1)) (blkOk_by (N := ["pen", "values", "lap", "book", "lines", "name", "value", "text", "one", "at", "many", "told", "bent", "due"]) (sc := C8.fnScope s_law_right) (by decide +kernel)) (fun _ _ _ _ _ => (pg_name (i := 8) nd rfl (Or.inl rfl))) (fun _ _ _ _ _ => pts_nil) (fun _ _ _ _ _ => (pe_ifExp (PW.pt (pw_and (pt_val (pe_callB (r := rIsi K) call_isi rfl Z.isinstance PyProof.Rows.boot_isinstance (pa_cons (pv 8) (pa_cons (pe_ty rfl Z.tuple PyProof.Rows.boot_tuple) pa_nil)))) (pw_and1 (pt_not (pt_val (pe_x c_law_is_ratio hr (by(omega)) tk0 rfl (pa_cons (pv 8) pa_nil))))))) (pe_callTy (r := rLstOf K) call_list_of rfl Z.list PyProof.Rows.boot_list (pa_cons (pv 8) pa_nil)) (pv 8)))) pa_nil)) (pv 3) (nomark _)) (pw_or1 (pt_cmpR (op_bkEq BE (k := 29) hr) (pv 3) (pv 1) (nomark _))))) (pss_one (ps_ret pe_bl)) pss_nil)
    hB)))))), ?_⟩
  walk_at "r"
  refine ⟨_, rfl, by decide, by decide, fun D nD => ?_⟩
  refine comp_pen walk_range (szL (by decide)) nD pn (fun x H' Q' => sp_law_drawn K 2 [.ref p, .int 2] H' Q' _) (fun v H' => ∃ d, Dp K H' v d ∧ (Nol d ∧ Dv 2 d)) (fun _ _ _ _ y => y.1) ?_ ?_ ?_
  · rintro v Ha Hb k z ⟨d, hd, nl, dv⟩
    exact ⟨d, Dp.but z k nl hd, nl, dv⟩
  · intro x Ha Q' ka pna q'
    exact ⟨p, tc, rfl, pna, fun v d Hb kb pnb hd nl dv => q' v Hb kb pnb ⟨d, hd, nl, dv⟩⟩
  intro Ha ys ka pna hD hl hR
  obtain ⟨ds, al, hlen, hp⟩ := gather hR
  obtain ⟨v, d, rfl, -, hv⟩ := vals15 al hl hp
  clear hR al hlen hp ds hl
  have nDp : ¬ D = p := pna.ne hD
  have dt : ∀ i, i < 15 → Dt 3 (d i) := fun i hi => (Dv.dt (hv i hi).2.2).up
  have dg : ∀ i, i < 15 → Dg (d i) := fun i hi => (dt i hi).dg (hv i hi).2.1
  have nl : ∀ i, i < 15 → Nol (d i) := fun i hi => (hv i hi).2.1
  have dd : ∀ i, i < 15 → Dp K Ha (v i) (d i) := fun i hi => (hv i hi).1
  clear hv
  refine made_of hD (fun i hi => ⟨dd i hi, dg i hi⟩) fun a dx w Hb eb na bk => ?_
  dsimp only [RZ.iZipA, tCons, tCallS, tNil, tVar]
  refine ⟨rfl, fun l Hc ec nlc hlc => ⟨_, rfl, l, D, _, _, rfl, .inl ⟨.inl (.inl hlc), .inl (.inl (ec _ _ (eb _ _ hD))), fun D2 nD2 => ?_⟩⟩⟩
  have ebc := eb.trans ec
  have hDc := ebc _ _ hD
  refine comp_pair (n := 15) (walk_zip (xs := nmc.map strV) (ys := args15 v) rfl) (szL (by decide)) nD2
    (B := fun x H' Qy => ∃ a4, x = .ref a4 ∧ ∃ xs, SqT K H' a4 xs ∧ xs.length = 2 ∧ ∃ v1 r, xs = v1 :: r ∧ ∃ v2 r2, r = v2 :: r2 ∧ r2 = [] ∧ ∃ i, v1 = .str i ∧ i.length + (Str.ofString " ").length ≤ sizeLine ∧
      sp_value_text K CW 4 [v2] H' (fun y H2 => ∃ x, y = .str x ∧ (i ++ Str.ofString " ").length + x.length ≤ sizeLine ∧ Qy (.str ((i ++ Str.ofString " ") ++ x)) H2) (WE (fun _ _ _ _ => False) [some (V.ref p), some (V.ref D), none, some (V.ref a), none, some v1, some v2, none, none, none, none, none, none, none]))
    (fun i y H' => y = strV (lineL 4 (d i) i)) (fun H' k => ⟨.inl (.inl (Same.of_but nD2 k _ _ hlc)), .inl (.inl (Same.of_but nD2 k _ _ hDc))⟩) (fun _ _ _ _ _ _ _ h => h) (fun i x y T H' Q' hx hy k nT q' => ?_) fun H1 ys k hD2 hlen hR => ?_
  · have hi : i < 15 := (List.getElem?_eq_some_iff.mp hy).1
    rw [args15_get v hi] at hy
    rw [List.getElem?_map, nmi_get hi] at hx
    cases hx; cases hy
    have e3 := same_new nT (.tup [strV (nmi i), v i])
    have e2' : Same Hc H' := Same.of_but nD2 k
    have l1 := nmi_len (i := i)
    have etx : textV 4 (asTup 4 (d i)) = textV 4 (d i) := by rw [asTup_of (nl i hi)]
    have tlen : (textV 4 (d i)).length ≤ 100000 := by
      have h := lineS_len (i := i) (dt i hi) (suf := []) (by decide)
      rw [← lineL_eq (dt i hi)] at h
      unfold lineL at h
      rw [List.length_append] at h
      omega
    refine ⟨T, rfl, _, .inl (.inl upd_same), rfl, _, _, rfl, _, _, rfl, rfl, _, rfl, sz (by rw [S_len]; show _ + 1 ≤ _; omega), v i, rfl, .inl ⟨d i, Dp.same ((ebc.trans e2').trans e3) (dd i hi), (dt i hi).fine, (dt i hi).up.pl, by rw [asTup_of (nl i hi)]; exact (dt i hi).up.tw, by rw [etx]; exact tlen, fun H3 e4 => ⟨_, rfl, ?_⟩⟩⟩
    rw [etx, show (Str.ofString " ") = SX.S [32] from rfl, S_cat, S_cat]
    exact ⟨sz (by rw [S_len, S_len, List.length_append]; show _ + 1 + _ ≤ _; omega), q' _ _ e4 rfl⟩
  have eys : ys = (linesL 4 d).map strV := by
    refine List.ext_getElem? fun i => ?_
    unfold linesL
    rw [List.getElem?_map, List.getElem?_map]
    by_cases hi : i < 15
    · rw [List.getElem?_range hi, List.getElem?_eq_getElem (by omega), hR i _ (List.getElem?_eq_getElem (by omega))]; rfl
    · rw [List.getElem?_eq_none (by omega), List.getElem?_eq_none (by rw [List.length_range]; omega)]; rfl
  subst eys
  clear hR hlen
  have ec1 : Same Hc H1 := Same.of_but nD2 k
  have tl := txt_all dt
  refine ⟨⟨_, rfl⟩, ?_⟩
  refine ⟨(linesL 4 d).map SX.S, .inl (.inl (.inl (by rw [List.map_map]; exact hD2))), ?_, ?_⟩
  · rw [SX.lens, List.length_map]
    have := sum_le (M := 20020) fun t ht => (tl.each t ht).1
    have := tl.few
    show _ + _ * 1 ≤ _
    omega
  rw [show (Str.ofString "\n") = SX.S [10] from rfl, SX.join_S]
  have bk1 := (bk.same ec).same ec1
  refine ⟨.ref a, rfl, .inl ⟨a, dx, w, d, rfl, bk1, fun i hi => ⟨(dt i hi).fine, (dt i hi).up.tw, ?_⟩, dl_all fun i hi => (dg i hi).2.2, fun H2 e2 => ?_⟩⟩
  · have h := lineS_len (i := i) (dt i hi) (suf := []) (by decide)
    rw [← lineL_eq (dt i hi)] at h
    unfold lineL at h
    rw [List.length_append] at h
    omega
  refine ⟨_, _, .str (SX.S (TL.joinL [10] (linesL 4 d))), rfl, .str _, .str _, .str _, fun H3 e3 => ⟨true, rfl, ?_⟩⟩
  rw [if_neg (by decide)]
  have bk3 := (bk1.same e2).same e3
  refine .inl ⟨_, .ok (dl d), rfl, tl.len, by rw [tl.spl, lines_len]; decide, fun l hl => ?_, by rw [tl.spl]; exact br_all dt, rfl, dl_mem fun i hi => (dt i hi).fine, fun a2 dx2 w2 H4 e4 na2 bk2 => ?_⟩
  · rw [tl.spl] at hl
    exact Nat.le_trans (tl.each l hl).1 (by decide)
  replace bk2 := bk2.congr (e := d) fun i hi => by
    show asTup 4 ((dl d).getD i .none) = d i
    rw [dl_getD hi, asTup_of (nl i hi)]
  have bk4 := bk3.same e4
  refine ⟨a2, dx2, w2, d, rfl, bk2, sh_t dt, .inl ⟨a, dx, w, d, rfl, bk4, sh_t dt, fun H5 e5 => ⟨_, rfl, ?_⟩⟩⟩
  rw [ev_t dt, if_neg (by decide)]
  have bk5 := bk4.same e5
  have e25 := (((ec1.trans e2).trans e3).trans e4).trans e5
  have dd5 : ∀ i, i < 15 → Dp K H5 (v i) (d i) := fun i hi => Dp.same (ebc.trans e25) (dd i hi)
  have hD5 := e25 _ _ hDc
  refine ⟨a, dx, w, d, rfl, bk5, fun l6 H6 e6 hl6 => ?_⟩
  have dd6 : ∀ i, i < 15 → Dp K H6 (v i) (d i) := fun i hi => Dp.same e6 (dd5 i hi)
  have hD6 := e6 _ _ hD5
  refine ⟨_, _, .lst (.inl (.inl hl6)) (bk5.same e6).all, .lst (.inl (.inl hD6)) (all15 dd6), sh_l dt, sh_l dt, ?_⟩
  rw [ev_l dt]
  refine ⟨_, rfl, ?_⟩
  rw [if_neg (by decide)]
  have bk6 := bk5.same e6
  have hD26 := (((((e2.trans e3).trans e4).trans e5).trans e6)) _ _ hD2
  have k6 : But (· = p) H H6 := ka.trans (Same.but ((ebc.trans e25).trans e6))
  have pn6 := pna.same ((ebc.trans e25).trans e6)
  clear hD5 dd5 bk5 e25 e6 e5 bk4 bk2 e4 bk3 e3 e2 bk1 hD2 ec1 hDc ebc hlc nlc ec eb hD dd pna ka bk
  refine ⟨⟨_, .inl (.inl hD6)⟩, fun D3 nD3 => ?_⟩
  refine comp_acc2 (walk_list (xs := args15 v)) (szL (by rw [args15_len]; decide)) nD3
    (fun x H' Qy => rIsi K [x, V.ty "tuple"] H' fun x_1 H1 => ∃ c, x_1 = V.bl c ∧ if c = true then sp_law_is_ratio K [x] H1 (fun x_2 H1 => ∃ c, x_2 = V.bl c ∧ if (!c) = true then rLstOf K [x] H1 Qy else Qy x H1) (WE (fun x x_2 x_3 x_4 => False)
      [some (V.ref p), some (V.ref D), none, some (V.ref a), some (V.ref D2), none, none, some (V.str (SX.S (TL.joinL [10] (linesL 4 d)))), some x, none, none, none, none, none]) else Qy x H1)
    (fun i y H' => RL K D3 (d i) y H') (fun H' k => .inl (.inl (Same.of_but nD3 k _ _ hD6))) (fun i v H H' acc h k r => r.up h k) ?_ ?_
  · rintro i x Hx Qy hx kx ⟨acc, hacc⟩ q'
    have hi : i < 15 := (List.getElem?_eq_some_iff.mp hx).1
    rw [args15_get v hi] at hx
    cases hx
    have dx := Dp.same (Same.of_but nD3 kx) (dd6 i hi)
    refine isi_tuple (Dp.kd dx) ⟨_, rfl, ?_⟩
    by_cases ht : (tyOf (d i) == "tuple") = true
    · rw [ht, if_pos rfl]
      refine ⟨_, d i, rfl, dx, _, rfl, ?_⟩
      obtain ⟨ds, hds⟩ := ty_tuple.mp ht
      cases hr : ratioOf (d i) with
      | some tb =>
        rw [if_neg (by simp)]
        exact q' _ _ (Same.refl _) (.inl ⟨lstD_rat (t := tb.1) (b := tb.2) hr, dx, nl i hi⟩)
      | none =>
        rw [if_pos (by decide)]
        rw [hds] at dx hr
        obtain ⟨a5, xs, e5, hs, al⟩ := Dp.tupI dx
        rw [e5]
        refine ⟨a5, xs, rfl, .inr hs, fun l5 n5 => ?_⟩
        have s5 := same_new n5 (.lst xs)
        refine q' _ _ s5 (.inr ⟨l5, xs, ds, rfl, upd_same, fun z => ?_, by rw [hds]; exact lstD_tup hr, DpAll.same s5 al, fun e he => ?_⟩)
        · rw [z, hacc] at n5; cases n5
        · have := nl i hi
          rw [hds] at this
          cases this with
          | tup h => exact h e he
    · rw [if_neg ht]
      refine q' _ _ (Same.refl _) (.inl ⟨?_, dx, nl i hi⟩)
      have key : ∀ e, Dt 3 e → ¬ (tyOf e == "tuple") = true → lstD e = e := fun e he hn => by
        cases he with
        | rat h1 h2 h3 => exact lstD_rat h1
        | tup h1 h2 h3 => exact absurd rfl hn
      exact key _ (dt i hi) ht
  intro H7 ys k7 hD37 hlen hR
  have e7 : Same H6 H7 := Same.of_but nD3 k7
  have hlen : ys.length = 15 := hlen
  refine ⟨D3, fun i => ys.getD i .non, fun i => lstD (d i), rfl, .inl (.inl (by rw [args15_of hlen]; exact hD37)), fun i hi => ⟨?_, fine_lst (dt i hi)⟩, fun a3 dx3 w3 H8 e8 na3 bk3 => ?_⟩
  · refine (hR i (ys.getD i .non) ?_).dp
    rw [List.getD_eq_getElem?_getD, List.getElem?_eq_getElem (by omega)]; rfl
  replace bk3 := bk3.congr (e := d) fun i hi => asTup_lst (dt i hi) (nl i hi)
  have bk8 := (bk6.same e7).same e8
  refine ⟨a3, dx3, w3, d, rfl, bk3, sh_t dt, .inl ⟨a, dx, w, d, rfl, bk8, sh_t dt, fun H9 e9 => ⟨_, rfl, ?_⟩⟩⟩
  rw [ev_t dt, if_neg (by decide)]
  have e69 := (e7.trans e8).trans e9
  refine ⟨a, dx, w, d, rfl, bk8.same e9, sh_t dt, .inr ⟨SqL.kd (.inl (.inl (e69 _ _ hD6))), ⟨_, rfl, ?_⟩⟩⟩
  rw [if_neg (by decide)]
  have k9 := k6.trans (Same.but e69)
  exact qB Q H9 p tc D2 d _ _ _ _ _ _ _ _ _ _ _ (pn6.same e69) (Tabs.but pn k9 hT) (e69 _ _ hD26) dt fun H' k1 k2 k3 => q H' ((ButN.but k9).trans k1) k2 k3
end
end FP
set_option maxHeartbeats 1000000
namespace FP
open PySem PySem.Spec PyProof.Rows L2
local macro_rules | `(tactic| walk_at "rd") => `(tactic| dsimp only [tVar, tC, tCmp, tIsN, tNotN, tB, tAnd, tOr, tNot, tAndV, tOrV, tNotV, tIf, tNext, tSeq, tBreak, tCont, tDrop, tRet, tRetN, tIfS, tNever, tAsg, tPar, tAug, tOp, tUn, tTest, tChain, tFld, tNil, tCons, tTup, tLst, tCB, iList, iTup, iStr, tLc, tM0, tM1, tPart, tNoPart, tSl, tBM, tCallS, tCallSD, tMethW, tMake, sDPut, tDisp, tPairs, tXf, WE, tDGet, tDIn, gName, gLst, tDNewK, gTup, gCons, gNil, gSub, sFld, sFldAug, rI, rI0, rU, rEq, rNe, rAdd, rSub, t2I, tYes, cx_K, cx_w, cx_prog])
local macro_rules | `(tactic| walk_at "rs") => `(tactic| (try simp (maxSteps := 4000000) only [L2.start, List.map_cons, List.map_nil, List.length_cons, List.length_nil, List.cons_append, List.nil_append, Nat.reduceAdd, Nat.reduceSub, Nat.zero_add, List.replicate, List.getElem?_cons_zero, List.getElem?_cons_succ, Option.some.injEq, exists_eq_left', exists_eq_left, V.int.injEq, V.str.injEq, V.bl.injEq, V.ref.injEq, List.set_cons_zero, List.set_cons_succ, exists_and_left, List.cons.injEq, and_true, true_and, wipe, if_true, if_false, Bool.not_true, Bool.not_false, Bool.false_eq_true, decide_true, decide_false]))
local macro_rules | `(tactic| walk_at "r") => `(tactic| (walk_at "rd"; walk_at "rs"))
local macro_rules | `(tactic| walk_at "T") => `(tactic| (rw [if_pos (by first | assumption | rfl | decide | exact decide_eq_true (by assumption) | (simp [tyOf]; done) | (simp; omega) | omega)]; walk_at "rs"))
local macro_rules | `(tactic| walk_at "F") => `(tactic| (rw [if_neg (by first | assumption | decide | (simp [tyOf]; done) | (simp; omega) | (simp; assumption) | omega)]; walk_at "rs"))
open LamX
/-! ### law -/
def n401 : Int := ((numV (List.replicate 401 55) : Nat) : Int)
theorem i401 : intText? (Txt.mul (Str.ofString "7") 401) = some n401 := by
  rw [mul7]
  exact SX.int_S (by decide +kernel) (by decide) (by decide +kernel)
theorem z401 : (Txt.mul (Str.ofString "7") 401).length = 401 := by rw [mul7, S_len]; simp
theorem dl_bad {n : Nat} {d : Nat → PyData} {k : Nat} (hk : k < 15) (h : plB n (d k) = false) : (dl d).all (plB n) = false := by
  refine List.all_eq_false.mpr ⟨d k, List.mem_of_getElem? (dl_get d hk), ?_⟩
  rw [h]; exact Bool.false_ne_true
theorem Bk.butP {K : PySem.W.Frag} {C p : Addr} {H H' : Hp} {tc : Addr × List Int} {a dx : Addr} {v : Nat → V} {d : Nat → PyData} (pn : Pen K H p tc) (k : But (· = p) H H') (bk : Bk K C H a dx v d) : Bk K C H' a dx v d :=
  ⟨bk.cls, k _ _ (fun z => by
    have z : a = p := z
    obtain ⟨_, _, _, _, S⟩ := pn
    have h := bk.ins
    rw [z, S.d] at h; cases h) bk.ins, fun i hi => ⟨Dp.but pn.noTup k (bk.dat i hi).2 (bk.dat i hi).1, (bk.dat i hi).2⟩⟩
/-- what is no book of plain values -/
def Bd (K : PySem.W.Frag) (C : Addr) (H : Hp) (x : V) : Prop := (∃ (a dx : Addr) (v : Nat → V) (d : Nat → PyData), x = .ref a ∧ Bk K C H a dx v d ∧ (∀ i, i < 15 → fine 4 (d i)) ∧ (dl d).all (plB 4) = false) ∨ ∃ dat, Dp K H x dat ∧ Nol dat
theorem Bd.same {K : PySem.W.Frag} {C : Addr} {H H' : Hp} {x : V} (e : Same H H') (h : Bd K C H x) : Bd K C H' x := by
  rcases h with ⟨a, dx, v, d, rfl, bk, h⟩ | ⟨dat, dp, nl⟩
  · exact .inl ⟨a, dx, v, d, rfl, bk.same e, h⟩
  · exact .inr ⟨dat, Dp.same e dp, nl⟩
theorem Bd.ext {K : PySem.W.Frag} {C : Addr} {H H' : Hp} {x : V} (e : ExtN H H') (h : Bd K C H x) : Bd K C H' x := by
  rcases h with ⟨a, dx, v, d, rfl, bk, h⟩ | ⟨dat, dp, nl⟩
  · exact .inl ⟨a, dx, v, d, rfl, bk.extN e, h⟩
  · exact .inr ⟨dat, Dp.extN e dp, nl⟩
theorem Bd.butP {K : PySem.W.Frag} {C p : Addr} {tc : Addr × List Int} {H H' : Hp} {x : V} (pn : Pen K H p tc) (k : But (· = p) H H') (h : Bd K C H x) : Bd K C H' x := by
  rcases h with ⟨a, dx, v, d, rfl, bk, h⟩ | ⟨dat, dp, nl⟩
  · exact .inl ⟨a, dx, v, d, rfl, bk.butP pn k, h⟩
  · exact .inr ⟨dat, Dp.but pn.noTup k nl dp, nl⟩
theorem Bd.no {K : PySem.W.Frag} {C : Addr} {H : Hp} {x : V} (h : Bd K C H x) : NoBk K C 4 H x := by
  rcases h with h | ⟨dat, dp, nl⟩
  · exact .inl h
  · exact .inr ⟨_, Dp.kd dp⟩
theorem rep14 {H : Hp} {l : Addr} {Q : VK} (hl : H l = some (.lst [.int 1])) (q : ∀ p H', Same H H' → H' p = some (.lst (List.replicate 14 (.int 1))) → Q (.ref p) H') : rRep (.ref l) (.int 14) H Q :=
  ⟨l, 14, [.int 1], rfl, rfl, hl, by decide, by decide, sz (by decide), fun p np => q p _ (same_new np _) upd_same⟩
theorem cat_ {H : Hp} {a b : Addr} {xs ys : List V} {Q : VK} (ha : H a = some (.lst xs)) (hb : H b = some (.lst ys)) (hl : xs.length + ys.length ≤ 1000000) (q : ∀ p H', Same H H' → H' p = some (.lst (xs ++ ys)) → Q (.ref p) H') : rCat (.ref a) (.ref b) H Q :=
  ⟨a, b, xs, ys, rfl, rfl, ha, hb, sz hl, fun p np => q p _ (same_new np _) upd_same⟩
/-- a book of ones but for one that is no plain value -/
theorem made_bad {K : PySem.W.Frag} {C D : Addr} {k : Nat} {x : V} {dx : PyData} {H : Hp} {Q : VK} {Ex : XK} (hk : k < 15) (hD : H D = some (.lst (args15 (sub8 (fun _ => .int 1) k x)))) (hx : Dp K H x dx) (lf : leaf dx) (nl : Nol dx) (hp : plB 4 dx = false) (q : ∀ a H', Same H H' → Bd K C H' (.ref a) → Q (.ref a) H') : sp_book_by K C 4 [.ref D] H Q Ex := by
  have hd : ∀ i, i < 15 → fine 4 (sub8 (fun _ => PyData.int 1) k dx i) ∧ Nol (sub8 (fun _ => PyData.int 1) k dx i) := fun i _ => by
    unfold sub8
    by_cases h : i = k
    · rw [if_pos h]; exact ⟨.inl lf, nl⟩
    · rw [if_neg h]; exact ⟨.inl leaf_int, .int 1⟩
  refine ⟨D, _, sub8 (fun _ => PyData.int 1) k dx, rfl, .inl (.inl hD), fun i hi => ⟨?_, (hd i hi).1⟩, fun a dxa w H' e na bk => q a H' e (.inl ⟨a, dxa, w, _, rfl, bk.congr (e := sub8 (fun _ => PyData.int 1) k dx) fun i hi => asTup_of (hd i hi).2, fun i hi => (hd i hi).1, dl_bad hk ?_⟩)⟩
  · unfold sub8
    by_cases h : i = k
    · rw [if_pos h, if_pos h]; exact hx
    · rw [if_neg h, if_neg h]; exact .int 1
  · unfold sub8
    rw [if_pos rfl]; exact hp
section
variable {P : Program} {w : World} {K : PySem.W.Frag} {mg : Str → Option Value} {base : Heap} {f c Pt : Addr} {fd : FuncData} {C CT CR : Addr} {T : List (Addr × Str)}
def sp_law (K : PySem.W.Frag) (T : List (Addr × Str)) : Sp := fun vs H Q _ => ∃ (la : Addr) (nums : List Int), vs = [.ref la] ∧ SqL K H la (nums.map V.int) ∧ Tabs T H ∧ ∀ H', Q (.bl true) H'
def lwI (K : PySem.W.Frag) (p : Addr) (tc : Addr × List Int) (T : List (Addr × Str)) (la : Addr) (_i : Nat) (σ : L2.St) (H' : Hp) : Prop := Pen K H' p tc ∧ Tabs T H' ∧ ∃ a b c d : Option V, σ = [some (.ref la), some (.ref p), a, b, c, d]
theorem flt_bd {sp : Sp} {σ : L2.St} {H : Hp} {Q : VK} {x : V} (hsp : ∀ H Q E, NoBk K C 4 H x → (∀ H' dd, Same H H' → H' dd = some (.xd [("what", .str "book")]) → E (.ref CR) (some dd) H') → sp [x] H Q E) (hT : Tabs T H) (hσ : σ[3]? = some (some x)) (bd : Bd K C H x) (q : Tel K T H Q [.str "paper", .str "book"]) :
    tLam T (TTflt K CT CR) (fun E => tCallS sp (WE fun cls d _ H => E cls d H) (tCons (tVar 3) tNil)) σ H Q :=
  ⟨hT, fun H1 eN T1 E hE => ⟨x, hσ, hsp H1 _ _ (bd.ext eN).no fun H' dd e hdd => hE _ _ _ (.inr ⟨dd, rfl, rfl, hdd, fun t H2 e2 st => q t H2 ((eN.trans (ExtN.of e)).trans (ExtN.of e2)) ((T1.ext e).ext e2) st⟩)⟩⟩
theorem sh_3 : SeqAt.shaped (.list [.tuple [.str "paper", .str "book"], .tuple [.str "paper", .str "book"], .tuple [.str "paper", .str "book"]]) = true := by decide +kernel
theorem ok_law (Z : Zb mg) (D : C8.Def K mg "law" s_law f fd) (hc : fd.code = .ref c) (F : FltC P w K mg base CT CR)
    (c_law_pen : CalX P w K mg base 1 "_law_pen" (sp_law_pen K)) (c_law_right : CalG P w K mg base 33 "_law_right" (sp_law_nr K T)) (c_law_numbers_right : CalG P w K mg base 14 "_law_numbers_right" (sp_law_nr K T)) (c_law_pick : CalX P w K mg base 2 "_law_pick" (sp_law_pick K)) (c_law_made : CalX P w K mg base 8 "_law_made" (sp_book_by K C 4))
    (c_book_text : CalX P w K mg base 10 "book_text" (sp_book_text K C CR 4)) (c_places_of : CalX P w K mg base 10 "places_of" (sp_places_of K C CR 4)) (c_law_count_fault : CalG P w K mg base 13 "_law_count_fault" (sp_law_count_fault K C T 4)) (c_law_read_fault : CalG P w K mg base 32 "_law_read_fault" (sp_law_read_fault K T 20 4))
    (TB : TabB base mg c Pt) {ql : Str} (hq : (("law" : Str) ++ ".<locals>.") ++ "<lambda>" = ql) (hmT : (Pt, ql) ∈ T) (hu : ∀ p ∈ T, p.1 = Pt → p.2 = ql) : FnG P w K mg base 34 f fd ["script"] (sp_law K T) := by
  refine fnG D.fn hc sc_law (fun vs H Q E h => by obtain ⟨la, nums, rfl, _⟩ := h; rfl) fun A outer s H vs Q E hg hr h => ?_
  obtain ⟨la, nums, rfl, sl, hT, q⟩ := h
  have nd := sc_law.nd
  refine ⟨_, (pss_cons (ps_set (i := 1) nd rfl (Or.inl rfl) (pe_x c_law_pen hr (by(omega)) tk0 rfl (pa_cons (pv 0) pa_nil)))
    (pss_cons (ps_for (L2.passes_of rfl) rfl (pi_range1 rfl Z.range (pa_cons pe_int pa_nil)) (pg_name (i := 2) nd rfl (Or.inl rfl)) (pss_one (ps_if (PW.pt (pw_or (pt_not (pt_val (pe_xG c_law_right hr (by(omega)) hg tk0 rfl (pa_cons (pv 1) pa_nil)))) (pw_or1 (pt_not (pt_val (pe_xG c_law_numbers_right hr (by(omega)) hg tk0 rfl (pa_cons (pv 1) pa_nil))))))) (pss_one (ps_ret pe_bl)) pss_nil)))
    (pss_cons (ps_set (i := 3) nd rfl (Or.inr rfl) (pe_x c_law_pick hr (by(omega)) tk0 rfl (pa_cons (pv 1) (pa_cons (pe_lst (pa_cons pe_non (pa_cons pe_int (pa_cons pe_str (pa_cons (pe_x c_law_made hr (by(omega)) tk0 rfl (pa_cons (pe_op op_cat (pe_op op_rep (pe_lst (pa_cons pe_int pa_nil)) pe_int) (pe_lst (pa_cons pe_str pa_nil))) pa_nil)) (pa_cons (pe_x c_law_made hr (by(omega)) tk0 rfl (pa_cons (pe_op op_cat (pe_lst (pa_cons pe_non pa_nil)) (pe_op op_rep (pe_lst (pa_cons pe_int pa_nil)) pe_int)) pa_nil)) (pa_cons (pe_op op_repA (pe_tup (pa_cons pe_int pa_nil)) pe_int) (pa_cons (pe_x c_law_made hr (by(omega)) tk0 rfl (pa_cons (pe_op op_cat (pe_op op_rep (pe_lst (pa_cons pe_int pa_nil)) pe_int) (pe_lst (pa_cons (pe_callTy call_int_str rfl Z.int PyProof.Rows.boot_int (pa_cons (pe_op op_mulS pe_str pe_int) pa_nil)) pa_nil))) pa_nil)) pa_nil)))))))) pa_nil))))
    (pss_cons (ps_set (i := 4) nd rfl (Or.inl rfl) (pe_x c_law_pick hr (by(omega)) tk0 rfl (pa_cons (pv 1) (pa_cons (pe_lst (pa_cons pe_non (pa_cons pe_int (pa_cons pe_bl (pa_cons (pe_lst (pa_cons pe_str pa_nil)) pa_nil))))) pa_nil))))
    (pss_cons (ps_set (i := 5) nd rfl (Or.inl rfl) (pe_lst (pa_cons (pe_flt (T := T) (P := Pt) (t := fun E => tCallS (sp_book_text K C CR 4) (WE fun cls d _ H => E cls d H) _) (k := 31) F rfl hg TB rfl (cx_ql.trans hq) hmT hu hr (by omega) (lamS_by (sc := C8.fnScope s_law) (by decide +kernel)) rfl (fun _ _ _ _ _ => rfl) (fun A outer s H E f c hr2 => (pe_x (X := lamN _ A outer s H E _ f c) c_book_text hr2 (by(omega)) tkN rfl (pa_cons (pv 3) pa_nil)))) (pa_cons (pe_xG c_law_count_fault hr (by(omega)) hg tk0 rfl (pa_cons (pv 3) pa_nil)) pa_nil))))
    (pss_cons (ps_expr (pe_bm PySem.F.plainAttrs_list PySem.F.slot_list_append PySem.F.type_list_append mt_append (pv 5) (pa_cons (pe_flt (T := T) (P := Pt) (t := fun E => tCallS (sp_places_of K C CR 4) (WE fun cls d _ H => E cls d H) _) (k := 31) F rfl hg TB rfl (cx_ql.trans hq) hmT hu hr (by omega) (lamS_by (sc := C8.fnScope s_law) (by decide +kernel)) rfl (fun _ _ _ _ _ => rfl) (fun A outer s H E f c hr2 => (pe_x (X := lamN _ A outer s H E _ f c) c_places_of hr2 (by(omega)) tkN rfl (pa_cons (pv 3) pa_nil)))) pa_nil)))
    (pss_one (ps_ret (pe_and (pe_cmpR (op_eqD (u64 hr)) (pv 5) (pe_op op_rep (pe_lst (pa_cons (pe_tup (pa_cons pe_str (pa_cons pe_str pa_nil))) pa_nil)) pe_int) (nomark _)) (pe_and (pe_cmpR (op_eqD (u64 hr)) (pe_xG c_law_read_fault hr (by(omega)) hg tk0 rfl (pa_cons (pv 4) pa_nil)) (pe_tup (pa_cons pe_str (pa_cons pe_int (pa_cons pe_int pa_nil)))) (nomark _)) (pe_one (pe_cmpR (op_eqD (u64 hr)) (pe_xG c_law_read_fault hr (by(omega)) hg tk0 rfl (pa_cons pe_str pa_nil)) (pe_tup (pa_cons pe_str (pa_cons pe_int (pa_cons pe_int pa_nil)))) (nomark _))))))))))))), ?_⟩
  walk_at "r"
  refine ⟨la, nums, rfl, sl, fun p tc H1 e1 _ pn1 => ?_⟩
  refine ⟨_, rfl, by decide, by decide, ?_⟩
  refine for_it walk_range (lwI K p tc T la) ⟨pn1, hT.ext e1, _, _, _, _, rfl⟩ (fun _ _ _ _ _ => trivial) ?_ ?_
  · rintro i x σ Hb H2 hi ⟨pn2, hT2, a2, a3, a4, a5, rfl⟩ ⟨rfl, rfl⟩
    walk_at "r"
    refine ⟨p, tc, rfl, pn2, hT2, fun H3 k3 pn3 hT3 => ⟨true, rfl, ?_⟩⟩
    rw [if_neg (by decide)]
    refine ⟨p, tc, rfl, pn3, hT3, fun H4 k4 pn4 hT4 => ⟨true, rfl, ?_⟩⟩
    rw [if_neg (by decide)]
    exact ⟨pn4, hT4, _, _, _, _, rfl⟩
  rintro σ H2 ⟨pn2, hT2, a2, a3, a4, a5, rfl⟩
  clear pn1 e1 hT sl
  walk_at "r"
  refine ⟨sz (by decide), fun p1 n1 => rep14 upd_same fun p2 H3 e3 h2 => ⟨sz (by decide), fun p3 n3 => ?_⟩⟩
  have s1 := same_new n1 (.lst [.int 1])
  have s3 := same_new n3 (.lst [.str (Str.ofString "x")])
  refine cat_ (s3 _ _ h2) upd_same (by decide) fun p4 H4 e4 h4 => ?_
  refine made_bad (k := 14) (x := .str "x") (dx := .str "x") (by decide) h4 (.str _) ⟨fun _ z => (nomatch z), fun _ z => (nomatch z)⟩ (.str _) (by decide +kernel) fun b1 H5 e5 bd1 => ?_
  have e25 := (((s1.trans e3).trans s3).trans e4).trans e5
  refine ⟨sz (by decide), fun p5 n5 => ⟨sz (by decide), fun p6 n6 => rep14 upd_same fun p7 H6 e6 h7 => ?_⟩⟩
  have s5 := same_new n5 (.lst [.non])
  have s6 := same_new n6 (.lst [.int 1])
  refine cat_ (e6 _ _ (s6 _ _ upd_same)) h7 (by decide) fun p8 H7 e7 h8 => ?_
  refine made_bad (k := 0) (x := .non) (dx := .none) (by decide) h8 .non ⟨fun _ z => (nomatch z), fun _ z => (nomatch z)⟩ .non (by decide +kernel) fun b2 H8 e8 bd2 => ?_
  have e58 := (((s5.trans s6).trans e6).trans e7).trans e8
  refine ⟨sz (by decide), fun p9 n9 => rep_one (.inl (.inl upd_same)) (by decide) (by decide) fun pt H9 e9 hpt => ⟨sz (by decide), fun p10 n10 => rep14 upd_same fun p11 H10 e10 h11 => ⟨mul7k, _, i401, by rw [z401]; decide, sz (by decide), fun p12 n12 => ?_⟩⟩⟩
  have s9 := same_new n9 (.tup [.int 1])
  have s10 := same_new n10 (.lst [.int 1])
  have s12 := same_new n12 (.lst [.int n401])
  refine cat_ (s12 _ _ h11) upd_same (by decide) fun p13 H11 e11 h13 => ?_
  refine made_bad (k := 14) (x := .int n401) (dx := .int n401) (by decide) h13 (.int _) leaf_int (.int _) (by decide +kernel) fun b3 H12 e12 bd3 => ⟨sz (by decide), fun p14 n14 => ?_⟩
  have s14 := same_new n14 (.lst [.non, .int 3, .str (Str.ofString "book"), .ref b1, .ref b2, .ref pt, .ref b3])
  have e912 := (((s10.trans e10).trans s12).trans e11).trans e12
  have ea := e912.trans s14
  have eb := (s9.trans e9).trans ea
  have ec := e58.trans eb
  have all := e25.trans ec
  have pn14 := pn2.same all
  have B1 := bd1.same ec
  have B2 := bd2.same eb
  have B3 := bd3.same s14
  have dpt : Dp K H9 (.ref pt) (.tuple (List.replicate 15 (.int 1))) := .tup hpt (dp_rep (.int 1) 15)
  have B4 : Bd K C (upd H12 p14 (.lst [.non, .int 3, .str (Str.ofString "book"), .ref b1, .ref b2, .ref pt, .ref b3])) (.ref pt) := .inr ⟨_, Dp.same ea dpt, .tup fun d hd => by rw [(List.mem_replicate.mp hd).2]; exact .int 1⟩
  refine ⟨p, tc, p14, _, rfl, pn14, .inl (.inl upd_same), pn14.ne upd_same, by simp, by simp, fun j x H13 hj k13 pn13 => ?_⟩
  have bx : Bd K C H13 x := by
    refine Bd.butP pn14 k13 ?_
    match j, hj with
    | 0, h => cases h; exact .inr ⟨.none, .non, .non⟩
    | 1, h => cases h; exact .inr ⟨.int 3, .int 3, .int 3⟩
    | 2, h => cases h; exact .inr ⟨.str "book", .str _, .str _⟩
    | 3, h => cases h; exact B1
    | 4, h => cases h; exact B2
    | 5, h => cases h; exact B4
    | 6, h => cases h; exact B3
    | _ + 7, h => cases h
  have hT13 := Tabs.but pn14 k13 (hT2.ext all)
  clear B1 B2 B3 B4 dpt pn14 all ec eb ea e912 s14 n14 bd3 e12 h13 e11 s12 s10 s9 hpt e9 e58 bd2 e8 h8 e7 h7 e6 s6 s5 e25 bd1 e5 h4 e4 s3 h2 e3 s1 h11 e10 n12 n10 n9 n6 n5 n3 n1 hj k13 pn2 hT2
  refine ⟨sz (by decide), fun q1 m1 => ⟨sz (by decide), fun q2 m2 => ?_⟩⟩
  have u1 := same_new m1 (.lst [.str (Str.ofString "limit 1")])
  have u2 := same_new m2 (.lst [.non, .int 3, .bl true, .ref q1])
  have u12 := u1.trans u2
  have pn14 := pn13.same u12
  refine ⟨p, tc, q2, _, rfl, pn14, .inl (.inl upd_same), pn14.ne upd_same, by simp, by simp, fun j2 ov H14 hj2 k14 pn15 => ?_⟩
  have bx14 := Bd.butP pn14 k14 (bx.same u12)
  have hT14 := Tabs.but pn14 k14 (hT13.ext u12)
  have hq1 := k14 _ _ (pn14.ne (u2 _ _ upd_same)) (u2 _ _ upd_same)
  have odd : ∃ kk, (kk == "str") = false ∧ ∀ H', ExtN H14 H' → Kd K H' ov kk := by
    match j2, hj2 with
    | 0, h => cases h; exact ⟨"NoneType", rfl, fun _ _ => Dp.kd .non⟩
    | 1, h => cases h; exact ⟨"int", rfl, fun _ _ => Dp.kd (.int 3)⟩
    | 2, h => cases h; exact ⟨"bool", rfl, fun _ _ => Dp.kd (.bl true)⟩
    | 3, h => cases h; exact ⟨"list", rfl, fun _ e => SqL.kd (.inl (.inl (e _ _ hq1 fun _ z => nomatch z)))⟩
    | _ + 4, h => cases h
  obtain ⟨kk, ks, kd⟩ := odd
  clear hq1 hj2 u12 u2 u1 pn14 k14 bx hT13 pn13
  refine flt_bd (fun H Q E h1 h2 => ⟨x, rfl, .inr ⟨h1, h2⟩⟩) hT14 rfl bx14 fun t1 H15 e15 hT15 st1 => ?_
  refine ⟨x, rfl, hT15, fun H' eN => .inl (bx14.ext (e15.trans eN)).no, fun t2 H16 e16 hT16 st2 => ⟨sz (by decide), fun p3 n3 => ?_⟩⟩
  have s3 := same_new n3 (.lst [.ref t1, .ref t2])
  refine ⟨tyL upd_same, ?_⟩
  have e1416 := (e15.trans e16).trans (ExtN.of s3)
  refine flt_bd (fun H Q E h1 h2 => ⟨x, rfl, .inr ⟨h1, h2⟩⟩) (hT16.ext s3) rfl (bx14.ext e1416) fun t3 H17 e17 hT17 st3 => ?_
  have h3 := e17 _ _ (show (upd H16 p3 (.lst [.ref t1, .ref t2])) p3 = some (.lst [.ref t1, .ref t2]) from upd_same) (fun _ z => nomatch z)
  have D1 := Dp.extN ((e16.trans (ExtN.of s3)).trans e17) (dp_2s st1)
  have D2 := Dp.extN ((ExtN.of s3).trans e17) (dp_2s st2)
  have D3 := dp_2s st3
  have nl2 : Nol (.tuple [.str (Str.ofString "paper"), .str (Str.ofString "book")]) := .tup fun d hd => by
    simp only [List.mem_cons, List.not_mem_nil, or_false] at hd
    rcases hd with rfl | rfl <;> exact .str _
  refine ⟨p3, _, .ref t3, rfl, rfl, h3, szL (by simp), sz (by decide), fun p4 n4 => ⟨sz (by decide), fun p5 n5 => ?_⟩⟩
  have kb : But (· = p3) H17 (upd H17 p3 (.lst ([.ref t1, .ref t2] ++ [.ref t3]))) := But.upd rfl
  have s4 := same_new n4 (.tup [.str (Str.ofString "paper"), .str (Str.ofString "book")])
  have s5 := same_new n5 (.lst [.ref p4])
  refine ⟨p5, 3, [.ref p4], rfl, rfl, upd_same, by decide, by decide, sz (by show 1 * 3 ≤ _; decide), fun p6 n6 => ?_⟩
  have s6 := same_new n6 (.lst (List.replicate (Int.toNat 3) [V.ref p4]).flatten)
  have s46 := (s4.trans s5).trans s6
  have E1 := Dp.same s46 (Dp.but (noTupD h3) kb nl2 D1)
  have E2 := Dp.same s46 (Dp.but (noTupD h3) kb nl2 D2)
  have E3 := Dp.same s46 (Dp.but (noTupD h3) kb nl2 D3)
  have P4 := Dp.same (s5.trans s6) (dp_2s (K := K) (.inl (.inl (show (upd (upd H17 p3 (.lst ([.ref t1, .ref t2] ++ [.ref t3]))) p4 (.tup [.str (Str.ofString "paper"), .str (Str.ofString "book")])) p4 = _ from upd_same))))
  refine ⟨_, _, .lst (.inl (.inl (s46 _ _ upd_same))) (.cons E1 (.cons E2 (.cons E3 .nil))), .lst (.inl (.inl upd_same)) (.cons P4 (.cons P4 (.cons P4 .nil))), sh_3, sh_3, ?_⟩
  rw [PySem.SeqAt.eqv_refl _ (PySem.SeqAt.canLay_of_shaped sh_3)]
  refine ⟨true, rfl, ?_⟩
  rw [if_pos rfl]
  have tN : ∀ {H' : Hp}, (∀ b o, H17 b = some o → ¬ b = p3 → H' b = some o) → ∀ {P : Addr} {q : Str}, TabS H17 P q → TabS H' P q := by
    intro H' hh P q t
    obtain ⟨ps, h1, h2, h3'⟩ := t
    refine ⟨ps, hh _ _ h1 (fun z => by rw [z, h3] at h1; cases h1), h2, fun pos cv hc => ?_⟩
    obtain ⟨c, e1, e2⟩ := h3' pos cv hc
    exact ⟨c, e1, hh _ _ e2 (fun z => by rw [z, h3] at e2; cases e2)⟩
  have hT18 : Tabs T (upd (upd (upd (upd H17 p3 (.lst ([.ref t1, .ref t2] ++ [.ref t3]))) p4 (.tup [.str (Str.ofString "paper"), .str (Str.ofString "book")])) p5 (.lst [.ref p4])) p6 (.lst (List.replicate (Int.toNat 3) [V.ref p4]).flatten)) := fun q hq => tN (fun b o h n => s46 _ _ (kb b o n h)) (hT17 q hq)
  have eN14 : ExtN H14 (upd (upd (upd (upd H17 p3 (.lst ([.ref t1, .ref t2] ++ [.ref t3]))) p4 (.tup [.str (Str.ofString "paper"), .str (Str.ofString "book")])) p5 (.lst [.ref p4])) p6 (.lst (List.replicate (Int.toNat 3) [V.ref p4]).flatten)) := fun b o h nt => s46 _ _ (kb b o (fun z => by
    have z : b = p3 := z
    have := (e15.trans e16) b o h nt
    rw [z, n3] at this; cases this) ((e1416.trans e17) b o h nt))
  refine ⟨ov, rfl, hT18, .inr ⟨kk, ks, fun H' e => kd _ (eN14.trans e), fun l4 H19 e19 hT19 st4 => ⟨sz (by decide), fun p7 n7 => ?_⟩⟩⟩
  have s7 := same_new n7 (.tup [.str (Str.ofString "text"), .int 0, .int 0])
  refine ⟨_, _, due_dp (SqT.same s7 st4), due_dp (.inl (.inl upd_same)), shaped_3 (by decide +kernel) _ _, shaped_3 (by decide +kernel) _ _, ?_⟩
  rw [eqv_3]
  refine ⟨true, rfl, ?_⟩
  rw [if_pos rfl]
  refine rf_text (t := []) (Ls := [[]]) (r := .err 0 0) (by decide) rfl (by decide) (by decide) (br_none rfl) (fun ds h => nomatch h) (hT19.ext s7) fun v5 H20 e20 hT20 dp5 => ⟨sz (by decide), fun p8 n8 => ?_⟩
  have s8 := same_new n8 (.tup [.str (Str.ofString "text"), .int 1, .int 1])
  refine ⟨_, .tuple [.str "text", .int 1, .int 1], Dp.same s8 dp5, due_dp (.inl (.inl upd_same)), shaped_3 (by decide +kernel) 1 1, shaped_3 (by decide +kernel) 1 1, ?_⟩
  rw [show PyData.eqv (datR (.err 0 0)) (.tuple [.str "text", .int 1, .int 1]) = true from eqv_3 _ 1 1]
  exact q _
end
end FP
set_option maxHeartbeats 4000000
/-! the head's facts -/
namespace FP
open PySem PySem.Spec PyProof.Rows L2 LamX
theorem oexB_ok {K : PySem.W.Frag} {C : Addr} (h : oexB K C = true) : OexC K C := by
  obtain ⟨h1, h⟩ := Bool.and_eq_true_iff.mp h
  obtain ⟨h2, h⟩ := Bool.and_eq_true_iff.mp h
  obtain ⟨h3, h⟩ := Bool.and_eq_true_iff.mp h
  obtain ⟨h4, h5⟩ := Bool.and_eq_true_iff.mp h
  refine ⟨?_, He.eqO_ok h2, of_decide_eq_true h3, of_decide_eq_true h4, h5⟩
  split at h1
  · rename_i z dd cd sl ho
    split at h1
    · rename_i C' bm k0 k1 k2 k3 n k5 hm hs
      simp only [Bool.and_eq_true, decide_eq_true_eq, Bool.not_eq_true'] at h1
      obtain ⟨rfl, rfl, rfl, hdl, hdc, hr⟩ := h1
      obtain ⟨nm, bs, mro, ns, qn, hd, sn, sub, ab, col, del⟩ := cd
      dsimp only at hm hdl hdc
      subst hm hdl hdc
      obtain ⟨ls⟩ := sl
      dsimp only at hs
      subst hs
      exact ⟨nm, qn, ns, bs, bm, sn, sub, ab, col, dd, k0, k1, k2, k3, k5, ho, hr⟩
    · cases h1
  · cases h1
theorem exmB_ok {K : PySem.W.Frag} {D : Addr} (h : exmB K D = true) : L2.ExcC K D := by
  obtain ⟨h1, h⟩ := Bool.and_eq_true_iff.mp h
  obtain ⟨h2, h⟩ := Bool.and_eq_true_iff.mp h
  obtain ⟨h3, h⟩ := Bool.and_eq_true_iff.mp h
  obtain ⟨h4, h⟩ := Bool.and_eq_true_iff.mp h
  obtain ⟨h5, h⟩ := Bool.and_eq_true_iff.mp h
  obtain ⟨h6, h⟩ := Bool.and_eq_true_iff.mp h
  obtain ⟨h7, h8⟩ := Bool.and_eq_true_iff.mp h
  exact ⟨He.eqO_ok h1, He.eqO_ok h2, of_decide_eq_true h3, h4, He.eqO_ok h5, He.eqO_ok h6, of_decide_eq_true h7, of_decide_eq_true h8⟩
structure ErrF (K : PySem.W.Frag) (x : Str) : Prop where
  o : OexC K (He.ga K x)
  e : L2.ExcC K (He.ga K x)
  f : XfC K (He.ga K x)
  k : ∀ y, y ∈ kitL → PySem.W.kitOne K (.ref (He.ga K x)) (.ref (He.ga K y)) = some (y == x)
  v : PySem.W.kitOne K (.ref (He.ga K x)) (.type "ValueError") = some true
  i : PySem.W.findIn K (.ref (He.ga K x)) "__init__" = some (some (.ref (He.ma K (He.ga K x) "__init__")))
  t : PySem.W.typeIn K (.ref (He.ma K (He.ga K x) "__init__")) = some (.type "function")
theorem errB_ok {K : PySem.W.Frag} {x : Str} (h : errB K x = true) : ErrF K x := by
  obtain ⟨h1, h⟩ := Bool.and_eq_true_iff.mp h
  obtain ⟨h2, h⟩ := Bool.and_eq_true_iff.mp h
  obtain ⟨h3, h⟩ := Bool.and_eq_true_iff.mp h
  obtain ⟨h4, h⟩ := Bool.and_eq_true_iff.mp h
  obtain ⟨h5, h⟩ := Bool.and_eq_true_iff.mp h
  obtain ⟨h6, h7⟩ := Bool.and_eq_true_iff.mp h
  exact ⟨oexB_ok h1, exmB_ok h2, xfB_ok h3, fun y hy => of_decide_eq_true (List.all_eq_true.mp h4 y hy), of_decide_eq_true h5, He.eqO_ok h6, of_decide_eq_true h7⟩
theorem errS_ok {K : PySem.W.Frag} {x : Str} (h : errS K x = true) : OexC K (He.ga K x) ∧ PySem.W.findIn K (.ref (He.ga K x)) "__init__" = some (some (.ref (He.ma K (He.ga K x) "__init__"))) ∧ PySem.W.typeIn K (.ref (He.ma K (He.ga K x) "__init__")) = some (.type "function") := by
  obtain ⟨h1, h⟩ := Bool.and_eq_true_iff.mp h
  obtain ⟨h2, h3⟩ := Bool.and_eq_true_iff.mp h
  exact ⟨oexB_ok h1, He.eqO_ok h2, of_decide_eq_true h3⟩
structure BookF (K : PySem.W.Frag) : Prop where
  no : ∀ x, x ∈ nmH → PySem.W.findIn K (.ref (He.ga K "Book")) x = some none
  ha : PySem.W.findIn K (.ref (He.ga K "Book")) "__class__" = some (some (.builtin "object.__class__"))
  hn : PySem.W.specialIn K (.builtin "object.__class__") "__get__" = some (some (.builtin "getset_descriptor.__get__"))
  ht : PySem.W.takesIn K (.builtin "object.__class__") = some true
  hm : PySem.W.mroIn K (He.ga K "Book") (.type "object") = some true
  kit : ∀ t, t ∈ kindH → PySem.W.kitOne K (.type t) (.ref (He.ga K "Book")) = some false
  self : PySem.W.kitOne K (.ref (He.ga K "Book")) (.ref (He.ga K "Book")) = some true
  ne : PySem.W.findIn K (.ref (He.ga K "Book")) "__ne__" = some (some (.builtin "object.__ne__"))
  nl : PySem.W.subIn K (.type "list") (.ref (He.ga K "Book")) = some false
theorem bookB_ok {K : PySem.W.Frag} (h : bookB K = true) : BookF K := by
  obtain ⟨h1, h⟩ := Bool.and_eq_true_iff.mp h
  obtain ⟨h2, h⟩ := Bool.and_eq_true_iff.mp h
  obtain ⟨h3, h⟩ := Bool.and_eq_true_iff.mp h
  obtain ⟨h4, h⟩ := Bool.and_eq_true_iff.mp h
  obtain ⟨h5, h⟩ := Bool.and_eq_true_iff.mp h
  obtain ⟨h6, h⟩ := Bool.and_eq_true_iff.mp h
  obtain ⟨h7, h⟩ := Bool.and_eq_true_iff.mp h
  obtain ⟨h8, h9⟩ := Bool.and_eq_true_iff.mp h
  exact ⟨fun x hx => He.eqO_ok (List.all_eq_true.mp h1 x hx), He.eqO_ok h2, He.eqO_ok h3, of_decide_eq_true h4, of_decide_eq_true h5, fun t ht => of_decide_eq_true (List.all_eq_true.mp h6 t ht), of_decide_eq_true h7, He.eqO_ok h8, of_decide_eq_true h9⟩
theorem def_of {K : PySem.W.Frag} {mg : Str → Option Value} {x : Str} {st : Stmt} {dvs : List V} {kws : List (Str × V)} {f : Addr} {fd : FuncData} (F : FunD K x x (C8.fnArgs st) (C8.fnBody st) (C8.fnScope st) dvs kws f fd) (m : mg x = some (.ref f)) : C8.Def K mg x st f fd := by
  obtain ⟨oc, od, dV, kV, doc, pm, an, cdv, ct, osl, e, lk, hcd, _, _⟩ := F.ex
  exact ⟨⟨oc, od, dV, kV, doc, pm, an, cdv, ct, osl, e, lk, hcd⟩, m, F.kp⟩
theorem fun_of {K : PySem.W.Frag} {x q : Str} {st : Stmt} {dvs : List V} {kws : List (Str × V)} {f : Addr} {fd : FuncData} (F : FunD K x q (C8.fnArgs st) (C8.fnBody st) (C8.fnScope st) dvs kws f fd) : C8.Fun K x q st f fd := by
  obtain ⟨oc, od, dV, kV, doc, pm, an, cdv, ct, osl, e, lk, hcd, _, _⟩ := F.ex
  exact ⟨oc, od, dV, kV, doc, pm, an, cdv, ct, osl, e, lk, hcd⟩
end FP
set_option maxHeartbeats 4000000
/-! the law's promise from the head's facts -/
namespace FP
open PySem PySem.Spec PyProof.Rows L2 LamX
section
variable {P : Program} {w : World} {K : PySem.W.Frag} {mg : Str → Option Value} {base h : Heap}
theorem fact_of {f : He.Fa} (c : He.SaysD facts fns K) (i : Nat) (e : facts[i]? = some f := by rfl) : f.ok K = true := c.fact i e
theorem law_says (X : K.In h) (G : h.Ns mainGlobals mg) (c : He.SaysX facts fns [] lams moreB w h K) : ∃ fd : FuncData, (∀ (s : Shared) (uu : Value), BindsTo s fd ⟨[uu], []⟩ [("script", uu)]) ∧
    ∀ base : Heap, K.In base → base.Ns mainGlobals mg → (∀ pr ∈ lams.map (He.cT K), TabB base mg pr.1 pr.2) → FnG P w K mg base 34 (He.ga K "law") fd ["script"] (sp_law K [((He.cT K ("_law_read_fault", none)).2, "_law_read_fault.<locals>.<lambda>"), ((He.cT K ("_law_count_fault", none)).2, "_law_count_fault.<locals>.<lambda>"), ((He.cT K ("law", none)).2, "law.<locals>.<lambda>")]) := by
  have cd := c.t.d
  obtain ⟨mo1, mo⟩ := Bool.and_eq_true_iff.mp c.more
  obtain ⟨mo2, mo⟩ := Bool.and_eq_true_iff.mp mo
  obtain ⟨mo3, mo⟩ := Bool.and_eq_true_iff.mp mo
  obtain ⟨mo5, mo⟩ := Bool.and_eq_true_iff.mp mo
  obtain ⟨mo6, mo⟩ := Bool.and_eq_true_iff.mp mo
  obtain ⟨mo7, mo4⟩ := Bool.and_eq_true_iff.mp mo
  have ET := errB_ok mo2
  have ER := errB_ok mo3
  obtain ⟨EWo, EWi, EWt⟩ := errS_ok mo5
  have BF := bookB_ok mo6
  have nod := of_decide_eq_true mo4
  have G_gcd : mg "gcd" = some (.builtin "math.gcd") := PySem.W.mg_of X G (He.eqO_ok mo1)
  have g_is_integer := He.glo_ok X G (cd.fact 0 (f := .glo "is_integer") rfl)
  have g_is_ratio := He.glo_ok X G (cd.fact 1 (f := .glo "is_ratio") rfl)
  have g_pair := He.glo_ok X G (cd.fact 2 (f := .glo "pair") rfl)
  have g_opposite := He.glo_ok X G (cd.fact 3 (f := .glo "opposite") rfl)
  have g_sign_of := He.glo_ok X G (cd.fact 4 (f := .glo "sign_of") rfl)
  have g_as_tuples := He.glo_ok X G (cd.fact 5 (f := .glo "as_tuples") rfl)
  have g_is_list := He.glo_ok X G (cd.fact 6 (f := .glo "is_list") rfl)
  have g_run_of := He.glo_ok X G (cd.fact 7 (f := .glo "run_of") rfl)
  have g_tokens_of := He.glo_ok X G (cd.fact 8 (f := .glo "tokens_of") rfl)
  have g_is_numeral := He.glo_ok X G (cd.fact 9 (f := .glo "is_numeral") rfl)
  have g_is_small := He.glo_ok X G (cd.fact 10 (f := .glo "is_small") rfl)
  have g_size_text := He.glo_ok X G (cd.fact 11 (f := .glo "size_text") rfl)
  have g_is_plain := He.glo_ok X G (cd.fact 12 (f := .glo "is_plain") rfl)
  have g_text_of_value := He.glo_ok X G (cd.fact 13 (f := .glo "text_of_value") rfl)
  have g_value_text := He.glo_ok X G (cd.fact 14 (f := .glo "value_text") rfl)
  have g_ratio_by := He.glo_ok X G (cd.fact 15 (f := .glo "ratio_by") rfl)
  have g_value_by := He.glo_ok X G (cd.fact 16 (f := .glo "value_by") rfl)
  have g_value_in := He.glo_ok X G (cd.fact 17 (f := .glo "value_in") rfl)
  have g_values_of := He.glo_ok X G (cd.fact 18 (f := .glo "values_of") rfl)
  have g_book_by := He.glo_ok X G (cd.fact 19 (f := .glo "book_by") rfl)
  have g_is_book := He.glo_ok X G (cd.fact 20 (f := .glo "is_book") rfl)
  have g_need_book := He.glo_ok X G (cd.fact 21 (f := .glo "need_book") rfl)
  have g_book_text := He.glo_ok X G (cd.fact 22 (f := .glo "book_text") rfl)
  have g_value_of_line := He.glo_ok X G (cd.fact 23 (f := .glo "value_of_line") rfl)
  have g_book_of_text := He.glo_ok X G (cd.fact 24 (f := .glo "book_of_text") rfl)
  have g_product_of_orders := He.glo_ok X G (cd.fact 25 (f := .glo "product_of_orders") rfl)
  have g_class_number := He.glo_ok X G (cd.fact 26 (f := .glo "class_number") rfl)
  have g_places_of := He.glo_ok X G (cd.fact 27 (f := .glo "places_of") rfl)
  have g__law_pen := He.glo_ok X G (cd.fact 28 (f := .glo "_law_pen") rfl)
  have g__law_draw := He.glo_ok X G (cd.fact 29 (f := .glo "_law_draw") rfl)
  have g__law_pick := He.glo_ok X G (cd.fact 30 (f := .glo "_law_pick") rfl)
  have g__law_is := He.glo_ok X G (cd.fact 31 (f := .glo "_law_is") rfl)
  have g__law_divisor := He.glo_ok X G (cd.fact 32 (f := .glo "_law_divisor") rfl)
  have g__law_low := He.glo_ok X G (cd.fact 33 (f := .glo "_law_low") rfl)
  have g__law_is_ratio := He.glo_ok X G (cd.fact 34 (f := .glo "_law_is_ratio") rfl)
  have g__law_is_whole := He.glo_ok X G (cd.fact 35 (f := .glo "_law_is_whole") rfl)
  have g__law_number := He.glo_ok X G (cd.fact 36 (f := .glo "_law_number") rfl)
  have g__law_wide := He.glo_ok X G (cd.fact 37 (f := .glo "_law_wide") rfl)
  have g__law_fault := He.glo_ok X G (cd.fact 38 (f := .glo "_law_fault") rfl)
  have g__law_kinds := He.glo_ok X G (cd.fact 39 (f := .glo "_law_kinds") rfl)
  have g__law_more_kinds := He.glo_ok X G (cd.fact 40 (f := .glo "_law_more_kinds") rfl)
  have g__law_book_values := He.glo_ok X G (cd.fact 41 (f := .glo "_law_book_values") rfl)
  have g__law_names := He.glo_ok X G (cd.fact 42 (f := .glo "_law_names") rfl)
  have g__law_drawn_value := He.glo_ok X G (cd.fact 43 (f := .glo "_law_drawn_value") rfl)
  have g__law_made := He.glo_ok X G (cd.fact 44 (f := .glo "_law_made") rfl)
  have g__law_right := He.glo_ok X G (cd.fact 45 (f := .glo "_law_right") rfl)
  have g__law_place := He.glo_ok X G (cd.fact 46 (f := .glo "_law_place") rfl)
  have g__law_read_fault := He.glo_ok X G (cd.fact 47 (f := .glo "_law_read_fault") rfl)
  have g__law_numbers_right := He.glo_ok X G (cd.fact 48 (f := .glo "_law_numbers_right") rfl)
  have g__law_count_fault := He.glo_ok X G (cd.fact 49 (f := .glo "_law_count_fault") rfl)
  have g_law := He.glo_ok X G (cd.fact 50 (f := .glo "law") rfl)
  have g_FieldError := He.glo_ok X G (cd.fact 51 (f := .glo "FieldError") rfl)
  have g_BadNumber := He.glo_ok X G (cd.fact 52 (f := .glo "BadNumber") rfl)
  have g_BadRow := He.glo_ok X G (cd.fact 53 (f := .glo "BadRow") rfl)
  have g_BadTable := He.glo_ok X G (cd.fact 54 (f := .glo "BadTable") rfl)
  have g_BadPoly := He.glo_ok X G (cd.fact 55 (f := .glo "BadPoly") rfl)
  have g_BadPaper := He.glo_ok X G (cd.fact 56 (f := .glo "BadPaper") rfl)
  have g_BadName := He.glo_ok X G (cd.fact 57 (f := .glo "BadName") rfl)
  have g_BadText := He.glo_ok X G (cd.fact 58 (f := .glo "BadText") rfl)
  have g_NoPlace := He.glo_ok X G (cd.fact 59 (f := .glo "NoPlace") rfl)
  have g_NoName := He.glo_ok X G (cd.fact 60 (f := .glo "NoName") rfl)
  have g_TakenName := He.glo_ok X G (cd.fact 61 (f := .glo "TakenName") rfl)
  have g_Unlike := He.glo_ok X G (cd.fact 62 (f := .glo "Unlike") rfl)
  have g_NotThere := He.glo_ok X G (cd.fact 63 (f := .glo "NotThere") rfl)
  have g_TooMany := He.glo_ok X G (cd.fact 64 (f := .glo "TooMany") rfl)
  have g_NotKept := He.glo_ok X G (cd.fact 65 (f := .glo "NotKept") rfl)
  have g_NothingToUndo := He.glo_ok X G (cd.fact 66 (f := .glo "NothingToUndo") rfl)
  have g_NothingToRedo := He.glo_ok X G (cd.fact 67 (f := .glo "NothingToRedo") rfl)
  have g_Reader := He.glo_ok X G (cd.fact 68 (f := .glo "Reader") rfl)
  have g_Book := He.glo_ok X G (cd.fact 69 (f := .glo "Book") rfl)
  have g_NAMES := He.glo_ok X G (cd.fact 70 (f := .glo "NAMES") rfl)
  have fr_len := He.free_ok X G (cd.fact 71 (f := .free "len") rfl)
  have fr_isinstance := He.free_ok X G (cd.fact 72 (f := .free "isinstance") rfl)
  have fr_int := He.free_ok X G (cd.fact 73 (f := .free "int") rfl)
  have fr_str := He.free_ok X G (cd.fact 74 (f := .free "str") rfl)
  have fr_bool := He.free_ok X G (cd.fact 75 (f := .free "bool") rfl)
  have fr_list := He.free_ok X G (cd.fact 76 (f := .free "list") rfl)
  have fr_tuple := He.free_ok X G (cd.fact 77 (f := .free "tuple") rfl)
  have fr_abs := He.free_ok X G (cd.fact 78 (f := .free "abs") rfl)
  have fr_all := He.free_ok X G (cd.fact 79 (f := .free "all") rfl)
  have fr_range := He.free_ok X G (cd.fact 80 (f := .free "range") rfl)
  have fr_enumerate := He.free_ok X G (cd.fact 81 (f := .free "enumerate") rfl)
  have fr_repr := He.free_ok X G (cd.fact 82 (f := .free "repr") rfl)
  have fr_zip := He.free_ok X G (cd.fact 83 (f := .free "zip") rfl)
  have fr_ValueError := He.free_ok X G (cd.fact 84 (f := .free "ValueError") rfl)
  have G_MOST_FIGURES := He.int_ok X G (cd.fact 85 (f := .int "MOST_FIGURES" 400) rfl)
  have G_MOST_DEEP := He.int_ok X G (cd.fact 86 (f := .int "MOST_DEEP" 50) rfl)
  have G_FIGURES := He.str_ok X G (cd.fact 87 (f := .str "FIGURES" "0123456789") rfl)
  have G_LETTERS := He.str_ok X G (cd.fact 88 (f := .str "LETTERS" "abcdefghijklmnopqrstuvwxyz") rfl)
  have cl_Reader := He.cls_ok (cd.fact 89 (f := .cls "Reader") rfl)
  have cl_Book := He.cls_ok (cd.fact 90 (f := .cls "Book") rfl)
  have n_Reader_tokens := He.noat_ok (cd.fact 91 (f := .noat "Reader" "tokens") rfl)
  have n_Reader_line := He.noat_ok (cd.fact 92 (f := .noat "Reader" "line") rfl)
  have n_Reader_at := He.noat_ok (cd.fact 93 (f := .noat "Reader" "at") rfl)
  have n_Reader_limit := He.noat_ok (cd.fact 94 (f := .noat "Reader" "limit") rfl)
  have n_Reader_deep := He.noat_ok (cd.fact 95 (f := .noat "Reader" "deep") rfl)
  have me_wrong := He.meth_ok (cd.fact 96 (f := .meth "Reader" "wrong") rfl)
  have me_next_is := He.meth_ok (cd.fact 97 (f := .meth "Reader" "next_is") rfl)
  have me_need := He.meth_ok (cd.fact 98 (f := .meth "Reader" "need") rfl)
  have me_numeral := He.meth_ok (cd.fact 99 (f := .meth "Reader" "numeral") rfl)
  have me_end := He.meth_ok (cd.fact 100 (f := .meth "Reader" "end") rfl)
  have mk_Reader := He.mkr_ok (cd.fact 101 (f := .mkr "Reader") rfl)
  have n_BadText_line := He.noat_ok (cd.fact 102 (f := .noat "BadText" "line") rfl)
  have n_BadText_word := He.noat_ok (cd.fact 103 (f := .noat "BadText" "word") rfl)
  have n_BadRow_what := He.noat_ok (cd.fact 104 (f := .noat "BadRow" "what") rfl)
  have n_BadRow_row := He.noat_ok (cd.fact 105 (f := .noat "BadRow" "row") rfl)
  have x_BadText := He.exm_ok (cd.fact 106 (f := .exm "BadText" "FieldError" true) rfl)
  have x_BadPaper := He.exm_ok (cd.fact 107 (f := .exm "BadPaper" "FieldError" true) rfl)
  have n_BadPaper_what := He.noat_ok (cd.fact 108 (f := .noat "BadPaper" "what") rfl)
  have mk_Book := He.mkr_ok (cd.fact 109 (f := .mkr "Book") rfl)
  have me_Book___eq__ := He.meth_ok (cd.fact 110 (f := .meth "Book" "__eq__") rfl)
  have Z : Zb mg := ⟨fr_len, fr_isinstance, fr_int, fr_str, fr_bool, fr_list, fr_tuple, fr_abs, fr_all, fr_range, fr_enumerate, fr_repr⟩
  have Z_zip := fr_zip
  obtain ⟨fd_is_integer, F_is_integer⟩ := cd.def_ 0 (d := dG "is_integer" s_is_integer) rfl
  have D_is_integer : C8.Def K mg "is_integer" s_is_integer (He.ga K "is_integer") fd_is_integer := def_of F_is_integer g_is_integer
  have b_is_integer : Binds K fd_is_integer ["value"] [] := (FunD.bindsN F_is_integer (ps := ["value"]) fun _ _ _ _ _ _ us hl => match us, hl with | [_], _ => rfl)
  obtain ⟨fd_is_ratio, F_is_ratio⟩ := cd.def_ 1 (d := dG "is_ratio" s_is_ratio) rfl
  have D_is_ratio : C8.Def K mg "is_ratio" s_is_ratio (He.ga K "is_ratio") fd_is_ratio := def_of F_is_ratio g_is_ratio
  have b_is_ratio : Binds K fd_is_ratio ["value"] [] := (FunD.bindsN F_is_ratio (ps := ["value"]) fun _ _ _ _ _ _ us hl => match us, hl with | [_], _ => rfl)
  obtain ⟨fd_pair, F_pair⟩ := cd.def_ 2 (d := dG "pair" s_pair) rfl
  have D_pair : C8.Def K mg "pair" s_pair (He.ga K "pair") fd_pair := def_of F_pair g_pair
  have b_pair : Binds K fd_pair ["number"] [] := (FunD.bindsN F_pair (ps := ["number"]) fun _ _ _ _ _ _ us hl => match us, hl with | [_], _ => rfl)
  obtain ⟨fd_opposite, F_opposite⟩ := cd.def_ 3 (d := dG "opposite" s_opposite) rfl
  have D_opposite : C8.Def K mg "opposite" s_opposite (He.ga K "opposite") fd_opposite := def_of F_opposite g_opposite
  have b_opposite : Binds K fd_opposite ["number"] [] := (FunD.bindsN F_opposite (ps := ["number"]) fun _ _ _ _ _ _ us hl => match us, hl with | [_], _ => rfl)
  obtain ⟨fd_sign_of, F_sign_of⟩ := cd.def_ 4 (d := dG "sign_of" s_sign_of) rfl
  have D_sign_of : C8.Def K mg "sign_of" s_sign_of (He.ga K "sign_of") fd_sign_of := def_of F_sign_of g_sign_of
  have b_sign_of : Binds K fd_sign_of ["number"] [] := (FunD.bindsN F_sign_of (ps := ["number"]) fun _ _ _ _ _ _ us hl => match us, hl with | [_], _ => rfl)
  obtain ⟨fd_as_tuples, F_as_tuples⟩ := cd.def_ 5 (d := dG "as_tuples" s_as_tuples) rfl
  have D_as_tuples : C8.Def K mg "as_tuples" s_as_tuples (He.ga K "as_tuples") fd_as_tuples := def_of F_as_tuples g_as_tuples
  have b_as_tuples : Binds K fd_as_tuples ["value"] [] := (FunD.bindsN F_as_tuples (ps := ["value"]) fun _ _ _ _ _ _ us hl => match us, hl with | [_], _ => rfl)
  obtain ⟨fd_is_list, F_is_list⟩ := cd.def_ 6 (d := dG "is_list" s_is_list) rfl
  have D_is_list : C8.Def K mg "is_list" s_is_list (He.ga K "is_list") fd_is_list := def_of F_is_list g_is_list
  have b_is_list : Binds K fd_is_list ["value"] [] := (FunD.bindsN F_is_list (ps := ["value"]) fun _ _ _ _ _ _ us hl => match us, hl with | [_], _ => rfl)
  obtain ⟨fd_run_of, F_run_of⟩ := cd.def_ 7 (d := dG "run_of" s_run_of) rfl
  have D_run_of : C8.Def K mg "run_of" s_run_of (He.ga K "run_of") fd_run_of := def_of F_run_of g_run_of
  have b_run_of : Binds K fd_run_of ["text", "at", "some"] [] := (FunD.bindsN F_run_of (ps := ["text", "at", "some"]) fun _ _ _ _ _ _ us hl => match us, hl with | [_, _, _], _ => rfl)
  obtain ⟨fd_tokens_of, F_tokens_of⟩ := cd.def_ 8 (d := dG "tokens_of" s_tokens_of) rfl
  have D_tokens_of : C8.Def K mg "tokens_of" s_tokens_of (He.ga K "tokens_of") fd_tokens_of := def_of F_tokens_of g_tokens_of
  have b_tokens_of : Binds K fd_tokens_of ["text"] [] := (FunD.bindsN F_tokens_of (ps := ["text"]) fun _ _ _ _ _ _ us hl => match us, hl with | [_], _ => rfl)
  obtain ⟨fd_is_numeral, F_is_numeral⟩ := cd.def_ 9 (d := dG "is_numeral" s_is_numeral) rfl
  have D_is_numeral : C8.Def K mg "is_numeral" s_is_numeral (He.ga K "is_numeral") fd_is_numeral := def_of F_is_numeral g_is_numeral
  have b_is_numeral : Binds K fd_is_numeral ["token"] [] := (FunD.bindsN F_is_numeral (ps := ["token"]) fun _ _ _ _ _ _ us hl => match us, hl with | [_], _ => rfl)
  obtain ⟨fd_is_small, F_is_small⟩ := cd.def_ 10 (d := dG "is_small" s_is_small) rfl
  have D_is_small : C8.Def K mg "is_small" s_is_small (He.ga K "is_small") fd_is_small := def_of F_is_small g_is_small
  have b_is_small : Binds K fd_is_small ["one"] [] := (FunD.bindsN F_is_small (ps := ["one"]) fun _ _ _ _ _ _ us hl => match us, hl with | [_], _ => rfl)
  obtain ⟨fd_size_text, F_size_text⟩ := cd.def_ 11 (d := dG "size_text" s_size_text) rfl
  have D_size_text : C8.Def K mg "size_text" s_size_text (He.ga K "size_text") fd_size_text := def_of F_size_text g_size_text
  have b_size_text : Binds K fd_size_text ["number"] [] := (FunD.bindsN F_size_text (ps := ["number"]) fun _ _ _ _ _ _ us hl => match us, hl with | [_], _ => rfl)
  obtain ⟨fd_is_plain, F_is_plain⟩ := cd.def_ 12 (d := dPl) rfl
  have D_is_plain : C8.Def K mg "is_plain" s_is_plain (He.ga K "is_plain") fd_is_plain := def_of F_is_plain g_is_plain
  obtain ⟨fd_text_of_value, F_text_of_value⟩ := cd.def_ 13 (d := dG "text_of_value" s_text_of_value) rfl
  have D_text_of_value : C8.Def K mg "text_of_value" s_text_of_value (He.ga K "text_of_value") fd_text_of_value := def_of F_text_of_value g_text_of_value
  have b_text_of_value : Binds K fd_text_of_value ["value"] [] := (FunD.bindsN F_text_of_value (ps := ["value"]) fun _ _ _ _ _ _ us hl => match us, hl with | [_], _ => rfl)
  obtain ⟨fd_value_text, F_value_text⟩ := cd.def_ 14 (d := dG "value_text" s_value_text) rfl
  have D_value_text : C8.Def K mg "value_text" s_value_text (He.ga K "value_text") fd_value_text := def_of F_value_text g_value_text
  have b_value_text : Binds K fd_value_text ["value"] [] := (FunD.bindsN F_value_text (ps := ["value"]) fun _ _ _ _ _ _ us hl => match us, hl with | [_], _ => rfl)
  obtain ⟨fd_ratio_by, F_ratio_by⟩ := cd.def_ 15 (d := dG "ratio_by" s_ratio_by) rfl
  have D_ratio_by : C8.Def K mg "ratio_by" s_ratio_by (He.ga K "ratio_by") fd_ratio_by := def_of F_ratio_by g_ratio_by
  have b_ratio_by : Binds K fd_ratio_by ["reader"] [] := (FunD.bindsN F_ratio_by (ps := ["reader"]) fun _ _ _ _ _ _ us hl => match us, hl with | [_], _ => rfl)
  obtain ⟨fd_value_by, F_value_by⟩ := cd.def_ 16 (d := dG "value_by" s_value_by) rfl
  have D_value_by : C8.Def K mg "value_by" s_value_by (He.ga K "value_by") fd_value_by := def_of F_value_by g_value_by
  have b_value_by : Binds K fd_value_by ["reader"] [] := (FunD.bindsN F_value_by (ps := ["reader"]) fun _ _ _ _ _ _ us hl => match us, hl with | [_], _ => rfl)
  obtain ⟨fd_value_in, F_value_in⟩ := cd.def_ 17 (d := dG "value_in" s_value_in) rfl
  have D_value_in : C8.Def K mg "value_in" s_value_in (He.ga K "value_in") fd_value_in := def_of F_value_in g_value_in
  have b_value_in : Binds K fd_value_in ["tokens", "at", "line"] [] := (FunD.bindsN F_value_in (ps := ["tokens", "at", "line"]) fun _ _ _ _ _ _ us hl => match us, hl with | [_, _, _], _ => rfl)
  obtain ⟨fd_values_of, F_values_of⟩ := cd.def_ 18 (d := dG "values_of" s_values_of) rfl
  have D_values_of : C8.Def K mg "values_of" s_values_of (He.ga K "values_of") fd_values_of := def_of F_values_of g_values_of
  have b_values_of : Binds K fd_values_of ["book"] [] := (FunD.bindsN F_values_of (ps := ["book"]) fun _ _ _ _ _ _ us hl => match us, hl with | [_], _ => rfl)
  obtain ⟨fd_book_by, F_book_by⟩ := cd.def_ 19 (d := dG "book_by" s_book_by) rfl
  have D_book_by : C8.Def K mg "book_by" s_book_by (He.ga K "book_by") fd_book_by := def_of F_book_by g_book_by
  have b_book_by : Binds K fd_book_by ["values"] [] := (FunD.bindsN F_book_by (ps := ["values"]) fun _ _ _ _ _ _ us hl => match us, hl with | [_], _ => rfl)
  obtain ⟨fd_is_book, F_is_book⟩ := cd.def_ 20 (d := dG "is_book" s_is_book) rfl
  have D_is_book : C8.Def K mg "is_book" s_is_book (He.ga K "is_book") fd_is_book := def_of F_is_book g_is_book
  have b_is_book : Binds K fd_is_book ["value"] [] := (FunD.bindsN F_is_book (ps := ["value"]) fun _ _ _ _ _ _ us hl => match us, hl with | [_], _ => rfl)
  obtain ⟨fd_need_book, F_need_book⟩ := cd.def_ 21 (d := dG "need_book" s_need_book) rfl
  have D_need_book : C8.Def K mg "need_book" s_need_book (He.ga K "need_book") fd_need_book := def_of F_need_book g_need_book
  have b_need_book : Binds K fd_need_book ["book"] [] := (FunD.bindsN F_need_book (ps := ["book"]) fun _ _ _ _ _ _ us hl => match us, hl with | [_], _ => rfl)
  obtain ⟨fd_book_text, F_book_text⟩ := cd.def_ 22 (d := dG "book_text" s_book_text) rfl
  have D_book_text : C8.Def K mg "book_text" s_book_text (He.ga K "book_text") fd_book_text := def_of F_book_text g_book_text
  have b_book_text : Binds K fd_book_text ["book"] [] := (FunD.bindsN F_book_text (ps := ["book"]) fun _ _ _ _ _ _ us hl => match us, hl with | [_], _ => rfl)
  obtain ⟨fd_value_of_line, F_value_of_line⟩ := cd.def_ 23 (d := dG "value_of_line" s_value_of_line) rfl
  have D_value_of_line : C8.Def K mg "value_of_line" s_value_of_line (He.ga K "value_of_line") fd_value_of_line := def_of F_value_of_line g_value_of_line
  have b_value_of_line : Binds K fd_value_of_line ["line", "name", "number"] [] := (FunD.bindsN F_value_of_line (ps := ["line", "name", "number"]) fun _ _ _ _ _ _ us hl => match us, hl with | [_, _, _], _ => rfl)
  obtain ⟨fd_book_of_text, F_book_of_text⟩ := cd.def_ 24 (d := dG "book_of_text" s_book_of_text) rfl
  have D_book_of_text : C8.Def K mg "book_of_text" s_book_of_text (He.ga K "book_of_text") fd_book_of_text := def_of F_book_of_text g_book_of_text
  have b_book_of_text : Binds K fd_book_of_text ["text"] [] := (FunD.bindsN F_book_of_text (ps := ["text"]) fun _ _ _ _ _ _ us hl => match us, hl with | [_], _ => rfl)
  obtain ⟨fd_product_of_orders, F_product_of_orders⟩ := cd.def_ 25 (d := dG "product_of_orders" s_product_of_orders) rfl
  have D_product_of_orders : C8.Def K mg "product_of_orders" s_product_of_orders (He.ga K "product_of_orders") fd_product_of_orders := def_of F_product_of_orders g_product_of_orders
  have b_product_of_orders : Binds K fd_product_of_orders ["book"] [] := (FunD.bindsN F_product_of_orders (ps := ["book"]) fun _ _ _ _ _ _ us hl => match us, hl with | [_], _ => rfl)
  obtain ⟨fd_class_number, F_class_number⟩ := cd.def_ 26 (d := dG "class_number" s_class_number) rfl
  have D_class_number : C8.Def K mg "class_number" s_class_number (He.ga K "class_number") fd_class_number := def_of F_class_number g_class_number
  have b_class_number : Binds K fd_class_number ["book"] [] := (FunD.bindsN F_class_number (ps := ["book"]) fun _ _ _ _ _ _ us hl => match us, hl with | [_], _ => rfl)
  obtain ⟨fd_places_of, F_places_of⟩ := cd.def_ 27 (d := dG "places_of" s_places_of) rfl
  have D_places_of : C8.Def K mg "places_of" s_places_of (He.ga K "places_of") fd_places_of := def_of F_places_of g_places_of
  have b_places_of : Binds K fd_places_of ["book"] [] := (FunD.bindsN F_places_of (ps := ["book"]) fun _ _ _ _ _ _ us hl => match us, hl with | [_], _ => rfl)
  obtain ⟨fd__law_pen, F__law_pen⟩ := cd.def_ 28 (d := dG "_law_pen" s_law_pen) rfl
  have D__law_pen : C8.Def K mg "_law_pen" s_law_pen (He.ga K "_law_pen") fd__law_pen := def_of F__law_pen g__law_pen
  have b__law_pen : Binds K fd__law_pen ["script"] [] := (FunD.bindsN F__law_pen (ps := ["script"]) fun _ _ _ _ _ _ us hl => match us, hl with | [_], _ => rfl)
  obtain ⟨fd__law_draw, F__law_draw⟩ := cd.def_ 29 (d := dG "_law_draw" s_law_draw) rfl
  have D__law_draw : C8.Def K mg "_law_draw" s_law_draw (He.ga K "_law_draw") fd__law_draw := def_of F__law_draw g__law_draw
  have b__law_draw : Binds K fd__law_draw ["pen", "many"] [] := (FunD.bindsN F__law_draw (ps := ["pen", "many"]) fun _ _ _ _ _ _ us hl => match us, hl with | [_, _], _ => rfl)
  obtain ⟨fd__law_pick, F__law_pick⟩ := cd.def_ 30 (d := dG "_law_pick" s_law_pick) rfl
  have D__law_pick : C8.Def K mg "_law_pick" s_law_pick (He.ga K "_law_pick") fd__law_pick := def_of F__law_pick g__law_pick
  have b__law_pick : Binds K fd__law_pick ["pen", "some"] [] := (FunD.bindsN F__law_pick (ps := ["pen", "some"]) fun _ _ _ _ _ _ us hl => match us, hl with | [_, _], _ => rfl)
  obtain ⟨fd__law_is, F__law_is⟩ := cd.def_ 31 (d := dG "_law_is" s_law_is) rfl
  have D__law_is : C8.Def K mg "_law_is" s_law_is (He.ga K "_law_is") fd__law_is := def_of F__law_is g__law_is
  have b__law_is : Binds K fd__law_is ["told", "due"] [] := (FunD.bindsN F__law_is (ps := ["told", "due"]) fun _ _ _ _ _ _ us hl => match us, hl with | [_, _], _ => rfl)
  obtain ⟨fd__law_divisor, F__law_divisor⟩ := cd.def_ 32 (d := dG "_law_divisor" s_law_divisor) rfl
  have D__law_divisor : C8.Def K mg "_law_divisor" s_law_divisor (He.ga K "_law_divisor") fd__law_divisor := def_of F__law_divisor g__law_divisor
  have b__law_divisor : Binds K fd__law_divisor ["one", "other"] [] := (FunD.bindsN F__law_divisor (ps := ["one", "other"]) fun _ _ _ _ _ _ us hl => match us, hl with | [_, _], _ => rfl)
  obtain ⟨fd__law_low, F__law_low⟩ := cd.def_ 33 (d := dG "_law_low" s_law_low) rfl
  have D__law_low : C8.Def K mg "_law_low" s_law_low (He.ga K "_law_low") fd__law_low := def_of F__law_low g__law_low
  have b__law_low : Binds K fd__law_low ["top", "bottom"] [] := (FunD.bindsN F__law_low (ps := ["top", "bottom"]) fun _ _ _ _ _ _ us hl => match us, hl with | [_, _], _ => rfl)
  obtain ⟨fd__law_is_ratio, F__law_is_ratio⟩ := cd.def_ 34 (d := dG "_law_is_ratio" s_law_is_ratio) rfl
  have D__law_is_ratio : C8.Def K mg "_law_is_ratio" s_law_is_ratio (He.ga K "_law_is_ratio") fd__law_is_ratio := def_of F__law_is_ratio g__law_is_ratio
  have b__law_is_ratio : Binds K fd__law_is_ratio ["value"] [] := (FunD.bindsN F__law_is_ratio (ps := ["value"]) fun _ _ _ _ _ _ us hl => match us, hl with | [_], _ => rfl)
  obtain ⟨fd__law_is_whole, F__law_is_whole⟩ := cd.def_ 35 (d := dG "_law_is_whole" s_law_is_whole) rfl
  have D__law_is_whole : C8.Def K mg "_law_is_whole" s_law_is_whole (He.ga K "_law_is_whole") fd__law_is_whole := def_of F__law_is_whole g__law_is_whole
  have b__law_is_whole : Binds K fd__law_is_whole ["value"] [] := (FunD.bindsN F__law_is_whole (ps := ["value"]) fun _ _ _ _ _ _ us hl => match us, hl with | [_], _ => rfl)
  obtain ⟨fd__law_number, F__law_number⟩ := cd.def_ 36 (d := dG "_law_number" s_law_number) rfl
  have D__law_number : C8.Def K mg "_law_number" s_law_number (He.ga K "_law_number") fd__law_number := def_of F__law_number g__law_number
  have b__law_number : Binds K fd__law_number ["pen", "size"] [] := (FunD.bindsN F__law_number (ps := ["pen", "size"]) fun _ _ _ _ _ _ us hl => match us, hl with | [_, _], _ => rfl)
  obtain ⟨fd__law_wide, F__law_wide⟩ := cd.def_ 37 (d := dG "_law_wide" s_law_wide) rfl
  have D__law_wide : C8.Def K mg "_law_wide" s_law_wide (He.ga K "_law_wide") fd__law_wide := def_of F__law_wide g__law_wide
  have b__law_wide : Binds K fd__law_wide ["pen", "figures"] [] := (FunD.bindsN F__law_wide (ps := ["pen", "figures"]) fun _ _ _ _ _ _ us hl => match us, hl with | [_, _], _ => rfl)
  obtain ⟨fd__law_fault, F__law_fault⟩ := cd.def_ 38 (d := dG "_law_fault" s_law_fault) rfl
  have D__law_fault : C8.Def K mg "_law_fault" s_law_fault (He.ga K "_law_fault") fd__law_fault := def_of F__law_fault g__law_fault
  have b__law_fault : Binds K fd__law_fault ["call"] [] := (FunD.bindsN F__law_fault (ps := ["call"]) fun _ _ _ _ _ _ us hl => match us, hl with | [_], _ => rfl)
  obtain ⟨fd__law_kinds, F__law_kinds⟩ := cd.def_ 39 (d := dG "_law_kinds" s_law_kinds) rfl
  have D__law_kinds : C8.Def K mg "_law_kinds" s_law_kinds (He.ga K "_law_kinds") fd__law_kinds := def_of F__law_kinds g__law_kinds
  have b__law_kinds : Binds K fd__law_kinds ["e"] [] := (FunD.bindsN F__law_kinds (ps := ["e"]) fun _ _ _ _ _ _ us hl => match us, hl with | [_], _ => rfl)
  obtain ⟨fd__law_more_kinds, F__law_more_kinds⟩ := cd.def_ 40 (d := dG "_law_more_kinds" s_law_more_kinds) rfl
  have D__law_more_kinds : C8.Def K mg "_law_more_kinds" s_law_more_kinds (He.ga K "_law_more_kinds") fd__law_more_kinds := def_of F__law_more_kinds g__law_more_kinds
  have b__law_more_kinds : Binds K fd__law_more_kinds ["e"] [] := (FunD.bindsN F__law_more_kinds (ps := ["e"]) fun _ _ _ _ _ _ us hl => match us, hl with | [_], _ => rfl)
  obtain ⟨fd__law_book_values, F__law_book_values⟩ := cd.def_ 41 (d := dG "_law_book_values" s_law_book_values) rfl
  have D__law_book_values : C8.Def K mg "_law_book_values" s_law_book_values (He.ga K "_law_book_values") fd__law_book_values := def_of F__law_book_values g__law_book_values
  have b__law_book_values : Binds K fd__law_book_values ["book"] [] := (FunD.bindsN F__law_book_values (ps := ["book"]) fun _ _ _ _ _ _ us hl => match us, hl with | [_], _ => rfl)
  obtain ⟨fd__law_names, F__law_names⟩ := cd.def_ 42 (d := dG "_law_names" s_law_names) rfl
  have D__law_names : C8.Def K mg "_law_names" s_law_names (He.ga K "_law_names") fd__law_names := def_of F__law_names g__law_names
  have b__law_names : Binds K fd__law_names [] [] := (FunD.bindsN F__law_names (ps := []) fun _ _ _ _ _ _ us hl => match us, hl with | [], _ => rfl)
  obtain ⟨fd__law_drawn_value, F__law_drawn_value⟩ := cd.def_ 43 (d := dG "_law_drawn_value" s_law_drawn_value) rfl
  have D__law_drawn_value : C8.Def K mg "_law_drawn_value" s_law_drawn_value (He.ga K "_law_drawn_value") fd__law_drawn_value := def_of F__law_drawn_value g__law_drawn_value
  have b__law_drawn_value : Binds K fd__law_drawn_value ["pen", "deep"] [] := (FunD.bindsN F__law_drawn_value (ps := ["pen", "deep"]) fun _ _ _ _ _ _ us hl => match us, hl with | [_, _], _ => rfl)
  obtain ⟨fd__law_made, F__law_made⟩ := cd.def_ 44 (d := dG "_law_made" s_law_made) rfl
  have D__law_made : C8.Def K mg "_law_made" s_law_made (He.ga K "_law_made") fd__law_made := def_of F__law_made g__law_made
  have b__law_made : Binds K fd__law_made ["values"] [] := (FunD.bindsN F__law_made (ps := ["values"]) fun _ _ _ _ _ _ us hl => match us, hl with | [_], _ => rfl)
  obtain ⟨fd__law_right, F__law_right⟩ := cd.def_ 45 (d := dG "_law_right" s_law_right) rfl
  have D__law_right : C8.Def K mg "_law_right" s_law_right (He.ga K "_law_right") fd__law_right := def_of F__law_right g__law_right
  have b__law_right : Binds K fd__law_right ["pen"] [] := (FunD.bindsN F__law_right (ps := ["pen"]) fun _ _ _ _ _ _ us hl => match us, hl with | [_], _ => rfl)
  obtain ⟨fd__law_place, F__law_place⟩ := cd.def_ 46 (d := dG "_law_place" s_law_place) rfl
  have D__law_place : C8.Def K mg "_law_place" s_law_place (He.ga K "_law_place") fd__law_place := def_of F__law_place g__law_place
  have b__law_place : Binds K fd__law_place ["line"] [] := (FunD.bindsN F__law_place (ps := ["line"]) fun _ _ _ _ _ _ us hl => match us, hl with | [_], _ => rfl)
  obtain ⟨fd__law_read_fault, F__law_read_fault⟩ := cd.def_ 47 (d := dG "_law_read_fault" s_law_read_fault) rfl
  have D__law_read_fault : C8.Def K mg "_law_read_fault" s_law_read_fault (He.ga K "_law_read_fault") fd__law_read_fault := def_of F__law_read_fault g__law_read_fault
  have b__law_read_fault : Binds K fd__law_read_fault ["text"] [] := (FunD.bindsN F__law_read_fault (ps := ["text"]) fun _ _ _ _ _ _ us hl => match us, hl with | [_], _ => rfl)
  obtain ⟨fd__law_numbers_right, F__law_numbers_right⟩ := cd.def_ 48 (d := dG "_law_numbers_right" s_law_numbers_right) rfl
  have D__law_numbers_right : C8.Def K mg "_law_numbers_right" s_law_numbers_right (He.ga K "_law_numbers_right") fd__law_numbers_right := def_of F__law_numbers_right g__law_numbers_right
  have b__law_numbers_right : Binds K fd__law_numbers_right ["pen"] [] := (FunD.bindsN F__law_numbers_right (ps := ["pen"]) fun _ _ _ _ _ _ us hl => match us, hl with | [_], _ => rfl)
  obtain ⟨fd__law_count_fault, F__law_count_fault⟩ := cd.def_ 49 (d := dG "_law_count_fault" s_law_count_fault) rfl
  have D__law_count_fault : C8.Def K mg "_law_count_fault" s_law_count_fault (He.ga K "_law_count_fault") fd__law_count_fault := def_of F__law_count_fault g__law_count_fault
  have b__law_count_fault : Binds K fd__law_count_fault ["book"] [] := (FunD.bindsN F__law_count_fault (ps := ["book"]) fun _ _ _ _ _ _ us hl => match us, hl with | [_], _ => rfl)
  obtain ⟨fd_law, F_law⟩ := cd.def_ 50 (d := dG "law" s_law) rfl
  have D_law : C8.Def K mg "law" s_law (He.ga K "law") fd_law := def_of F_law g_law
  have b_law : Binds K fd_law ["script"] [] := (FunD.bindsN F_law (ps := ["script"]) fun _ _ _ _ _ _ us hl => match us, hl with | [_], _ => rfl)
  obtain ⟨fd_Reader___init__, F_Reader___init__⟩ := cd.def_ 51 (d := dM "Reader" "__init__" "Reader.__init__" s_Reader___init__) rfl
  have U_Reader___init__ : C8.Fun K "__init__" "Reader.__init__" s_Reader___init__ (He.ma K (He.ga K "Reader") "__init__") fd_Reader___init__ := fun_of F_Reader___init__
  have b_Reader___init__ : Binds K fd_Reader___init__ ["self", "tokens", "line"] [] := (FunD.bindsN F_Reader___init__ (ps := ["self", "tokens", "line"]) fun _ _ _ _ _ _ us hl => match us, hl with | [_, _, _], _ => rfl)
  obtain ⟨fd_Reader_wrong, F_Reader_wrong⟩ := cd.def_ 52 (d := dM "Reader" "wrong" "Reader.wrong" s_Reader_wrong) rfl
  have U_Reader_wrong : C8.Fun K "wrong" "Reader.wrong" s_Reader_wrong (He.ma K (He.ga K "Reader") "wrong") fd_Reader_wrong := fun_of F_Reader_wrong
  have b_Reader_wrong : Binds K fd_Reader_wrong ["self"] [] := (FunD.bindsN F_Reader_wrong (ps := ["self"]) fun _ _ _ _ _ _ us hl => match us, hl with | [_], _ => rfl)
  obtain ⟨fd_Reader_next_is, F_Reader_next_is⟩ := cd.def_ 53 (d := dM "Reader" "next_is" "Reader.next_is" s_Reader_next_is) rfl
  have U_Reader_next_is : C8.Fun K "next_is" "Reader.next_is" s_Reader_next_is (He.ma K (He.ga K "Reader") "next_is") fd_Reader_next_is := fun_of F_Reader_next_is
  have b_Reader_next_is : Binds K fd_Reader_next_is ["self", "token"] [] := (FunD.bindsN F_Reader_next_is (ps := ["self", "token"]) fun _ _ _ _ _ _ us hl => match us, hl with | [_, _], _ => rfl)
  obtain ⟨fd_Reader_need, F_Reader_need⟩ := cd.def_ 54 (d := dM "Reader" "need" "Reader.need" s_Reader_need) rfl
  have U_Reader_need : C8.Fun K "need" "Reader.need" s_Reader_need (He.ma K (He.ga K "Reader") "need") fd_Reader_need := fun_of F_Reader_need
  have b_Reader_need : Binds K fd_Reader_need ["self", "token"] [] := (FunD.bindsN F_Reader_need (ps := ["self", "token"]) fun _ _ _ _ _ _ us hl => match us, hl with | [_, _], _ => rfl)
  obtain ⟨fd_Reader_numeral, F_Reader_numeral⟩ := cd.def_ 55 (d := dM "Reader" "numeral" "Reader.numeral" s_Reader_numeral) rfl
  have U_Reader_numeral : C8.Fun K "numeral" "Reader.numeral" s_Reader_numeral (He.ma K (He.ga K "Reader") "numeral") fd_Reader_numeral := fun_of F_Reader_numeral
  have b_Reader_numeral : Binds K fd_Reader_numeral ["self"] [] := (FunD.bindsN F_Reader_numeral (ps := ["self"]) fun _ _ _ _ _ _ us hl => match us, hl with | [_], _ => rfl)
  obtain ⟨fd_Reader_end, F_Reader_end⟩ := cd.def_ 56 (d := dM "Reader" "end" "Reader.end" s_Reader_end) rfl
  have U_Reader_end : C8.Fun K "end" "Reader.end" s_Reader_end (He.ma K (He.ga K "Reader") "end") fd_Reader_end := fun_of F_Reader_end
  have b_Reader_end : Binds K fd_Reader_end ["self"] [] := (FunD.bindsN F_Reader_end (ps := ["self"]) fun _ _ _ _ _ _ us hl => match us, hl with | [_], _ => rfl)
  obtain ⟨fd_Book___init__, F_Book___init__⟩ := cd.def_ 57 (d := dM "Book" "__init__" "Book.__init__" s_Book___init__) rfl
  have U_Book___init__ : C8.Fun K "__init__" "Book.__init__" s_Book___init__ (He.ma K (He.ga K "Book") "__init__") fd_Book___init__ := fun_of F_Book___init__
  have b_Book___init__ : Binds K fd_Book___init__ ["self", "polynomial", "paper", "stretches", "base", "greatest", "bound", "above", "gens", "orders", "goals", "rows", "torsion", "units", "limit", "signs"] [] := (FunD.bindsN F_Book___init__ (ps := ["self", "polynomial", "paper", "stretches", "base", "greatest", "bound", "above", "gens", "orders", "goals", "rows", "torsion", "units", "limit", "signs"]) fun _ _ _ _ _ _ us hl => match us, hl with | [_, _, _, _, _, _, _, _, _, _, _, _, _, _, _, _], _ => rfl)
  obtain ⟨fd_Book___eq__, F_Book___eq__⟩ := cd.def_ 58 (d := dM "Book" "__eq__" "Book.__eq__" s_Book___eq__) rfl
  have U_Book___eq__ : C8.Fun K "__eq__" "Book.__eq__" s_Book___eq__ (He.ma K (He.ga K "Book") "__eq__") fd_Book___eq__ := fun_of F_Book___eq__
  have b_Book___eq__ : Binds K fd_Book___eq__ ["self", "other"] [] := (FunD.bindsN F_Book___eq__ (ps := ["self", "other"]) fun _ _ _ _ _ _ us hl => match us, hl with | [_, _], _ => rfl)
  obtain ⟨fd_BadRow___init__, F_BadRow___init__⟩ := cd.def_ 59 (d := dM "BadRow" "__init__" "BadRow.__init__" s_BadRow___init__) rfl
  have U_BadRow___init__ : C8.Fun K "__init__" "BadRow.__init__" s_BadRow___init__ (He.ma K (He.ga K "BadRow") "__init__") fd_BadRow___init__ := fun_of F_BadRow___init__
  have b_BadRow___init__ : Binds K fd_BadRow___init__ ["self", "what", "row"] [] := (FunD.bindsN F_BadRow___init__ (ps := ["self", "what", "row"]) fun _ _ _ _ _ _ us hl => match us, hl with | [_, _, _], _ => rfl)
  obtain ⟨fd_BadText___init__, F_BadText___init__⟩ := cd.def_ 60 (d := dM "BadText" "__init__" "BadText.__init__" s_BadText___init__) rfl
  have U_BadText___init__ : C8.Fun K "__init__" "BadText.__init__" s_BadText___init__ (He.ma K (He.ga K "BadText") "__init__") fd_BadText___init__ := fun_of F_BadText___init__
  have b_BadText___init__ : Binds K fd_BadText___init__ ["self", "line", "word"] [] := (FunD.bindsN F_BadText___init__ (ps := ["self", "line", "word"]) fun _ _ _ _ _ _ us hl => match us, hl with | [_, _, _], _ => rfl)
  obtain ⟨fd_BadPaper___init__, F_BadPaper___init__⟩ := cd.def_ 61 (d := dM "BadPaper" "__init__" "BadPaper.__init__" s_BadPaper___init__) rfl
  have U_BadPaper___init__ : C8.Fun K "__init__" "BadPaper.__init__" s_BadPaper___init__ (He.ma K (He.ga K "BadPaper") "__init__") fd_BadPaper___init__ := fun_of F_BadPaper___init__
  have b_BadPaper___init__ : Binds K fd_BadPaper___init__ ["self", "what"] [] := (FunD.bindsN F_BadPaper___init__ (ps := ["self", "what"]) fun _ _ _ _ _ _ us hl => match us, hl with | [_, _], _ => rfl)
  obtain ⟨dsP, vsP, b1P⟩ := FunD.binds1 F_is_plain (ps := ["value", "deep"]) 1 0 (by intro z; cases z) rfl fun T kV doc pm an cdv ct us its hl hl2 => match us, its, hl, hl2 with | [_], [_], _, _ => ⟨_, rfl, rfl⟩
  obtain ⟨dsQ, vsQ, b2P⟩ := FunD.binds1 F_is_plain (ps := ["value", "deep"]) 2 1 (by intro z; cases z) rfl fun T kV doc pm an cdv ct us its hl hl2 => match us, its, hl, hl2 with | [_, _], [_], _, _ => ⟨_, rfl, rfl⟩
  cases vsQ
  refine ⟨fd_law, fun s uu => FunD.bindsA F_law (ps := ["script"]) (fun _ _ _ _ _ _ us hl => match us, hl with | [_], _ => rfl) s [uu] rfl, fun base Xb Gb TB => ?_⟩
  have lc : ∀ {x : Str} {st : Stmt} {f : Addr} {fd : FuncData}, C8.Def K mg x st f fd → f = He.ga K x → fd.code = .ref (He.cT K (x, none)).1 := fun {x st f fd} D e => by
    obtain ⟨oc, od, dV, kV, doc, pm, an, cdv, ct, osl, e1, lk, hcd⟩ := D.fn.ex
    obtain ⟨cc, ec⟩ := He.codeIn_ref hcd
    subst e
    have ef : fd.code = .ref cc := by rw [e1]; exact ec
    rw [ef, show (He.cT K (x, none)).1 = cc from He.codeOf_eq (p := (x, none)) lk ef]
  have R_BadText : ErrX P w K mg base "BadText" (He.ga K "BadText") "line" "word" := ⟨ET.o, g_BadText, _, _, _, ET.i, ET.t, init_BadText U_BadText___init__ ET.o n_BadText_line n_BadText_word, b_BadText___init__⟩
  have R_BadRow : ErrX P w K mg base "BadRow" (He.ga K "BadRow") "what" "row" := ⟨EWo, g_BadRow, _, _, _, EWi, EWt, init_BadRow U_BadRow___init__ EWo n_BadRow_what n_BadRow_row, b_BadRow___init__⟩
  have R_BadPaper : ErrX1 P w K mg base "BadPaper" (He.ga K "BadPaper") "what" := ⟨ER.o, g_BadPaper, _, _, _, ER.i, ER.t, init_BadPaper U_BadPaper___init__ ER.o n_BadPaper_what, b_BadPaper___init__⟩
  have c_is_integer : CalX P w K mg base 1 "is_integer" (sp_is_integer K) := ok_is_integer (Z := Z) (D := D_is_integer) (b := b_is_integer)
  have c_is_ratio : CalX P w K mg base 2 "is_ratio" (sp_is_ratio K) := ok_is_ratio (Z := Z) (G_gcd := G_gcd) (D := D_is_ratio) (b := b_is_ratio) (c_is_integer := c_is_integer)
  have c_pair : CalX P w K mg base 1 "pair" (sp_pair K) := ok_pair (Z := Z) (D := D_pair) (b := b_pair)
  have c_opposite : CalX P w K mg base 1 "opposite" (sp_opposite K) := ok_opposite (Z := Z) (D := D_opposite) (b := b_opposite)
  have c_sign_of : CalX P w K mg base 1 "sign_of" (sp_sign_of K) := ok_sign_of (Z := Z) (D := D_sign_of) (b := b_sign_of)
  have c_is_list : CalX P w K mg base 1 "is_list" (sp_is_list K) := ok_is_list (Z := Z) (D := D_is_list) (b := b_is_list)
  have c_is_small : CalX P w K mg base 2 "is_small" (sp_is_small K) := ok_is_small (Z := Z) (D := D_is_small) (b := b_is_small) (c_pair := c_pair)
  have c_size_text : CalX P w K mg base 2 "size_text" (sp_size_text K) := ok_size_text (Z := Z) (D := D_size_text) (b := b_size_text) (c_pair := c_pair)
  have c_as_all : ∀ n, CalX P w K mg base (n + 1) "as_tuples" (sp_as_tuples K n) := fun n => by
    induction n with
    | zero => exact ok_as_tuples Z D_as_tuples b_as_tuples fun z => absurd z (Nat.lt_irrefl 0)
    | succ n ih => exact ok_as_tuples Z D_as_tuples b_as_tuples fun _ => ih
  have c_as_tuples := c_as_all 4
  have c_is_plain := ok_is_plain (Z := Z) (D := D_is_plain) (b2 := b2P) (hd := vsP) (b1 := b1P) (G_MOST_DEEP := G_MOST_DEEP) (c_is_ratio := c_is_ratio) (c_is_small := c_is_small) (c_is_list := c_is_list) 4
  have c_text_of_value := ok_text_of_value (Z := Z) (D := D_text_of_value) (b := b_text_of_value) (c_is_ratio := c_is_ratio) (c_sign_of := c_sign_of) (c_size_text := c_size_text) 4
  have c_value_text : CalX P w K mg base 8 "value_text" (sp_value_text K (He.ga K "BadRow") 4) := ok_value_text (D := D_value_text) (b := b_value_text) (hn := (by decide)) (R_BadRow := R_BadRow) (c_is_plain := c_is_plain) (c_as_tuples := c_as_tuples) (c_text_of_value := c_text_of_value)
  have c_run_of : CalX P w K mg base 1 "run_of" (sp_run_of) := ok_run_of (Z := Z) (D := D_run_of) (b := b_run_of)
  have c_tokens_of : CalX P w K mg base 3 "tokens_of" (sp_tokens_of K (He.ga K "BadText")) := ok_tokens_of (Z := Z) (D := D_tokens_of) (b := b_tokens_of) (R_BadText := R_BadText) (G_FIGURES := G_FIGURES) (G_LETTERS := G_LETTERS) (c_run_of := c_run_of)
  have c_is_numeral : CalX P w K mg base 1 "is_numeral" (sp_is_numeral) := ok_is_numeral (Z := Z) (D := D_is_numeral) (b := b_is_numeral) (G_FIGURES := G_FIGURES) (G_MOST_FIGURES := G_MOST_FIGURES)
  have m_wrong : MetX P w K mg base 3 (He.ga K "Reader") "wrong" (sp_wrong K (He.ga K "Reader") (He.ga K "BadText")) := ⟨_, _, _, cl_Reader, me_wrong, fn_wrong (F := U_Reader_wrong) (R_BadText := R_BadText), b_Reader_wrong⟩
  have m_next_is : MetX P w K mg base 1 (He.ga K "Reader") "next_is" (sp_next_is K (He.ga K "Reader")) := ⟨_, _, _, cl_Reader, me_next_is, fn_next_is (Z := Z) (F := U_Reader_next_is), b_Reader_next_is⟩
  have m_need : MetX P w K mg base 4 (He.ga K "Reader") "need" (sp_need K (He.ga K "Reader") (He.ga K "BadText")) := ⟨_, _, _, cl_Reader, me_need, fn_need (F := U_Reader_need) (m_next_is := m_next_is) (m_wrong := m_wrong), b_Reader_need⟩
  have m_numeral : MetX P w K mg base 4 (He.ga K "Reader") "numeral" (sp_numeral K (He.ga K "Reader") (He.ga K "BadText")) := ⟨_, _, _, cl_Reader, me_numeral, fn_numeral (Z := Z) (F := U_Reader_numeral) (c_is_numeral := c_is_numeral) (m_wrong := m_wrong), b_Reader_numeral⟩
  have m_end : MetX P w K mg base 4 (He.ga K "Reader") "end" (sp_end K (He.ga K "Reader") (He.ga K "BadText")) := ⟨_, _, _, cl_Reader, me_end, fn_end (Z := Z) (F := U_Reader_end) (m_wrong := m_wrong), b_Reader_end⟩
  have RC : RdC K (He.ga K "Reader") := ⟨cl_Reader, n_Reader_tokens, n_Reader_line, n_Reader_at, n_Reader_limit, n_Reader_deep⟩
  have MK_Reader : MkX P w K mg base 1 "Reader" (He.ga K "Reader") (sp_init K (He.ga K "Reader")) := ⟨_, _, _, mk_Reader, fn_init (F := U_Reader___init__), g_Reader, b_Reader___init__⟩
  have c_ratio_by : CalX P w K mg base 5 "ratio_by" (sp_ratio_by K (He.ga K "Reader") (He.ga K "BadText")) := ok_ratio_by (D := D_ratio_by) (b := b_ratio_by) (m_next_is := m_next_is) (m_wrong := m_wrong) (m_numeral := m_numeral) (c_is_ratio := c_is_ratio) (c_opposite := c_opposite)
  have c_value_by : CalX P w K mg base 26 "value_by" (sp_value_by K (He.ga K "Reader") (He.ga K "BadText") 20) := ok_value_by (Z := Z) (D := D_value_by) (b := b_value_by) (G_MOST_DEEP := G_MOST_DEEP) (m_next_is := m_next_is) (m_need := m_need) (c_ratio_by := c_ratio_by) 20
  have c_value_in : CalX P w K mg base 27 "value_in" (sp_value_in K (He.ga K "BadText") 20) := ok_value_in (D := D_value_in) (b := b_value_in) (hn := (show 20 ≤ 50 by decide)) (RC := RC) (MK_Reader := MK_Reader) (c_value_by := c_value_by) (m_end := m_end)
  have BC : BkC K (He.ga K "Book") := ⟨cl_Book, BF.no, BF.ha, BF.hn, BF.ht, BF.hm, BF.kit, BF.self⟩
  have G_Book := g_Book
  have NG : NmG K mg (He.ga K "NAMES") := ⟨g_NAMES, fun H => by
    have := He.tupB_ok mo7 H
    rw [List.map_map] at this
    rw [← nmc_eq]; exact this⟩
  have MK_Book : MkX P w K mg base 6 "Book" (He.ga K "Book") (sp_bk_init K (He.ga K "Book") 4) := ⟨_, _, _, mk_Book, fn_bk_init (F := U_Book___init__) (c_as_tuples := c_as_tuples), g_Book, b_Book___init__⟩
  have c_values_of : CalX P w K mg base 1 "values_of" (sp_values_of K (He.ga K "Book")) := ok_values_of (D := D_values_of) (b := b_values_of)
  have c_book_by : CalX P w K mg base 8 "book_by" (sp_book_by K (He.ga K "Book") 4) := ok_book_by (D := D_book_by) (b := b_book_by) (BC := BC) (MK_Book := MK_Book)
  have c_is_book : CalX P w K mg base 8 "is_book" (sp_is_book K (He.ga K "Book") 4) := ok_is_book (Z := Z) (D := D_is_book) (b := b_is_book) (hn := (by decide)) (BC := BC) (G_Book := G_Book) (c_values_of := c_values_of) (c_is_plain := c_is_plain)
  have c_need_book : CalX P w K mg base 9 "need_book" (sp_need_book K (He.ga K "Book") (He.ga K "BadPaper") 4) := ok_need_book (D := D_need_book) (b := b_need_book) (R_BadPaper := R_BadPaper) (c_is_book := c_is_book)
  have c_book_text : CalX P w K mg base 10 "book_text" (sp_book_text K (He.ga K "Book") (He.ga K "BadPaper") 4) := ok_book_text (D := D_book_text) (b := b_book_text) (Z_zip := Z_zip) (NG := NG) (c_need_book := c_need_book) (c_values_of := c_values_of) (c_text_of_value := c_text_of_value)
  have c_value_of_line : CalX P w K mg base 28 "value_of_line" (sp_value_of_line K (He.ga K "BadText") 20) := ok_value_of_line (D := D_value_of_line) (b := b_value_of_line) (R_BadText := R_BadText) (c_tokens_of := c_tokens_of) (c_value_in := c_value_in)
  have c_book_of_text : CalX P w K mg base 29 "book_of_text" (sp_book_of_text K (He.ga K "Book") (He.ga K "BadText") 20 4) := ok_book_of_text (Z := Z) (D := D_book_of_text) (b := b_book_of_text) (hm := (by decide)) (NG := NG) (R_BadText := R_BadText) (c_value_of_line := c_value_of_line) (c_book_by := c_book_by)
  have c_product_of_orders : CalX P w K mg base 1 "product_of_orders" (sp_product_of_orders K (He.ga K "Book")) := ok_product_of_orders (D := D_product_of_orders) (b := b_product_of_orders)
  have c_class_number : CalX P w K mg base 10 "class_number" (sp_class_number K (He.ga K "Book") (He.ga K "BadPaper") 4) := ok_class_number (Z := Z) (D := D_class_number) (b := b_class_number) (R_BadPaper := R_BadPaper) (c_need_book := c_need_book) (c_is_integer := c_is_integer) (c_product_of_orders := c_product_of_orders)
  have c_places_of : CalX P w K mg base 10 "places_of" (sp_places_of K (He.ga K "Book") (He.ga K "BadPaper") 4) := ok_places_of (Z := Z) (D := D_places_of) (b := b_places_of) (R_BadPaper := R_BadPaper) (c_need_book := c_need_book)
  have BE : BkE P w K mg base (He.ga K "Book") := ⟨⟨_, _, fn_bk_eq (Z := Z) (F := U_Book___eq__) (BC := BC) (G_Book := G_Book) (c_values_of := c_values_of), b_Book___eq__, me_Book___eq__.at_, me_Book___eq__.fn⟩, BF.ne, BF.nl⟩
  have c_law_pen : CalX P w K mg base 1 "_law_pen" (sp_law_pen K) := ok_law_pen (Z := Z) (D := D__law_pen) (b := b__law_pen)
  have c_law_draw : CalX P w K mg base 1 "_law_draw" (sp_law_draw K) := ok_law_draw (Z := Z) (D := D__law_draw) (b := b__law_draw)
  have c_law_pick : CalX P w K mg base 2 "_law_pick" (sp_law_pick K) := ok_law_pick (Z := Z) (D := D__law_pick) (b := b__law_pick) (c_law_draw := c_law_draw)
  have c_law_divisor : CalX P w K mg base 1 "_law_divisor" (sp_law_divisor) := ok_law_divisor (Z := Z) (D := D__law_divisor) (b := b__law_divisor)
  have c_law_low : CalX P w K mg base 2 "_law_low" (sp_law_low K) := ok_law_low (D := D__law_low) (b := b__law_low) (c_law_divisor := c_law_divisor)
  have c_law_is_whole : CalX P w K mg base 1 "_law_is_whole" (sp_law_is_whole K) := ok_law_is_whole (Z := Z) (D := D__law_is_whole) (b := b__law_is_whole)
  have c_law_is_ratio : CalX P w K mg base 2 "_law_is_ratio" (sp_law_is_ratio K) := ok_law_is_ratio (Z := Z) (D := D__law_is_ratio) (b := b__law_is_ratio) (c_law_is_whole := c_law_is_whole) (c_law_divisor := c_law_divisor)
  have c_law_wide : CalX P w K mg base 2 "_law_wide" (sp_law_wide K) := ok_law_wide (Z := Z) (D := D__law_wide) (b := b__law_wide) (c_law_draw := c_law_draw)
  have c_law_number : CalX P w K mg base 3 "_law_number" (sp_law_number K) := ok_law_number (D := D__law_number) (b := b__law_number) (c_law_draw := c_law_draw) (c_law_low := c_law_low) (c_law_wide := c_law_wide)
  have c_law_names : CalX P w K mg base 1 "_law_names" (sp_law_names) := ok_law_names (D := D__law_names) (b := b__law_names)
  have c_law_book_values : CalX P w K mg base 1 "_law_book_values" (sp_law_book_values K (He.ga K "Book")) := ok_law_book_values (D := D__law_book_values) (b := b__law_book_values)
  have c_law_made : CalX P w K mg base 8 "_law_made" (sp_book_by K (He.ga K "Book") 4) := ok_law_made (D := D__law_made) (b := b__law_made) (BC := BC) (MK_Book := MK_Book)
  have c_law_place : CalX P w K mg base 2 "_law_place" (sp_law_place K) := ok_law_place (Z := Z) (D := D__law_place) (b := b__law_place)
  have c_law_is : CalX P w K mg base 5 "_law_is" (sp_law_is K 4) := ok_law_is (Z := Z) (D := D__law_is) (b := b__law_is) 4
  have c_dv2 : CalX P w K mg base 6 "_law_drawn_value" (sp_law_drawn K 2) := ok_law_drawn (Z := Z) (D := D__law_drawn_value) (b := b__law_drawn_value) (c_law_draw := c_law_draw) (c_law_number := c_law_number) 2
  have c_dv1 : CalX P w K mg base 5 "_law_drawn_value" (sp_law_drawn K 1) := ok_law_drawn (Z := Z) (D := D__law_drawn_value) (b := b__law_drawn_value) (c_law_draw := c_law_draw) (c_law_number := c_law_number) 1
  have more_ET := ok_more (P := P) (w := w) (base := base) (Z := Z) (D := D__law_more_kinds) (b := b__law_more_kinds) (hC := ET.e) (G_NoName := g_NoName) (k_NoName := (ET.k "NoName" (by decide)).trans (by rfl)) (G_TakenName := g_TakenName) (k_TakenName := (ET.k "TakenName" (by decide)).trans (by rfl)) (G_Unlike := g_Unlike) (k_Unlike := (ET.k "Unlike" (by decide)).trans (by rfl)) (G_NotThere := g_NotThere) (k_NotThere := (ET.k "NotThere" (by decide)).trans (by rfl)) (G_TooMany := g_TooMany) (k_TooMany := (ET.k "TooMany" (by decide)).trans (by rfl)) (G_NotKept := g_NotKept) (k_NotKept := (ET.k "NotKept" (by decide)).trans (by rfl)) (G_NothingToUndo := g_NothingToUndo) (k_NothingToUndo := (ET.k "NothingToUndo" (by decide)).trans (by rfl)) (G_NothingToRedo := g_NothingToRedo) (k_NothingToRedo := (ET.k "NothingToRedo" (by decide)).trans (by rfl))
  have more_ER := ok_more (P := P) (w := w) (base := base) (Z := Z) (D := D__law_more_kinds) (b := b__law_more_kinds) (hC := ER.e) (G_NoName := g_NoName) (k_NoName := (ER.k "NoName" (by decide)).trans (by rfl)) (G_TakenName := g_TakenName) (k_TakenName := (ER.k "TakenName" (by decide)).trans (by rfl)) (G_Unlike := g_Unlike) (k_Unlike := (ER.k "Unlike" (by decide)).trans (by rfl)) (G_NotThere := g_NotThere) (k_NotThere := (ER.k "NotThere" (by decide)).trans (by rfl)) (G_TooMany := g_TooMany) (k_TooMany := (ER.k "TooMany" (by decide)).trans (by rfl)) (G_NotKept := g_NotKept) (k_NotKept := (ER.k "NotKept" (by decide)).trans (by rfl)) (G_NothingToUndo := g_NothingToUndo) (k_NothingToUndo := (ER.k "NothingToUndo" (by decide)).trans (by rfl)) (G_NothingToRedo := g_NothingToRedo) (k_NothingToRedo := (ER.k "NothingToRedo" (by decide)).trans (by rfl))
  have c_law_kinds : CalE P w K mg base 2 "_law_kinds" (sp_kinds K (He.ga K "BadText") (He.ga K "BadPaper")) := ok_kinds D__law_kinds b__law_kinds (kindsT (Z := Z) (hC := ET.e) (XT := ET.f) (N_line := n_BadText_line) (N_word := n_BadText_word) (G_BadNumber := g_BadNumber) (k_BadNumber := (ET.k "BadNumber" (by decide)).trans (by rfl)) (G_BadRow := g_BadRow) (k_BadRow := (ET.k "BadRow" (by decide)).trans (by rfl)) (G_BadTable := g_BadTable) (k_BadTable := (ET.k "BadTable" (by decide)).trans (by rfl)) (G_BadPoly := g_BadPoly) (k_BadPoly := (ET.k "BadPoly" (by decide)).trans (by rfl)) (G_BadPaper := g_BadPaper) (k_BadPaper := (ET.k "BadPaper" (by decide)).trans (by rfl)) (G_BadName := g_BadName) (k_BadName := (ET.k "BadName" (by decide)).trans (by rfl)) (G_BadText := g_BadText) (k_BadText := (ET.k "BadText" (by decide)).trans (by rfl)) (G_NoPlace := g_NoPlace) (k_NoPlace := (ET.k "NoPlace" (by decide)).trans (by rfl)) (c_law_more_kinds := more_ET)) (kindsR (Z := Z) (hC := ER.e) (XT := ER.f) (N_what := n_BadPaper_what) (G_BadNumber := g_BadNumber) (k_BadNumber := (ER.k "BadNumber" (by decide)).trans (by rfl)) (G_BadRow := g_BadRow) (k_BadRow := (ER.k "BadRow" (by decide)).trans (by rfl)) (G_BadTable := g_BadTable) (k_BadTable := (ER.k "BadTable" (by decide)).trans (by rfl)) (G_BadPoly := g_BadPoly) (k_BadPoly := (ER.k "BadPoly" (by decide)).trans (by rfl)) (G_BadPaper := g_BadPaper) (k_BadPaper := (ER.k "BadPaper" (by decide)).trans (by rfl)) (G_BadName := g_BadName) (k_BadName := (ER.k "BadName" (by decide)).trans (by rfl)) (G_BadText := g_BadText) (k_BadText := (ER.k "BadText" (by decide)).trans (by rfl)) (G_NoPlace := g_NoPlace) (k_NoPlace := (ER.k "NoPlace" (by decide)).trans (by rfl)) (c_law_more_kinds := more_ER))
  have FL : FltC P w K mg base (He.ga K "BadText") (He.ga K "BadPaper") := ⟨⟨_, _, _, D__law_fault, b__law_fault, g_FieldError, x_BadText, x_BadPaper⟩, Z, ET.e, ER.e, ET.v, ER.v, fr_ValueError, c_law_kinds⟩
  have t1 := TB (He.cT K ("_law_read_fault", none)) (List.mem_cons_self)
  have t2 := TB (He.cT K ("_law_count_fault", none)) (List.mem_cons_of_mem _ List.mem_cons_self)
  have t3 := TB (He.cT K ("law", none)) (List.mem_cons_of_mem _ (List.mem_cons_of_mem _ List.mem_cons_self))
  have n12 : (He.cT K ("_law_read_fault", none)).2 ≠ (He.cT K ("_law_count_fault", none)).2 := fun z => by simp [lams, z] at nod
  have n13 : (He.cT K ("_law_read_fault", none)).2 ≠ (He.cT K ("law", none)).2 := fun z => by simp [lams, z] at nod
  have n23 : (He.cT K ("_law_count_fault", none)).2 ≠ (He.cT K ("law", none)).2 := fun z => by simp [lams, z] at nod
  let TT : List (Addr × Str) := [((He.cT K ("_law_read_fault", none)).2, ("_law_read_fault.<locals>.<lambda>" : Str)), ((He.cT K ("_law_count_fault", none)).2, "_law_count_fault.<locals>.<lambda>"), ((He.cT K ("law", none)).2, "law.<locals>.<lambda>")]
  have hu1 : ∀ p ∈ TT, p.1 = (He.cT K ("_law_read_fault", none)).2 → p.2 = ("_law_read_fault.<locals>.<lambda>" : Str) := fun p hp e => by
    rcases List.mem_cons.mp hp with rfl | hp
    · rfl
    · rcases List.mem_cons.mp hp with rfl | hp
      · exact absurd e.symm n12
      · obtain rfl := List.mem_singleton.mp hp
        exact absurd e.symm n13
  have hu2 : ∀ p ∈ TT, p.1 = (He.cT K ("_law_count_fault", none)).2 → p.2 = ("_law_count_fault.<locals>.<lambda>" : Str) := fun p hp e => by
    rcases List.mem_cons.mp hp with rfl | hp
    · exact absurd e n12
    · rcases List.mem_cons.mp hp with rfl | hp
      · rfl
      · obtain rfl := List.mem_singleton.mp hp
        exact absurd e.symm n23
  have hu3 : ∀ p ∈ TT, p.1 = (He.cT K ("law", none)).2 → p.2 = ("law.<locals>.<lambda>" : Str) := fun p hp e => by
    rcases List.mem_cons.mp hp with rfl | hp
    · exact absurd e n13
    · rcases List.mem_cons.mp hp with rfl | hp
      · exact absurd e n23
      · obtain rfl := List.mem_singleton.mp hp
        rfl
  have c_law_read_fault : CalG P w K mg base 32 "_law_read_fault" (sp_law_read_fault K TT 20 4) := ok_law_read_fault (D := D__law_read_fault) (hc := (lc D__law_read_fault rfl)) (b := b__law_read_fault) (F := FL) (c_book_of_text := c_book_of_text) (TB := t1) (hq := (by decide +kernel)) (hmT := List.mem_cons_self) (hu := hu1)
  have c_law_count_fault : CalG P w K mg base 13 "_law_count_fault" (sp_law_count_fault K (He.ga K "Book") TT 4) := ok_law_count_fault (D := D__law_count_fault) (hc := (lc D__law_count_fault rfl)) (b := b__law_count_fault) (F := FL) (c_class_number := c_class_number) (TB := t2) (hq := (by decide +kernel)) (hmT := (List.mem_cons_of_mem _ List.mem_cons_self)) (hu := hu2)
  have c_law_numbers_right : CalG P w K mg base 14 "_law_numbers_right" (sp_law_nr K TT) := ok_law_numbers_right (Z := Z) (D := D__law_numbers_right) (hc := (lc D__law_numbers_right rfl)) (b := b__law_numbers_right) (c_law_drawn_value := c_dv1) (c_law_draw := c_law_draw) (c_law_is := c_law_is) (c_law_made := c_law_made) (c_class_number := c_class_number) (c_places_of := c_places_of) (c_law_pick := c_law_pick) (c_law_count_fault := c_law_count_fault)
  have c_law_right : CalG P w K mg base 33 "_law_right" (sp_law_nr K TT) := ok_law_right (Z := Z) (Z_zip := Z_zip) (D := D__law_right) (hc := (lc D__law_right rfl)) (b := b__law_right) (BE := BE) (c_law_drawn_value := c_dv2) (c_law_draw := c_law_draw) (c_law_is := c_law_is) (c_law_made := c_law_made) (c_law_names := c_law_names) (c_value_text := c_value_text) (c_book_text := c_book_text) (c_book_of_text := c_book_of_text) (c_law_book_values := c_law_book_values) (c_law_is_ratio := c_law_is_ratio) (c_law_pick := c_law_pick) (c_law_place := c_law_place) (c_law_read_fault := c_law_read_fault)
  have c_law := ok_law (Z := Z) (D := D_law) (hc := (lc D_law rfl)) (F := FL) (c_law_pen := c_law_pen) (c_law_right := c_law_right) (c_law_numbers_right := c_law_numbers_right) (c_law_pick := c_law_pick) (c_law_made := c_law_made) (c_book_text := c_book_text) (c_places_of := c_places_of) (c_law_count_fault := c_law_count_fault) (c_law_read_fault := c_law_read_fault) (TB := t3) (hq := (by decide +kernel)) (hmT := (List.mem_cons_of_mem _ (List.mem_cons_of_mem _ List.mem_cons_self))) (hu := hu3)
  exact c_law
end
end FP
set_option maxHeartbeats 4000000
/-! the end of the row -/
namespace FP
open PySem PySem.Spec PyProof.Rows L2 LamX
theorem walk_GE {l : PySem.W.OpenLaw} {n k : Nat} {q : Program} {loose : List Str} {XP : (Str → Option Value) → Heap → Prop} {YP : World → Heap → Prop} {d : DefRec} {x : Str}
    (hn : l.most = some n) (hn2 : n ≤ sizeLine) (hdf : d.params.defaults = []) (hr : Room k callerA)
    (F : ∀ (w : World) (mg : Str → Option Value) (fa : Addr) (h : Heap), YP w h → h.Ns mainGlobals mg → mg d.name = some (.ref fa) → ∃ K : PySem.W.Frag, K.In h ∧ LawAtG l w K k n x mg fa h) :
    PySem.W.WalkO q loose XP YP l.row.toRowW d [] (fun f vs => PySem.call f vs) := by
  refine Att.attach_callB hn hdf fun w s0 s1 mg mb fa o pm cd doc la vs nums G Y ho hd hcd hmg hobj hints hlen hbits hg => ?_
  obtain ⟨K, KX, fd, tabs, sp, hT, nT, C, hb, hsp, hF⟩ := F w mg fa _ Y G.T.g hmg
  exact law_callG KX G.T.g G.T.b G.T.builtins G.T.nolimit hg hT nT C G.T.bmain hobj hints (Nat.le_trans hlen hn2) hr hF hb (fun HA hH hS => hsp HA la nums hlen hbits hH hS)
theorem at_law {l : PySem.W.OpenLaw} {w : World} {mg : Str → Option Value} {fa : Addr} {h : Heap} (Y : hkX.says w h) (G : h.Ns mainGlobals mg) (hmg : mg "law" = some (.ref fa)) : ∃ K : PySem.W.Frag, K.In h ∧ LawAtG l w K 34 63 "script" mg fa h := by
  obtain ⟨K, KX, c⟩ := Y
  obtain ⟨fd, hb, hF⟩ := law_says (P := l.prog) KX G c
  have e : fa = He.ga K "law" := by
    have g := He.glo_ok KX G (c.t.d.fact 50 (f := .glo "law") rfl)
    rw [hmg] at g
    injection g with g
    injection g
  subst e
  refine ⟨K, KX, fd, lams.map (He.cT K), _, fun pr hp => ?_, fun pr hp => ?_, fun pr hp => ?_, hb, fun HA la nums _ _ hH hS => ⟨la, nums, rfl, hS, ?_, fun _ => rfl⟩, fun base Kb Gb TB => hF base Kb Gb TB⟩
  · obtain ⟨d, hd, rfl⟩ := List.mem_map.mp hp
    exact c.empty d hd
  · obtain ⟨d, hd, rfl⟩ := List.mem_map.mp hp
    exact c.out d hd
  · obtain ⟨d, hd, rfl⟩ := List.mem_map.mp hp
    exact PySem.W.codeHd_of_K KX (c.hd d hd)
  · have go : ∀ d, d ∈ lams → ∀ z : Str, TabS HA (He.cT K d).2 z := fun d hd z => TabS.nil (hH _ (List.mem_map.mpr ⟨d, hd, rfl⟩))
    intro p hp
    rcases List.mem_cons.mp hp with rfl | hp
    · exact go ("_law_read_fault", none) List.mem_cons_self _
    · rcases List.mem_cons.mp hp with rfl | hp
      · exact go ("_law_count_fault", none) (List.mem_cons_of_mem _ List.mem_cons_self) _
      · obtain rfl := List.mem_singleton.mp hp
        exact go ("law", none) (List.mem_cons_of_mem _ (List.mem_cons_of_mem _ List.mem_cons_self)) _
end FP
set_option maxHeartbeats 0
namespace FP
open PySem PySem.Spec PyProof.Rows L2 LamX
end FP
open PySem PySem.W PySem.Calls PyProof.Rows
theorem PySem.Challenge.cw_fieldpapers_k76_whole_books_as_texts_holds : PySem.Challenge.rw_fieldpapers_k76_whole_books_as_texts.Holds := by
  w_on; o_law
  refine HandSHeadRun.head_imp (r := FP.RR) (q := FP.qV) (H := FP.hkX) (ob := FP.obX) (M := 20000) (loose := FP.nmL) (d := HandSHeadRun.topDef FP.RR.prog 91) (kwd := []) FP.obX_eq FP.runX
    (by kernel_rfl) (by kernel_rfl) (by kernel_rfl) (by rfl) (by first | assumption | decide +kernel) (by decide +kernel) ⟨rfl, rfl, rfl, rfl, rfl, by decide +kernel⟩ ?hw ?hc
  case hw => w_witness2
  case hc =>
    refine FP.walk_GE (l := PySem.Challenge.rw_fieldpapers_k76_whole_books_as_texts) (n := 63) (k := 34) (x := "script") rfl (by decide) (by kernel_rfl) ⟨rfl, by decide, by decide⟩ fun w mg fa h Y G hmg => ?_
    refine FP.at_law Y G ?_
    rw [← hmg]
    exact congrArg mg (by kernel_rfl)
