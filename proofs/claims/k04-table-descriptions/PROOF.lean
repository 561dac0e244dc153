import PyProof.Rows.All
import Wide.All
import OpenK.AllK
import Wide.FinOn
import HandS.ForMost
import HandS.ForExc
import HandS.Star
import HandS.ClsMeth
import HandS.Property
import HandS.Defaults
import HandS.IsInst
import HandS.Style
import HandS.TupAny
import HandS.HeadHook2
import PySem.Challenge.RW_treeworks_k04_table_descriptions
import KE.DatumOrd
import HandS.SortKw
import HandS.IterVal
import HandS.GenBody
import HandS.GenYield
import HandS.GenCall
import HandS.GenList
import HandS.ExcInit
import HandS.ExcSuper
import HandS.ExcField
import HandS.ExcIs
import KE.KExcSuper
import KE.KExcIs
import HandS.Walk
import HandS.SlotsOwn
import HandS.Flow
import HandS.Text
import HandS.Small
import HandS.Dict
import HandS.DictComp
import KE.GoesEnum
import HandS.More
import HandS.TryMany
import HandS.Head0
import HandS.Head1
import HandS.Head2
import HandS.HeadEnd
import HandS.HeadHook1
import HandS.Ends
import HandS.WordsExc
import KE.KStateDown
set_option Elab.async false
set_option linter.all false
set_option maxRecDepth 100000
set_option maxHeartbeats 4000000
namespace TW
open PySem PySem.Spec PyProof.Rows L2

def top (i : Nat) : Stmt := PySem.Challenge.pw_treeworks_k04_table_descriptions.main.body.getD i (.Pass ⟨0, 0, 0, 0⟩)

/-! ### a def by its body, as a promise over positional values -/
abbrev DefAt (K : PySem.W.Frag) (x q : Str) (st : Stmt) (f : Addr) : Prop := ∃ fd, FunD K x q (defArgs st) (defBody st) (defScope st) [] [] f fd
section
variable {P : Program} {w : World} {K : PySem.W.Frag} {mg : Str → Option Value} {base : Heap}
abbrev BindsWell (x q : Str) (st : Stmt) (ps : List Str) : Prop := ∀ (kV doc pm : Value) (an : Option Addr) (cdv ct : Value) (us : List Value), us.length = ps.length →
  bindArgs (PySem.W.fnOf x q (defArgs st) (defBody st) (defScope st) .none kV doc pm an cdv ct) ⟨us, []⟩ = pure (ps.zip us)
/-- nothing that is raised leaves it -/
theorem fnR0 {x q : Str} {st : Stmt} {f : Addr} {N ps : List Str} {k : Nat} {sp : Sp} (D : DefAt K x q st f) (S : FnScope N ps (defScope st)) (hb : BindsWell x q st ps)
    (len : ∀ vs H Q E, sp vs H Q E → vs.length = ps.length)
    (body : ∀ (cdv : Value) (A : Around) (outer : List Env) (s : Shared) (H : Hp) (vs : List V) (Q : VK) (E : XK), Room k (A.deeper (envOfC q (defScope st) s.heap.objs.size f cdv)) → sp vs H Q E →
      ∃ t, PSs (cxOf CX0 P w K mg base N q (defScope st) f cdv A outer s H E).nox (defBody st) t ∧ t { nx := fun _ H' => Q .non H', rt := Q } (start N vs) H) :
    FnR P w K mg base CX0 (k + 1) f sp := by
  obtain ⟨fd, F⟩ := D
  have G : FnOk P w K mg base CX0 (k + 1) f fd ps sp := F.ok S len fun cdv A outer s H vs Q E hr h => by
    obtain ⟨t, a, b⟩ := body cdv A outer s H vs Q E hr h
    exact ⟨t, a.nox, b⟩
  have z := FnOk.raw (dvs := []) G (F.bindsN hb) .nil
  exact z.imp fun vs H Q E h => by rw [List.append_nil]; exact h
/-- it may raise -/
theorem fnRX {x q : Str} {st : Stmt} {f : Addr} {N ps : List Str} {k : Nat} {sp : Sp} (D : DefAt K x q st f) (S : FnScope N ps (defScope st)) (hb : BindsWell x q st ps)
    (len : ∀ vs H Q E, sp vs H Q E → vs.length = ps.length)
    (body : ∀ (cdv : Value) (A : Around) (outer : List Env) (s : Shared) (H : Hp) (vs : List V) (Q : VK) (E : XK), Room k (A.deeper (envOfC q (defScope st) s.heap.objs.size f cdv)) → sp vs H Q E →
      ∃ t, PSs (cxOf (L2.CX P w) P w K mg base N q (defScope st) f cdv A outer s H E) (defBody st) t ∧ t { nx := fun _ H' => Q .non H', rt := Q } (start N vs) H) :
    FnR P w K mg base (L2.CX P w) (k + 1) f sp := by
  obtain ⟨fd, F⟩ := D
  have G : FnOk P w K mg base (L2.CX P w) (k + 1) f fd ps sp := F.ok S len body
  have z := FnOk.raw (dvs := []) G (F.bindsN hb) .nil
  exact z.imp fun vs H Q E h => by rw [List.append_nil]; exact h
end
/-! ### a call of a def of the module -/
def tCr (sp : Sp) (E : XK) (t : TA) : TE := fun σ H Q => t σ H fun vs H1 => sp vs H1 Q E
section
variable {X : Cx} {CX : CXT} {k : Nat} {f : Addr} {sp : Sp} {E : XK} {x : Str} {e : Expr} {es : List Expr} {t : TA} {p pos : Pos}
theorem pe_cr (F : FnR X.prog X.w X.K X.mg X.base CX k f sp) (hr : Room k X.A) (hg : Gl X x) (hm : X.mg x = some (.ref f)) (hk : PySem.W.keepIn X.K (.ref f) = true) (hx : Passes CX X E) (ha : PA X (e :: es) t)
    (hdb : (x == ("__debug__" : Str)) = false := by decide) (he : starEach (e :: es) X.env = (false, eval e X.env) :: starEach es X.env := by rfl)
    (hpl : (backTo pos (starEach es X.env)).any (·.1) = false := by rfl) : PE X (.Call (.Name x p) (e :: es) [] pos) (tCr sp E t) := by
  refine ⟨fun pins s σ H Q I h => ?_⟩
  refine wpAny_Call_Name_kw (ld_glob I hg hm ?_ hdb)
  refine PySem.W.callWith_K (h₀ := X.base) I.ok.mod.kin hk (thn (ha.run pos pins s σ H _ I h) fun us s1 hh => ?_) he hpl
  obtain ⟨vs, H1, I1, r, q⟩ := hh
  exact ⟨I1.kIn, wpAny_call (run_fnR F hr hx I1 r q)⟩
end
theorem szle {n : Nat} (h : Nat.ble n 1000 = true := by rfl) : n ≤ sizeLine := Nat.le_of_lt (small1000 (Nat.le_of_ble_eq_true h))
theorem szleM {n : Nat} (h : Nat.ble n 1000000 = true := by rfl) : n ≤ sizeLine := Nat.le_trans (Nat.le_of_ble_eq_true h) (by decide)
theorem smallM {n : Nat} (h : n ≤ 7000) : n < sizeLine := Nat.lt_of_le_of_lt h (by decide)
/-! ### a word between a statement and what follows it -/
def tMid (t u : TS) : TS := fun D σ H => ∃ M : L2.St → Hp → Prop, t { D with nx := M } σ H ∧ ∀ σ' H', M σ' H' → u D σ' H'
theorem pss_mid {X : Cx} {st : Stmt} {more : List Stmt} {t u : TS} (a : PS X st t) (b : PSs X more u) : PSs X (st :: more) (tMid t u) := by
  refine ⟨fun pins s σ H D I h => ?_⟩
  obtain ⟨M, hm, hu⟩ := h
  refine wpAny_execs_cons (thn (a.run pins s σ H { D with nx := M } I hm) fun fl s1 z => ?_)
  cases fl with
  | next =>
    obtain ⟨σ1, H1, J, y⟩ := z
    exact b.run pins s1 σ1 H1 D J (hu σ1 H1 y)
  | _ => exact z
/-! ### heaps: all is kept but what stands at S -/
def Frm (S : Addr → Prop) (H H' : Hp) : Prop := ∀ b o, ¬ S b → H b = some o → H' b = some o
theorem Frm.refl {S : Addr → Prop} {H : Hp} : Frm S H H := fun _ _ _ h => h
theorem Frm.trans {S : Addr → Prop} {H H1 H2 : Hp} (a : Frm S H H1) (b : Frm S H1 H2) : Frm S H H2 := fun c o n h => b c o n (a c o n h)
theorem Frm.mono {S S' : Addr → Prop} {H H' : Hp} (h : ∀ b, S b → S' b) (a : Frm S H H') : Frm S' H H' := fun c o n e => a c o (fun z => n (h c z)) e
theorem Frm.new {S : Addr → Prop} {H : Hp} {p : Addr} {o : HO} (h : H p = none) : Frm S H (upd H p o) := fun b x _ e => by
  rw [upd_ne (ne_of_none e h)]
  exact e
theorem Frm.at {S : Addr → Prop} {H : Hp} {p : Addr} {o : HO} (h : S p) : Frm S H (upd H p o) := fun b x n e => by
  have ne : b ≠ p := fun z => n (by rw [z]; exact h)
  rw [upd_ne ne]
  exact e
theorem Same.new {H : Hp} {p : Addr} {o : HO} (h : H p = none) : Same H (upd H p o) := fun b x e => by
  rw [upd_ne (ne_of_none e h)]
  exact e
theorem Same.frm {S : Addr → Prop} {H H' : Hp} (h : Same H H') : Frm S H H' := fun b o _ e => h b o e
theorem Frm.same {H H' : Hp} (h : Frm (fun _ => False) H H') : Same H H' := fun b o e => h b o (fun z => z) e
/-- an address that was tracked is tracked no other -/
theorem ne_new {H : Hp} {a p : Addr} {o : HO} (h : H a = some o) (n : H p = none) : a ≠ p := ne_of_none h n
/-- lists may change, the rest stands -/
def Kp (H H' : Hp) : Prop := ∀ b o, H b = some o → (∀ xs, o ≠ .lst xs) → H' b = some o
theorem Kp.refl {H : Hp} : Kp H H := fun _ _ h _ => h
theorem Kp.trans {H H1 H2 : Hp} (a : Kp H H1) (b : Kp H1 H2) : Kp H H2 := fun c o h n => b c o (a c o h n) n
theorem Same.kp {H H' : Hp} (h : Same H H') : Kp H H' := fun b o e _ => h b o e
theorem Frm.kp {S : Addr → Prop} {H H' : Hp} (h : Frm S H H') (hS : ∀ b, S b → ∀ o, H b = some o → ∃ xs, o = .lst xs) : Kp H H' := fun b o e n => h b o (fun z => by
  obtain ⟨xs, ex⟩ := hS b z o e
  exact n xs ex) e
end TW

namespace TW
open PySem PySem.Spec PyProof.Rows L2
/-- a name of the module that holds a plain value -/
theorem pe_gv {X : Cx} {x : Str} {v : V} {pos : Pos} (hg : Gl X x) (hm : ∃ u, X.mg x = some u ∧ RelV v u) (hd : (x == ("__debug__" : Str)) = false := by decide) : PE X (.Name x pos) (tC v) := by
  obtain ⟨u, h1, h2⟩ := hm
  exact pe_glob hg h1 h2 hd
abbrev s_is_big : Stmt := top 17
abbrev N_is_big : List Str := ["name", "char"]
theorem sc_is_big : FnScope N_is_big ["name"] (defScope s_is_big) := ⟨rfl, rfl, rfl, by decide +kernel, rfl, by decide +kernel, by decide +kernel⟩
abbrev s_is_small : Stmt := top 18
abbrev N_is_small : List Str := ["name", "char"]
theorem sc_is_small : FnScope N_is_small ["name"] (defScope s_is_small) := ⟨rfl, rfl, rfl, by decide +kernel, rfl, by decide +kernel, by decide +kernel⟩
abbrev s_name_at : Stmt := top 19
abbrev N_name_at : List Str := ["term", "at", "end", "name"]
theorem sc_name_at : FnScope N_name_at ["term", "at"] (defScope s_name_at) := ⟨rfl, rfl, rfl, by decide +kernel, rfl, by decide +kernel, by decide +kernel⟩
abbrev s_Tree_init : Stmt := inClass (top 20) 2
abbrev N_Tree_init : List Str := ["self", "name", "parts", "part"]
theorem sc_Tree_init : FnScope N_Tree_init ["self", "name", "parts"] (defScope s_Tree_init) := ⟨rfl, rfl, rfl, by decide +kernel, rfl, by decide +kernel, by decide +kernel⟩
abbrev s_Tree_read : Stmt := inClass (top 20) 3
abbrev N_Tree_read : List Str := ["cls", "term", "nodes", "done", "at", "name", "parts"]
theorem sc_Tree_read : FnScope N_Tree_read ["cls", "term"] (defScope s_Tree_read) := ⟨rfl, rfl, rfl, by decide +kernel, rfl, by decide +kernel, by decide +kernel⟩
abbrev s_Tree_place : Stmt := inClass (top 20) 5
abbrev N_Tree_place : List Str := ["self"]
theorem sc_Tree_place : FnScope N_Tree_place ["self"] (defScope s_Tree_place) := ⟨rfl, rfl, rfl, by decide +kernel, rfl, by decide +kernel, by decide +kernel⟩
abbrev s_Tree_eq : Stmt := inClass (top 20) 6
abbrev N_Tree_eq : List Str := ["self", "other"]
theorem sc_Tree_eq : FnScope N_Tree_eq ["self", "other"] (defScope s_Tree_eq) := ⟨rfl, rfl, rfl, by decide +kernel, rfl, by decide +kernel, by decide +kernel⟩
abbrev s_Tree_lt : Stmt := inClass (top 20) 7
abbrev N_Tree_lt : List Str := ["self", "other"]
theorem sc_Tree_lt : FnScope N_Tree_lt ["self", "other"] (defScope s_Tree_lt) := ⟨rfl, rfl, rfl, by decide +kernel, rfl, by decide +kernel, by decide +kernel⟩
abbrev s_Tree_le : Stmt := inClass (top 20) 8
abbrev N_Tree_le : List Str := ["self", "other"]
theorem sc_Tree_le : FnScope N_Tree_le ["self", "other"] (defScope s_Tree_le) := ⟨rfl, rfl, rfl, by decide +kernel, rfl, by decide +kernel, by decide +kernel⟩
abbrev s_Tree_and : Stmt := inClass (top 20) 9
abbrev N_Tree_and : List Str := ["self", "other", "parts", "part", "twin"]
theorem sc_Tree_and : FnScope N_Tree_and ["self", "other"] (defScope s_Tree_and) := ⟨rfl, rfl, rfl, by decide +kernel, rfl, by decide +kernel, by decide +kernel⟩
abbrev s_Tree_contains : Stmt := inClass (top 20) 11
abbrev N_Tree_contains : List Str := ["self", "path", "part", "index"]
theorem sc_Tree_contains : FnScope N_Tree_contains ["self", "path"] (defScope s_Tree_contains) := ⟨rfl, rfl, rfl, by decide +kernel, rfl, by decide +kernel, by decide +kernel⟩
abbrev s_Tree_getitem : Stmt := inClass (top 20) 12
abbrev N_Tree_getitem : List Str := ["self", "path", "part", "index"]
theorem sc_Tree_getitem : FnScope N_Tree_getitem ["self", "path"] (defScope s_Tree_getitem) := ⟨rfl, rfl, rfl, by decide +kernel, rfl, by decide +kernel, by decide +kernel⟩
abbrev s_Tree_iter : Stmt := inClass (top 20) 13
abbrev N_Tree_iter : List Str := ["self"]
theorem sc_Tree_iter : FnScope N_Tree_iter ["self"] (defScope s_Tree_iter) := ⟨rfl, rfl, rfl, by decide +kernel, rfl, by decide +kernel, by decide +kernel⟩
abbrev s_digit : Stmt := top 21
abbrev N_digit : List Str := ["number"]
theorem sc_digit : FnScope N_digit ["number"] (defScope s_digit) := ⟨rfl, rfl, rfl, by decide +kernel, rfl, by decide +kernel, by decide +kernel⟩
abbrev s_Maker_init : Stmt := inClass (top 27) 0
abbrev N_Maker_init : List Str := ["self", "kind", "name", "wants", "form"]
theorem sc_Maker_init : FnScope N_Maker_init ["self", "kind", "name", "wants", "form"] (defScope s_Maker_init) := ⟨rfl, rfl, rfl, by decide +kernel, rfl, by decide +kernel, by decide +kernel⟩
abbrev s_Table_init : Stmt := inClass (top 28) 2
abbrev N_Table_init : List Str := ["self", "name", "rows", "makers", "kind", "maker", "wants", "form"]
theorem sc_Table_init : FnScope N_Table_init ["self", "name", "rows"] (defScope s_Table_init) := ⟨rfl, rfl, rfl, by decide +kernel, rfl, by decide +kernel, by decide +kernel⟩
abbrev s_Table_read : Stmt := inClass (top 28) 3
abbrev N_Table_read : List Str := ["cls", "description", "lines", "head", "rows", "number", "line", "fields"]
theorem sc_Table_read : FnScope N_Table_read ["cls", "description"] (defScope s_Table_read) := ⟨rfl, rfl, rfl, by decide +kernel, rfl, by decide +kernel, by decide +kernel⟩
abbrev s_Table_eq : Stmt := inClass (top 28) 4
abbrev N_Table_eq : List Str := ["self", "other"]
theorem sc_Table_eq : FnScope N_Table_eq ["self", "other"] (defScope s_Table_eq) := ⟨rfl, rfl, rfl, by decide +kernel, rfl, by decide +kernel, by decide +kernel⟩
abbrev s_Table_contains : Stmt := inClass (top 28) 5
abbrev N_Table_contains : List Str := ["self", "name"]
theorem sc_Table_contains : FnScope N_Table_contains ["self", "name"] (defScope s_Table_contains) := ⟨rfl, rfl, rfl, by decide +kernel, rfl, by decide +kernel, by decide +kernel⟩
abbrev s_Table_iter : Stmt := inClass (top 28) 6
abbrev N_Table_iter : List Str := ["self"]
theorem sc_Table_iter : FnScope N_Table_iter ["self"] (defScope s_Table_iter) := ⟨rfl, rfl, rfl, by decide +kernel, rfl, by decide +kernel, by decide +kernel⟩
abbrev s_Table_maker : Stmt := inClass (top 28) 7
abbrev N_Table_maker : List Str := ["self", "name"]
theorem sc_Table_maker : FnScope N_Table_maker ["self", "name"] (defScope s_Table_maker) := ⟨rfl, rfl, rfl, by decide +kernel, rfl, by decide +kernel, by decide +kernel⟩
abbrev s_Table_makers : Stmt := inClass (top 28) 9
abbrev N_Table_makers : List Str := ["self", "kind", "maker"]
theorem sc_Table_makers : FnScope N_Table_makers ["self", "kind"] (defScope s_Table_makers) := ⟨rfl, rfl, rfl, by decide +kernel, rfl, by decide +kernel, by decide +kernel⟩
abbrev s_Table_least : Stmt := inClass (top 28) 11
abbrev N_Table_least : List Str := ["self", "kind"]
theorem sc_Table_least : FnScope N_Table_least ["self", "kind"] (defScope s_Table_least) := ⟨rfl, rfl, rfl, by decide +kernel, rfl, by decide +kernel, by decide +kernel⟩
abbrev s_kinds_of : Stmt := top 29
abbrev N_kinds_of : List Str := ["makers", "kinds", "maker"]
theorem sc_kinds_of : FnScope N_kinds_of ["makers"] (defScope s_kinds_of) := ⟨rfl, rfl, rfl, by decide +kernel, rfl, by decide +kernel, by decide +kernel⟩
abbrev s_line_of : Stmt := top 30
abbrev N_line_of : List Str := ["maker"]
theorem sc_line_of : FnScope N_line_of ["maker"] (defScope s_line_of) := ⟨rfl, rfl, rfl, by decide +kernel, rfl, by decide +kernel, by decide +kernel⟩
abbrev s_least_trees : Stmt := top 31
abbrev N_least_trees : List Str := ["makers", "least", "changed", "maker", "parts", "tree", "want"]
theorem sc_least_trees : FnScope N_least_trees ["makers"] (defScope s_least_trees) := ⟨rfl, rfl, rfl, by decide +kernel, rfl, by decide +kernel, by decide +kernel⟩
abbrev s_is_form : Stmt := top 32
abbrev N_is_form : List Str := ["form", "wants", "places", "place", "char"]
theorem sc_is_form : FnScope N_is_form ["form", "wants"] (defScope s_is_form) := ⟨rfl, rfl, rfl, by decide +kernel, rfl, by decide +kernel, by decide +kernel⟩
abbrev s_fault_alone : Stmt := top 33
abbrev N_fault_alone : List Str := ["makers", "row", "maker", "before", "kinds", "trees", "want", "other", "name"]
theorem sc_fault_alone : FnScope N_fault_alone ["makers", "row"] (defScope s_fault_alone) := ⟨rfl, rfl, rfl, by decide +kernel, rfl, by decide +kernel, by decide +kernel⟩
abbrev s_check_rows : Stmt := top 34
abbrev N_check_rows : List Str := ["makers", "row", "reason", "kinds", "maker", "starts", "least", "other", "want"]
theorem sc_check_rows : FnScope N_check_rows ["makers"] (defScope s_check_rows) := ⟨rfl, rfl, rfl, by decide +kernel, rfl, by decide +kernel, by decide +kernel⟩
abbrev s_start_of : Stmt := top 35
abbrev N_start_of : List Str := ["maker"]
theorem sc_start_of : FnScope N_start_of ["maker"] (defScope s_start_of) := ⟨rfl, rfl, rfl, by decide +kernel, rfl, by decide +kernel, by decide +kernel⟩
abbrev s_law_pool_of : Stmt := top 37
abbrev N_law_pool_of : List Str := ["_law_script", "_law_seed", "_law_rows", "_law_cell"]
theorem sc_law_pool_of : FnScope N_law_pool_of ["_law_script"] (defScope s_law_pool_of) := ⟨rfl, rfl, rfl, by decide +kernel, rfl, by decide +kernel, by decide +kernel⟩
abbrev s_law_draw : Stmt := top 38
abbrev N_law_draw : List Str := ["_law_pool", "_law_many", "_law_rows", "_law_pick_here", "_law_mixed"]
theorem sc_law_draw : FnScope N_law_draw ["_law_pool", "_law_many"] (defScope s_law_draw) := ⟨rfl, rfl, rfl, by decide +kernel, rfl, by decide +kernel, by decide +kernel⟩
abbrev s_law_name_of : Stmt := top 39
abbrev N_law_name_of : List Str := ["_law_pool", "_law_signs", "_law_word", "_law_k"]
theorem sc_law_name_of : FnScope N_law_name_of ["_law_pool"] (defScope s_law_name_of) := ⟨rfl, rfl, rfl, by decide +kernel, rfl, by decide +kernel, by decide +kernel⟩
abbrev s_law_small : Stmt := top 40
abbrev N_law_small : List Str := ["_law_pool", "_law_signs", "_law_word", "_law_k"]
theorem sc_law_small : FnScope N_law_small ["_law_pool"] (defScope s_law_small) := ⟨rfl, rfl, rfl, by decide +kernel, rfl, by decide +kernel, by decide +kernel⟩
abbrev s_law_fresh : Stmt := top 41
abbrev N_law_fresh : List Str := ["_law_pool", "_law_taken", "_law_word", "_law_spare", "_law_sign", "_law_one"]
theorem sc_law_fresh : FnScope N_law_fresh ["_law_pool", "_law_taken"] (defScope s_law_fresh) := ⟨rfl, rfl, rfl, by decide +kernel, rfl, by decide +kernel, by decide +kernel⟩
abbrev s_law_wanted : Stmt := top 42
abbrev N_law_wanted : List Str := ["_law_pool", "_law_kinds", "_law_wants", "_law_k", "_law_pick_here", "_law_trees", "_law_want"]
theorem sc_law_wanted : FnScope N_law_wanted ["_law_pool", "_law_kinds"] (defScope s_law_wanted) := ⟨rfl, rfl, rfl, by decide +kernel, rfl, by decide +kernel, by decide +kernel⟩
abbrev s_law_shaped : Stmt := top 43
abbrev N_law_shaped : List Str := ["_law_pool", "_law_wants", "_law_starts", "_law_signs", "_law_left", "_law_form", "_law_places", "_law_first", "_law_order", "_law_place", "_law_k", "_law_sign"]
theorem sc_law_shaped : FnScope N_law_shaped ["_law_pool", "_law_wants", "_law_starts"] (defScope s_law_shaped) := ⟨rfl, rfl, rfl, by decide +kernel, rfl, by decide +kernel, by decide +kernel⟩
abbrev s_law_menu : Stmt := top 44
abbrev N_law_menu : List Str := ["_law_pick_here", "_law_expr", "_law_stmt"]
theorem sc_law_menu : FnScope N_law_menu ["_law_pick_here"] (defScope s_law_menu) := ⟨rfl, rfl, rfl, by decide +kernel, rfl, by decide +kernel, by decide +kernel⟩
abbrev s_law_table_rows : Stmt := top 45
abbrev N_law_table_rows : List Str := ["_law_pool", "_law_way", "_law_kinds", "_law_k", "_law_names", "_law_rows", "_law_starts", "_law_j", "_law_wants", "_law_form", "_law_row"]
theorem sc_law_table_rows : FnScope N_law_table_rows ["_law_pool"] (defScope s_law_table_rows) := ⟨rfl, rfl, rfl, by decide +kernel, rfl, by decide +kernel, by decide +kernel⟩
abbrev s_law_described : Stmt := top 46
abbrev N_law_described : List Str := ["_law_name", "_law_rows", "_law_lines_here", "_law_row"]
theorem sc_law_described : FnScope N_law_described ["_law_name", "_law_rows"] (defScope s_law_described) := ⟨rfl, rfl, rfl, by decide +kernel, rfl, by decide +kernel, by decide +kernel⟩
abbrev s_law_kinds_of : Stmt := top 47
abbrev N_law_kinds_of : List Str := ["_law_rows", "_law_kinds", "_law_row"]
theorem sc_law_kinds_of : FnScope N_law_kinds_of ["_law_rows"] (defScope s_law_kinds_of) := ⟨rfl, rfl, rfl, by decide +kernel, rfl, by decide +kernel, by decide +kernel⟩
abbrev s_law_pick : Stmt := top 48
abbrev N_law_pick : List Str := ["_law_pool", "_law_choices"]
theorem sc_law_pick : FnScope N_law_pick ["_law_pool", "_law_choices"] (defScope s_law_pick) := ⟨rfl, rfl, rfl, by decide +kernel, rfl, by decide +kernel, by decide +kernel⟩
abbrev s_law_odd_word : Stmt := top 49
abbrev N_law_odd_word : List Str := ["_law_pool", "_law_rows", "_law_words", "_law_row"]
theorem sc_law_odd_word : FnScope N_law_odd_word ["_law_pool", "_law_rows"] (defScope s_law_odd_word) := ⟨rfl, rfl, rfl, by decide +kernel, rfl, by decide +kernel, by decide +kernel⟩
abbrev s_law_odd_sign : Stmt := top 50
abbrev N_law_odd_sign : List Str := ["_law_pool", "_law_more", "_law_signs"]
theorem sc_law_odd_sign : FnScope N_law_odd_sign ["_law_pool", "_law_more"] (defScope s_law_odd_sign) := ⟨rfl, rfl, rfl, by decide +kernel, rfl, by decide +kernel, by decide +kernel⟩
abbrev s_law_bent_row : Stmt := top 51
abbrev N_law_bent_row : List Str := ["_law_pool", "_law_rows", "_law_row", "_law_wants", "_law_form", "_law_way", "_law_at"]
theorem sc_law_bent_row : FnScope N_law_bent_row ["_law_pool", "_law_rows", "_law_row"] (defScope s_law_bent_row) := ⟨rfl, rfl, rfl, by decide +kernel, rfl, by decide +kernel, by decide +kernel⟩
abbrev s_law_bent : Stmt := top 52
abbrev N_law_bent : List Str := ["_law_pool", "_law_rows", "_law_at", "_law_way"]
theorem sc_law_bent : FnScope N_law_bent ["_law_pool", "_law_rows"] (defScope s_law_bent) := ⟨rfl, rfl, rfl, by decide +kernel, rfl, by decide +kernel, by decide +kernel⟩
abbrev s_law_grounds : Stmt := top 53
abbrev N_law_grounds : List Str := ["_law_rows", "_law_base", "_law_k", "_law_row", "_law_left", "_law_one"]
theorem sc_law_grounds : FnScope N_law_grounds ["_law_rows"] (defScope s_law_grounds) := ⟨rfl, rfl, rfl, by decide +kernel, rfl, by decide +kernel, by decide +kernel⟩
abbrev s_law_big : Stmt := top 54
abbrev N_law_big : List Str := ["_law_name", "_law_capitals", "_law_sign"]
theorem sc_law_big : FnScope N_law_big ["_law_name"] (defScope s_law_big) := ⟨rfl, rfl, rfl, by decide +kernel, rfl, by decide +kernel, by decide +kernel⟩
abbrev s_law_is_small : Stmt := top 55
abbrev N_law_is_small : List Str := ["_law_name", "_law_letters", "_law_sign"]
theorem sc_law_is_small : FnScope N_law_is_small ["_law_name"] (defScope s_law_is_small) := ⟨rfl, rfl, rfl, by decide +kernel, rfl, by decide +kernel, by decide +kernel⟩
abbrev s_law_formed : Stmt := top 56
abbrev N_law_formed : List Str := ["_law_wants", "_law_form", "_law_signs", "_law_places", "_law_sign", "_law_place"]
theorem sc_law_formed : FnScope N_law_formed ["_law_wants", "_law_form"] (defScope s_law_formed) := ⟨rfl, rfl, rfl, by decide +kernel, rfl, by decide +kernel, by decide +kernel⟩
abbrev s_law_alone : Stmt := top 57
abbrev N_law_alone : List Str := ["_law_rows", "_law_k", "_law_row", "_law_trees", "_law_word", "_law_kinds", "_law_want", "_law_one"]
theorem sc_law_alone : FnScope N_law_alone ["_law_rows", "_law_k"] (defScope s_law_alone) := ⟨rfl, rfl, rfl, by decide +kernel, rfl, by decide +kernel, by decide +kernel⟩
abbrev s_law_start : Stmt := top 58
abbrev N_law_start : List Str := ["_law_row"]
theorem sc_law_start : FnScope N_law_start ["_law_row"] (defScope s_law_start) := ⟨rfl, rfl, rfl, by decide +kernel, rfl, by decide +kernel, by decide +kernel⟩
abbrev s_law_fault : Stmt := top 59
abbrev N_law_fault : List Str := ["_law_name", "_law_rows", "_law_k", "_law_reason", "_law_kinds", "_law_mine", "_law_base", "_law_row", "_law_want"]
theorem sc_law_fault : FnScope N_law_fault ["_law_name", "_law_rows"] (defScope s_law_fault) := ⟨rfl, rfl, rfl, by decide +kernel, rfl, by decide +kernel, by decide +kernel⟩
abbrev s_law_table : Stmt := top 60
abbrev N_law_table : List Str := ["_law_name", "_law_r"]
theorem sc_law_table : FnScope N_law_table ["_law_name", "_law_r"] (defScope s_law_table) := ⟨rfl, rfl, rfl, by decide +kernel, rfl, by decide +kernel, by decide +kernel⟩
abbrev s_law_built : Stmt := top 61
abbrev N_law_built : List Str := ["_law_name", "_law_rows", "_law_text", "_law_table_here", "e"]
theorem sc_law_built : FnScope N_law_built ["_law_name", "_law_rows", "_law_text"] (defScope s_law_built) := ⟨rfl, rfl, rfl, by decide +kernel, rfl, by decide +kernel, by decide +kernel⟩
abbrev s_law_lines : Stmt := top 62
abbrev N_law_lines : List Str := ["_law_text", "_law_lines_here", "_law_fields", "_law_name", "_law_rows", "_law_k", "_law_wants"]
theorem sc_law_lines : FnScope N_law_lines ["_law_text"] (defScope s_law_lines) := ⟨rfl, rfl, rfl, by decide +kernel, rfl, by decide +kernel, by decide +kernel⟩
abbrev s_law_least : Stmt := top 63
abbrev N_law_least : List Str := ["_law_rows", "_law_best", "_law_k", "_law_row", "_law_parts", "_law_term", "_law_size", "_law_want", "_law_part"]
theorem sc_law_least : FnScope N_law_least ["_law_rows"] (defScope s_law_least) := ⟨rfl, rfl, rfl, by decide +kernel, rfl, by decide +kernel, by decide +kernel⟩
abbrev s_law_maker_good : Stmt := top 64
abbrev N_law_maker_good : List Str := ["_law_maker", "_law_row"]
theorem sc_law_maker_good : FnScope N_law_maker_good ["_law_maker", "_law_row"] (defScope s_law_maker_good) := ⟨rfl, rfl, rfl, by decide +kernel, rfl, by decide +kernel, by decide +kernel⟩
abbrev s_law_unknown : Stmt := top 65
abbrev N_law_unknown : List Str := ["_law_table_here", "_law_name", "_law_count", "e"]
theorem sc_law_unknown : FnScope N_law_unknown ["_law_table_here", "_law_name"] (defScope s_law_unknown) := ⟨rfl, rfl, rfl, by decide +kernel, rfl, by decide +kernel, by decide +kernel⟩
abbrev s_law_table_good : Stmt := top 66
abbrev N_law_table_good : List Str := ["_law_table_here", "_law_name", "_law_rows", "_law_kinds", "_law_makers", "_law_k", "_law_least_here", "_law_named", "_law_kind", "_law_mine", "_law_due", "_law_maker", "_law_row"]
theorem sc_law_table_good : FnScope N_law_table_good ["_law_table_here", "_law_name", "_law_rows"] (defScope s_law_table_good) := ⟨rfl, rfl, rfl, by decide +kernel, rfl, by decide +kernel, by decide +kernel⟩
abbrev s_law_so : Stmt := top 67
abbrev N_law_so : List Str := ["_law_name", "_law_rows", "_law_text", "_law_due", "_law_found"]
theorem sc_law_so : FnScope N_law_so ["_law_name", "_law_rows", "_law_text"] (defScope s_law_so) := ⟨rfl, rfl, rfl, by decide +kernel, rfl, by decide +kernel, by decide +kernel⟩
abbrev s_law_read_so : Stmt := top 68
abbrev N_law_read_so : List Str := ["_law_text", "_law_lines_here", "_law_found"]
theorem sc_law_read_so : FnScope N_law_read_so ["_law_text"] (defScope s_law_read_so) := ⟨rfl, rfl, rfl, by decide +kernel, rfl, by decide +kernel, by decide +kernel⟩
abbrev s_law_spoilt : Stmt := top 69
abbrev N_law_spoilt : List Str := ["_law_pool", "_law_text", "_law_at", "_law_way", "_law_sign"]
theorem sc_law_spoilt : FnScope N_law_spoilt ["_law_pool", "_law_text"] (defScope s_law_spoilt) := ⟨rfl, rfl, rfl, by decide +kernel, rfl, by decide +kernel, by decide +kernel⟩
abbrev s_law_equal : Stmt := top 70
abbrev N_law_equal : List Str := ["_law_name", "_law_rows", "_law_text", "_law_other", "_law_table_here", "_law_spare"]
theorem sc_law_equal : FnScope N_law_equal ["_law_name", "_law_rows"] (defScope s_law_equal) := ⟨rfl, rfl, rfl, by decide +kernel, rfl, by decide +kernel, by decide +kernel⟩
abbrev s_law : Stmt := top 71
abbrev N_law : List Str := ["_law_script", "_law_pool", "_law_right", "_law_rows", "_law_k", "_law_name", "_law_small_here", "_law_text"]
theorem sc_law : FnScope N_law ["_law_script"] (defScope s_law) := ⟨rfl, rfl, rfl, by decide +kernel, rfl, by decide +kernel, by decide +kernel⟩
/-- what the top has left: where the defs stand, which names are still the built-ins -/
structure Tx (K : PySem.W.Frag) (mg : Str → Option Value) : Prop where
  d_is_big : DefAt K "is_big" "is_big" s_is_big (He.ga K "is_big")
  v_is_big : mg "is_big" = some (.ref (He.ga K "is_big"))
  k_is_big : PySem.W.keepIn K (.ref (He.ga K "is_big")) = true
  d_is_small : DefAt K "is_small" "is_small" s_is_small (He.ga K "is_small")
  v_is_small : mg "is_small" = some (.ref (He.ga K "is_small"))
  k_is_small : PySem.W.keepIn K (.ref (He.ga K "is_small")) = true
  d_name_at : DefAt K "name_at" "name_at" s_name_at (He.ga K "name_at")
  v_name_at : mg "name_at" = some (.ref (He.ga K "name_at"))
  k_name_at : PySem.W.keepIn K (.ref (He.ga K "name_at")) = true
  d_digit : DefAt K "digit" "digit" s_digit (He.ga K "digit")
  v_digit : mg "digit" = some (.ref (He.ga K "digit"))
  k_digit : PySem.W.keepIn K (.ref (He.ga K "digit")) = true
  d_kinds_of : DefAt K "kinds_of" "kinds_of" s_kinds_of (He.ga K "kinds_of")
  v_kinds_of : mg "kinds_of" = some (.ref (He.ga K "kinds_of"))
  k_kinds_of : PySem.W.keepIn K (.ref (He.ga K "kinds_of")) = true
  d_line_of : DefAt K "line_of" "line_of" s_line_of (He.ga K "line_of")
  v_line_of : mg "line_of" = some (.ref (He.ga K "line_of"))
  k_line_of : PySem.W.keepIn K (.ref (He.ga K "line_of")) = true
  d_least_trees : DefAt K "least_trees" "least_trees" s_least_trees (He.ga K "least_trees")
  v_least_trees : mg "least_trees" = some (.ref (He.ga K "least_trees"))
  k_least_trees : PySem.W.keepIn K (.ref (He.ga K "least_trees")) = true
  d_is_form : DefAt K "is_form" "is_form" s_is_form (He.ga K "is_form")
  v_is_form : mg "is_form" = some (.ref (He.ga K "is_form"))
  k_is_form : PySem.W.keepIn K (.ref (He.ga K "is_form")) = true
  d_fault_alone : DefAt K "fault_alone" "fault_alone" s_fault_alone (He.ga K "fault_alone")
  v_fault_alone : mg "fault_alone" = some (.ref (He.ga K "fault_alone"))
  k_fault_alone : PySem.W.keepIn K (.ref (He.ga K "fault_alone")) = true
  d_check_rows : DefAt K "check_rows" "check_rows" s_check_rows (He.ga K "check_rows")
  v_check_rows : mg "check_rows" = some (.ref (He.ga K "check_rows"))
  k_check_rows : PySem.W.keepIn K (.ref (He.ga K "check_rows")) = true
  d_start_of : DefAt K "start_of" "start_of" s_start_of (He.ga K "start_of")
  v_start_of : mg "start_of" = some (.ref (He.ga K "start_of"))
  k_start_of : PySem.W.keepIn K (.ref (He.ga K "start_of")) = true
  d_law_pool_of : DefAt K "_law_pool_of" "_law_pool_of" s_law_pool_of (He.ga K "_law_pool_of")
  v_law_pool_of : mg "_law_pool_of" = some (.ref (He.ga K "_law_pool_of"))
  k_law_pool_of : PySem.W.keepIn K (.ref (He.ga K "_law_pool_of")) = true
  d_law_draw : DefAt K "_law_draw" "_law_draw" s_law_draw (He.ga K "_law_draw")
  v_law_draw : mg "_law_draw" = some (.ref (He.ga K "_law_draw"))
  k_law_draw : PySem.W.keepIn K (.ref (He.ga K "_law_draw")) = true
  d_law_name_of : DefAt K "_law_name_of" "_law_name_of" s_law_name_of (He.ga K "_law_name_of")
  v_law_name_of : mg "_law_name_of" = some (.ref (He.ga K "_law_name_of"))
  k_law_name_of : PySem.W.keepIn K (.ref (He.ga K "_law_name_of")) = true
  d_law_small : DefAt K "_law_small" "_law_small" s_law_small (He.ga K "_law_small")
  v_law_small : mg "_law_small" = some (.ref (He.ga K "_law_small"))
  k_law_small : PySem.W.keepIn K (.ref (He.ga K "_law_small")) = true
  d_law_fresh : DefAt K "_law_fresh" "_law_fresh" s_law_fresh (He.ga K "_law_fresh")
  v_law_fresh : mg "_law_fresh" = some (.ref (He.ga K "_law_fresh"))
  k_law_fresh : PySem.W.keepIn K (.ref (He.ga K "_law_fresh")) = true
  d_law_wanted : DefAt K "_law_wanted" "_law_wanted" s_law_wanted (He.ga K "_law_wanted")
  v_law_wanted : mg "_law_wanted" = some (.ref (He.ga K "_law_wanted"))
  k_law_wanted : PySem.W.keepIn K (.ref (He.ga K "_law_wanted")) = true
  d_law_shaped : DefAt K "_law_shaped" "_law_shaped" s_law_shaped (He.ga K "_law_shaped")
  v_law_shaped : mg "_law_shaped" = some (.ref (He.ga K "_law_shaped"))
  k_law_shaped : PySem.W.keepIn K (.ref (He.ga K "_law_shaped")) = true
  d_law_menu : DefAt K "_law_menu" "_law_menu" s_law_menu (He.ga K "_law_menu")
  v_law_menu : mg "_law_menu" = some (.ref (He.ga K "_law_menu"))
  k_law_menu : PySem.W.keepIn K (.ref (He.ga K "_law_menu")) = true
  d_law_table_rows : DefAt K "_law_table_rows" "_law_table_rows" s_law_table_rows (He.ga K "_law_table_rows")
  v_law_table_rows : mg "_law_table_rows" = some (.ref (He.ga K "_law_table_rows"))
  k_law_table_rows : PySem.W.keepIn K (.ref (He.ga K "_law_table_rows")) = true
  d_law_described : DefAt K "_law_described" "_law_described" s_law_described (He.ga K "_law_described")
  v_law_described : mg "_law_described" = some (.ref (He.ga K "_law_described"))
  k_law_described : PySem.W.keepIn K (.ref (He.ga K "_law_described")) = true
  d_law_kinds_of : DefAt K "_law_kinds_of" "_law_kinds_of" s_law_kinds_of (He.ga K "_law_kinds_of")
  v_law_kinds_of : mg "_law_kinds_of" = some (.ref (He.ga K "_law_kinds_of"))
  k_law_kinds_of : PySem.W.keepIn K (.ref (He.ga K "_law_kinds_of")) = true
  d_law_pick : DefAt K "_law_pick" "_law_pick" s_law_pick (He.ga K "_law_pick")
  v_law_pick : mg "_law_pick" = some (.ref (He.ga K "_law_pick"))
  k_law_pick : PySem.W.keepIn K (.ref (He.ga K "_law_pick")) = true
  d_law_odd_word : DefAt K "_law_odd_word" "_law_odd_word" s_law_odd_word (He.ga K "_law_odd_word")
  v_law_odd_word : mg "_law_odd_word" = some (.ref (He.ga K "_law_odd_word"))
  k_law_odd_word : PySem.W.keepIn K (.ref (He.ga K "_law_odd_word")) = true
  d_law_odd_sign : DefAt K "_law_odd_sign" "_law_odd_sign" s_law_odd_sign (He.ga K "_law_odd_sign")
  v_law_odd_sign : mg "_law_odd_sign" = some (.ref (He.ga K "_law_odd_sign"))
  k_law_odd_sign : PySem.W.keepIn K (.ref (He.ga K "_law_odd_sign")) = true
  d_law_bent_row : DefAt K "_law_bent_row" "_law_bent_row" s_law_bent_row (He.ga K "_law_bent_row")
  v_law_bent_row : mg "_law_bent_row" = some (.ref (He.ga K "_law_bent_row"))
  k_law_bent_row : PySem.W.keepIn K (.ref (He.ga K "_law_bent_row")) = true
  d_law_bent : DefAt K "_law_bent" "_law_bent" s_law_bent (He.ga K "_law_bent")
  v_law_bent : mg "_law_bent" = some (.ref (He.ga K "_law_bent"))
  k_law_bent : PySem.W.keepIn K (.ref (He.ga K "_law_bent")) = true
  d_law_grounds : DefAt K "_law_grounds" "_law_grounds" s_law_grounds (He.ga K "_law_grounds")
  v_law_grounds : mg "_law_grounds" = some (.ref (He.ga K "_law_grounds"))
  k_law_grounds : PySem.W.keepIn K (.ref (He.ga K "_law_grounds")) = true
  d_law_big : DefAt K "_law_big" "_law_big" s_law_big (He.ga K "_law_big")
  v_law_big : mg "_law_big" = some (.ref (He.ga K "_law_big"))
  k_law_big : PySem.W.keepIn K (.ref (He.ga K "_law_big")) = true
  d_law_is_small : DefAt K "_law_is_small" "_law_is_small" s_law_is_small (He.ga K "_law_is_small")
  v_law_is_small : mg "_law_is_small" = some (.ref (He.ga K "_law_is_small"))
  k_law_is_small : PySem.W.keepIn K (.ref (He.ga K "_law_is_small")) = true
  d_law_formed : DefAt K "_law_formed" "_law_formed" s_law_formed (He.ga K "_law_formed")
  v_law_formed : mg "_law_formed" = some (.ref (He.ga K "_law_formed"))
  k_law_formed : PySem.W.keepIn K (.ref (He.ga K "_law_formed")) = true
  d_law_alone : DefAt K "_law_alone" "_law_alone" s_law_alone (He.ga K "_law_alone")
  v_law_alone : mg "_law_alone" = some (.ref (He.ga K "_law_alone"))
  k_law_alone : PySem.W.keepIn K (.ref (He.ga K "_law_alone")) = true
  d_law_start : DefAt K "_law_start" "_law_start" s_law_start (He.ga K "_law_start")
  v_law_start : mg "_law_start" = some (.ref (He.ga K "_law_start"))
  k_law_start : PySem.W.keepIn K (.ref (He.ga K "_law_start")) = true
  d_law_fault : DefAt K "_law_fault" "_law_fault" s_law_fault (He.ga K "_law_fault")
  v_law_fault : mg "_law_fault" = some (.ref (He.ga K "_law_fault"))
  k_law_fault : PySem.W.keepIn K (.ref (He.ga K "_law_fault")) = true
  d_law_table : DefAt K "_law_table" "_law_table" s_law_table (He.ga K "_law_table")
  v_law_table : mg "_law_table" = some (.ref (He.ga K "_law_table"))
  k_law_table : PySem.W.keepIn K (.ref (He.ga K "_law_table")) = true
  d_law_built : DefAt K "_law_built" "_law_built" s_law_built (He.ga K "_law_built")
  v_law_built : mg "_law_built" = some (.ref (He.ga K "_law_built"))
  k_law_built : PySem.W.keepIn K (.ref (He.ga K "_law_built")) = true
  d_law_lines : DefAt K "_law_lines" "_law_lines" s_law_lines (He.ga K "_law_lines")
  v_law_lines : mg "_law_lines" = some (.ref (He.ga K "_law_lines"))
  k_law_lines : PySem.W.keepIn K (.ref (He.ga K "_law_lines")) = true
  d_law_least : DefAt K "_law_least" "_law_least" s_law_least (He.ga K "_law_least")
  v_law_least : mg "_law_least" = some (.ref (He.ga K "_law_least"))
  k_law_least : PySem.W.keepIn K (.ref (He.ga K "_law_least")) = true
  d_law_maker_good : DefAt K "_law_maker_good" "_law_maker_good" s_law_maker_good (He.ga K "_law_maker_good")
  v_law_maker_good : mg "_law_maker_good" = some (.ref (He.ga K "_law_maker_good"))
  k_law_maker_good : PySem.W.keepIn K (.ref (He.ga K "_law_maker_good")) = true
  d_law_unknown : DefAt K "_law_unknown" "_law_unknown" s_law_unknown (He.ga K "_law_unknown")
  v_law_unknown : mg "_law_unknown" = some (.ref (He.ga K "_law_unknown"))
  k_law_unknown : PySem.W.keepIn K (.ref (He.ga K "_law_unknown")) = true
  d_law_table_good : DefAt K "_law_table_good" "_law_table_good" s_law_table_good (He.ga K "_law_table_good")
  v_law_table_good : mg "_law_table_good" = some (.ref (He.ga K "_law_table_good"))
  k_law_table_good : PySem.W.keepIn K (.ref (He.ga K "_law_table_good")) = true
  d_law_so : DefAt K "_law_so" "_law_so" s_law_so (He.ga K "_law_so")
  v_law_so : mg "_law_so" = some (.ref (He.ga K "_law_so"))
  k_law_so : PySem.W.keepIn K (.ref (He.ga K "_law_so")) = true
  d_law_read_so : DefAt K "_law_read_so" "_law_read_so" s_law_read_so (He.ga K "_law_read_so")
  v_law_read_so : mg "_law_read_so" = some (.ref (He.ga K "_law_read_so"))
  k_law_read_so : PySem.W.keepIn K (.ref (He.ga K "_law_read_so")) = true
  d_law_spoilt : DefAt K "_law_spoilt" "_law_spoilt" s_law_spoilt (He.ga K "_law_spoilt")
  v_law_spoilt : mg "_law_spoilt" = some (.ref (He.ga K "_law_spoilt"))
  k_law_spoilt : PySem.W.keepIn K (.ref (He.ga K "_law_spoilt")) = true
  d_law_equal : DefAt K "_law_equal" "_law_equal" s_law_equal (He.ga K "_law_equal")
  v_law_equal : mg "_law_equal" = some (.ref (He.ga K "_law_equal"))
  k_law_equal : PySem.W.keepIn K (.ref (He.ga K "_law_equal")) = true
  d_law : DefAt K "law" "law" s_law (He.ga K "law")
  v_law : mg "law" = some (.ref (He.ga K "law"))
  k_law : PySem.W.keepIn K (.ref (He.ga K "law")) = true
  z_abs : mg "abs" = none
  z_int : mg "int" = none
  z_len : mg "len" = none
  z_range : mg "range" = none
  z_sum : mg "sum" = none
  z_max : mg "max" = none
  z_all : mg "all" = none
  z_isinstance : mg "isinstance" = none
  z_tuple : mg "tuple" = none
  z_list : mg "list" = none
  z_iter : mg "iter" = none
  z_bool : mg "bool" = none
  z_ValueError : mg "ValueError" = none
  z_zip : mg "zip" = none
  z_str : mg "str" = none
  z_enumerate : mg "enumerate" = none
  z_sorted : mg "sorted" = none
end TW

namespace TW
open PySem PySem.Spec PyProof.Rows L2
/-! ### the pool of draws -/
/-- at p stands [rows, seed, count], at r the rows -/
structure PoolAt (H : Hp) (p r : Addr) : Prop where
  ex : ∃ (seed cnt : Int) (ns : List Int), H p = some (.lst [.ref r, .int seed, .int cnt]) ∧ H r = some (.lst (ns.map V.int))
theorem PoolAt.ne {H : Hp} {p r : Addr} (h : PoolAt H p r) : r ≠ p := by
  obtain ⟨seed, cnt, ns, h1, h2⟩ := h.ex
  intro e
  rw [e, h1] at h2
  cases ns with
  | nil => cases h2
  | cons x t => cases h2
abbrev PR (p r : Addr) : Addr → Prop := fun b => b = p ∨ b = r
theorem PoolAt.keep {H H' : Hp} {p r : Addr} (h : PoolAt H p r) (s : Same H H') : PoolAt H' p r := by
  obtain ⟨seed, cnt, ns, h1, h2⟩ := h.ex
  exact ⟨seed, cnt, ns, s _ _ h1, s _ _ h2⟩
theorem PoolAt.upd {H : Hp} {p r q : Addr} {o : HO} (h : PoolAt H p r) (hp : q ≠ p) (hr : q ≠ r) : PoolAt (upd H q o) p r := by
  obtain ⟨seed, cnt, ns, h1, h2⟩ := h.ex
  exact ⟨seed, cnt, ns, by rw [upd_ne (Ne.symm hp)]; exact h1, by rw [upd_ne (Ne.symm hr)]; exact h2⟩
theorem PoolAt.frm {H H' : Hp} {p r : Addr} (h : PoolAt H p r) {S : Addr → Prop} (s : Frm S H H') (hp : ¬ S p) (hr : ¬ S r) : PoolAt H' p r := by
  obtain ⟨seed, cnt, ns, h1, h2⟩ := h.ex
  exact ⟨seed, cnt, ns, s _ _ hp h1, s _ _ hr h2⟩
theorem PoolAt.lst {H : Hp} {p r : Addr} (h : PoolAt H p r) : ∀ b, PR p r b → ∀ o, H b = some o → ∃ xs, o = .lst xs := fun b hb o e => by
  obtain ⟨seed, cnt, ns, h1, h2⟩ := h.ex
  rcases hb with rfl | rfl
  · rw [h1] at e
    cases e
    exact ⟨_, rfl⟩
  · rw [h2] at e
    cases e
    exact ⟨_, rfl⟩
theorem PoolAt.some {H : Hp} {p r : Addr} (h : PoolAt H p r) : ∀ b, PR p r b → H b ≠ none := fun b hb e => by
  obtain ⟨seed, cnt, ns, h1, h2⟩ := h.ex
  rcases hb with rfl | rfl
  · rw [h1] at e
    cases e
  · rw [h2] at e
    cases e
/-- what a draw leaves -/
structure Drew (p r : Addr) (H H' : Hp) : Prop where
  frm : Frm (PR p r) H H'
  pool : PoolAt H' p r
def sp_draw : Sp := fun vs H Q _ => ∃ (p r : Addr) (m : Int), vs = [.ref p, .int m] ∧ 0 < m ∧ m < 1073741824 ∧ PoolAt H p r ∧ ∀ H' v, 0 ≤ v → v < m → Drew p r H H' → Q (.int v) H'
theorem dpInts {K : PySem.W.Frag} {H : Hp} : ∀ ns : List Int, DpAll K H (ns.map V.int) (ns.map PyData.int)
  | [] => .nil
  | n :: r => .cons (.int n) (dpInts r)
theorem ixN_of {n j : Nat} (h : j < n) : ixN n (j : Int) = some j := by
  unfold ixN
  rw [if_pos (by omega), if_pos (by omega)]
  simp
theorem seqIx_of {n j : Nat} (h : j < n) : seqIndex? (j : Int) n = some j := (ixN_seq (ixN_of h)).1
theorem layInts : ∀ ns : List Int, PyData.canLayAll0 (ns.map PyData.int) = true
  | [] => rfl
  | n :: r => by
    show (PyData.canLay0 (.int n) && PyData.canLayAll0 (r.map PyData.int)) = true
    rw [layInts r]
    rfl
theorem depthInts : ∀ ns : List Int, PyData.depthAll (ns.map PyData.int) = 0
  | [] => rfl
  | n :: r => by
    show max (PyData.depth (.int n)) (PyData.depthAll (r.map PyData.int)) = 0
    rw [depthInts r]
    rfl
theorem shapedInts (ns : List Int) : SeqAt.shaped (.list (ns.map PyData.int)) = true := by
  show (PyData.canLayAll0 (ns.map PyData.int) && decide (PyData.depthAll (ns.map PyData.int) + 1 ≤ 64)) = true
  rw [layInts, depthInts]
  rfl
section
variable {P : Program} {w : World} {K : PySem.W.Frag} {mg : Str → Option Value} {base : Heap}
theorem ok_draw (T : Tx K mg) : FnR P w K mg base CX0 1 (He.ga K "_law_draw") sp_draw := by
  refine fnR0 T.d_law_draw sc_law_draw (fun _ _ _ _ _ _ us hl => match us, hl with | [_, _], _ => rfl) (fun vs H Q E h => ?_) (fun cdv A outer s H vs Q E hr h => ?_)
  · obtain ⟨p, r, m, rfl, _⟩ := h
    rfl
  · obtain ⟨p, r, m, rfl, m0, m1, hP, q⟩ := h
    obtain ⟨seed, cnt, ns, h1, h2⟩ := hP.ex
    have hne := hP.ne
    refine ⟨_, (pss_cons (ps_set (i := 2) sc_law_draw.nd rfl (.inl rfl) (pe_ix (r := rIxL K) ix_list (pv 0) pe_int (fun _ _ => rfl)))
(pss_cons (ps_if (pt_cmpR (op_neD hr.units) (pv 2) (pe_lst pa_nil) (nomark _))
(pss_cons (ps_set (i := 3) sc_law_draw.nd rfl (.inl rfl) (pe_op op_mod (pe_callTy call_int1 (by rfl) T.z_int (by decide +kernel) (pa_cons (pe_ix (r := rIxL K) ix_list (pv 2) pe_int (fun _ _ => rfl)) pa_nil)) (pv 1)))
(pss_cons (ps_asg (pe_op op_fdiv (pe_ix (r := rIxL K) ix_list (pv 2) pe_int (fun _ _ => rfl)) (pv 1)) (pg_sub (pv 2) pe_int set_list))
(pss_cons (ps_if (pt_cmpR op_eq (pe_ix (r := rIxL K) ix_list (pv 2) pe_int (fun _ _ => rfl)) pe_int (nomark _))
(pss_one (ps_expr (pe_bm PySem.F.plainAttrs_list PySem.F.slot_list_pop PySem.F.type_list_pop mt_popAt (pv 2) (pa_cons pe_int pa_nil))))
pss_nil)
(pss_one (ps_ret (pv 3))))))
pss_nil)
(pss_cons (ps_asg (pe_op op_add (pe_ix (r := rIxL K) ix_list (pv 0) pe_int (fun _ _ => rfl)) pe_int) (pg_sub (pv 0) pe_int set_list))
(pss_cons (ps_set (i := 4) sc_law_draw.nd rfl (.inl rfl) (pe_op op_mod (pe_callTy call_int1 (by rfl) T.z_int (by decide +kernel) (pa_cons (pe_op op_add (pe_ix (r := rIxL K) ix_list (pv 0) pe_int (fun _ _ => rfl)) (pe_op op_mul (pe_ix (r := rIxL K) ix_list (pv 0) pe_int (fun _ _ => rfl)) pe_int)) pa_nil)) pe_int))
(pss_cons (ps_set (i := 4) sc_law_draw.nd rfl (.inl rfl) (pe_op op_mod (pe_callTy call_int1 (by rfl) T.z_int (by decide +kernel) (pa_cons (pe_op op_mul (pv 4) pe_int) pa_nil)) pe_int))
(pss_one (ps_ret (pe_op op_mod (pe_op op_mod (pe_callTy call_int1 (by rfl) T.z_int (by decide +kernel) (pa_cons (pe_op op_add (pe_op op_fdiv (pv 4) pe_int) (pe_op op_mul (pe_op op_mod (pe_callTy call_int1 (by rfl) T.z_int (by decide +kernel) (pa_cons (pv 4) pa_nil)) pe_int) (pe_ix (r := rIxL K) ix_list (pv 0) pe_int (fun _ _ => rfl)))) pa_nil)) pe_int) (pv 1))))))))), ?_⟩
    -- rows = pool[0]
    refine ⟨.ref p, rfl, p, _, 0, .ref r, rfl, rfl, SqL.of h1, rfl, ?_⟩
    -- rows != []
    refine ⟨.ref r, rfl, Nat.zero_le _, fun z nz => ?_⟩
    have zp : p ≠ z := ne_of_none h1 nz
    have zr : r ≠ z := ne_of_none h2 nz
    have g1 : upd H z (.lst []) p = some (.lst [.ref r, .int seed, .int cnt]) := by rw [upd_ne zp]; exact h1
    have g2 : upd H z (.lst []) r = some (.lst (ns.map V.int)) := by rw [upd_ne zr]; exact h2
    refine ⟨.list (ns.map PyData.int), .list [], .lst (SqL.of g2) (dpInts ns), .lst (SqL.of upd_same) .nil, shapedInts ns, shapedInts [], _, rfl, ?_⟩
    have hF : Frm (PR p r) H (upd H z (.lst [])) := Frm.new nz
    cases ns with
    | nil =>
      -- no rows: the mixed number
      refine iteF ?_
      refine ⟨.ref p, rfl, p, _, 2, .int cnt, rfl, rfl, SqL.of g1, rfl, cnt, 1, rfl, rfl, ?_⟩
      refine ⟨.ref p, rfl, p, _, 2, 2, rfl, rfl, g1, rfl, ?_⟩
      have g3 : upd (upd H z (.lst [])) p (.lst [.ref r, .int seed, .int (cnt + 1)]) p = some (.lst [.ref r, .int seed, .int (cnt + 1)]) := upd_same
      have g4 : upd (upd H z (.lst [])) p (.lst [.ref r, .int seed, .int (cnt + 1)]) r = some (.lst []) := by rw [upd_ne hne]; exact g2
      refine ⟨.ref p, rfl, p, _, 1, .int seed, rfl, rfl, SqL.of g3, rfl, ?_⟩
      refine ⟨.ref p, rfl, p, _, 2, .int (cnt + 1), rfl, rfl, SqL.of g3, rfl, _, _, rfl, rfl, .inr (by decide), ?_⟩
      refine ⟨_, _, rfl, rfl, .inl ⟨_, rfl, ?_⟩⟩
      refine ⟨_, _, rfl, rfl, (by show (0 : Int) < _; decide), ?_⟩
      refine ⟨_, rfl, _, _, rfl, rfl, .inr (by decide), .inl ⟨_, rfl, _, _, rfl, rfl, (by show (0 : Int) < _; decide), ?_⟩⟩
      refine ⟨_, rfl, _, _, rfl, rfl, ⟨by decide, by decide⟩, _, rfl, .inl ⟨_, rfl, _, _, rfl, rfl, (by show (0 : Int) < _; decide), ?_⟩⟩
      refine ⟨.ref p, rfl, p, _, 2, .int (cnt + 1), rfl, rfl, SqL.of g3, rfl, _, _, rfl, rfl, .inl ?_, _, _, rfl, rfl, .inl ⟨_, rfl, _, _, rfl, rfl, (by show (0 : Int) < _; decide), ?_⟩⟩
      · have l1 := Int.emod_nonneg (((seed + (cnt + 1) * 69621) % 2147483647 * 48271) % 2147483647) (show (10007 : Int) ≠ 0 by decide)
        have l2 := Int.emod_lt_of_pos (((seed + (cnt + 1) * 69621) % 2147483647 * 48271) % 2147483647) (show (0 : Int) < 10007 by decide)
        constructor <;> omega
      · refine ⟨.int m, rfl, _, m, rfl, rfl, m0, ?_⟩
        refine q _ _ (Int.emod_nonneg _ (by omega)) (Int.emod_lt_of_pos _ m0) ⟨hF.trans (Frm.at (.inl rfl)), ⟨_, _, [], g3, g4⟩⟩
    | cons n ns =>
      refine iteT ?_
      -- pick
      refine ⟨.ref r, rfl, r, _, 0, .int n, rfl, rfl, SqL.of g2, atI_nat (j := 0) rfl, .inl ⟨n, rfl, .int m, rfl, n, m, rfl, rfl, m0, ?_⟩⟩
      -- rows[0] = rows[0] // many
      refine ⟨.ref r, rfl, r, _, 0, .int n, rfl, rfl, SqL.of g2, atI_nat (j := 0) rfl, .int m, rfl, n, m, rfl, rfl, ⟨m0, m1⟩, ?_⟩
      refine ⟨.ref r, rfl, r, _, 0, 0, rfl, rfl, g2, ixN_of (j := 0) (by simp), ?_⟩
      have g5 : upd (upd H z (.lst [])) r (.lst (.int (n / m) :: ns.map V.int)) r = some (.lst (.int (n / m) :: ns.map V.int)) := upd_same
      have g6 : upd (upd H z (.lst [])) r (.lst (.int (n / m) :: ns.map V.int)) p = some (.lst [.ref r, .int seed, .int cnt]) := by rw [upd_ne hne.symm]; exact g1
      have hF2 : Frm (PR p r) H (upd (upd H z (.lst [])) r (.lst (.int (n / m) :: ns.map V.int))) := hF.trans (Frm.at (.inr rfl))
      have pk : 0 ≤ n % m ∧ n % m < m := ⟨Int.emod_nonneg _ (by omega), Int.emod_lt_of_pos _ m0⟩
      refine ⟨.ref r, rfl, r, _, 0, .int (n / m), rfl, rfl, SqL.of g5, atI_nat (j := 0) rfl, rfl, _, rfl, ite2 (fun e => ?_) (fun e => ?_)⟩
      · -- pop(0)
        refine ⟨.ref r, rfl, .inl ⟨rfl, _, SqL.of g5⟩, r, _, 0, 0, .int (n / m), rfl, rfl, g5, by decide, by decide, seqIx_of (j := 0) (by simp), rfl, ?_⟩
        refine ⟨_, rfl, q _ _ pk.1 pk.2 ⟨hF2.trans (Frm.at (.inr rfl)), ⟨seed, cnt, ns, ?_, upd_same⟩⟩⟩
        rw [upd_ne hne.symm]
        exact g6
      · refine ⟨_, rfl, q _ _ pk.1 pk.2 ⟨hF2, ⟨seed, cnt, n / m :: ns, g6, g5⟩⟩⟩
/-- the pool is made -/
def sp_pool (K : PySem.W.Frag) : Sp := fun vs H Q _ => ∃ (a : Addr) (ns : List Int), vs = [.ref a] ∧ SqL K H a (ns.map V.int) ∧ ns.length ≤ 63 ∧
  ∀ H' p r, Same H H' → H p = none → H r = none → PoolAt H' p r → Q (.ref p) H'
theorem cut_ints (ns : List Int) (lo hi : Option Int) : ∃ ms : List Int, cutV (ns.map V.int) lo hi = ms.map V.int ∧ ms.length ≤ ns.length := by
  unfold cutV
  refine ⟨(ns.drop (HT.sIx (ns.map V.int).length 0 lo)).take (HT.sIx (ns.map V.int).length (ns.map V.int).length hi - HT.sIx (ns.map V.int).length 0 lo), ?_, ?_⟩
  · rw [List.map_take, List.map_drop]
  · rw [List.length_take, List.length_drop]
    omega
theorem ok_pool (T : Tx K mg) : FnR P w K mg base CX0 1 (He.ga K "_law_pool_of") (sp_pool K) := by
  refine fnR0 T.d_law_pool_of sc_law_pool_of (fun _ _ _ _ _ _ us hl => match us, hl with | [_], _ => rfl) (fun vs H Q E h => ?_) (fun cdv A outer s H vs Q E hr h => ?_)
  · obtain ⟨a, ns, rfl, _⟩ := h
    rfl
  · obtain ⟨a, ns, rfl, hS, hl, q⟩ := h
    refine ⟨_, (pss_cons (ps_set (i := 1) sc_law_pool_of.nd rfl (.inl rfl) pe_int)
(pss_cons (ps_set (i := 2) sc_law_pool_of.nd rfl (.inl rfl) (pe_lst pa_nil))
(pss_cons (ps_for PassesOwn.never rfl (pi_list (pe_slice sl_list (pv 0) po_none (po_some pe_int))) (pg_name (i := 3) sc_law_pool_of.nd rfl (.inl rfl))
(pss_one (ps_if (pt_cmpR op_ge (pe_callB call_abs (by rfl) T.z_abs (by decide +kernel) (pa_cons (pv 3) pa_nil)) (pe_op op_pow pe_int pe_int) (nomark _))
(pss_one (ps_expr (pe_bm PySem.F.plainAttrs_list PySem.F.slot_list_append PySem.F.type_list_append mt_append (pv 2) (pa_cons (pe_callB call_abs (by rfl) T.z_abs (by decide +kernel) (pa_cons (pv 3) pa_nil)) pa_nil))))
(pss_one (ps_set (i := 1) sc_law_pool_of.nd rfl (.inl rfl) (pe_op op_mod (pe_callTy call_int1 (by rfl) T.z_int (by decide +kernel) (pa_cons (pe_op op_add (pe_op op_mul (pv 1) pe_int) (pv 3)) pa_nil)) pe_int))))))
(pss_one (ps_ret (pe_lst (pa_cons (pv 2) (pa_cons (pv 1) (pa_cons pe_int pa_nil))))))))), ?_⟩
    refine ⟨Nat.zero_le _, fun r nr => ?_⟩
    have s1 : Same H (upd H r (.lst [])) := Same.new nr
    refine ⟨.ref a, rfl, 63, rfl, a, _, rfl, s1.seq hS, fun c nc => ?_⟩
    obtain ⟨ms, em, lm⟩ := cut_ints ns none (some 63)
    rw [em]
    have s2 := s1.trans (Same.new (o := .lst (ms.map V.int)) nc)
    have ncr : r ≠ c := ne_of_none upd_same nc
    refine ⟨c, rfl, ⟨_, SqL.of upd_same⟩, for_list (xs := ms.map V.int) (fun i σ H3 => ∃ (seed : Int) (y3 : Option V) (ks : List Int), σ = [some (.ref a), some (.int seed), some (.ref r), y3] ∧ Same H H3 ∧ H3 r = some (.lst (ks.map V.int)) ∧ H3 c = some (.lst (ms.map V.int)) ∧ ks.length ≤ i) ?_ ?_ ?_ ?_⟩
    · exact ⟨26, none, [], rfl, s2, by rw [upd_ne ncr, upd_same]; rfl, upd_same, Nat.le_refl _⟩
    · rintro i σ H3 _ ⟨seed, y3, ks, _, _, _, e, _⟩
      exact SqL.of e
    · rintro i x σ H3 hx ⟨seed, y3, ks, rfl, s3, er, ec, hk⟩
      obtain ⟨n, en⟩ : ∃ n, x = .int n := by
        rw [List.getElem?_map] at hx
        cases e : ms[i]? with
        | none => rw [e] at hx; cases hx
        | some n => rw [e] at hx; exact ⟨n, (Option.some.inj hx).symm⟩
      subst en
      have hi : i < ms.length := by
        have := (List.getElem?_eq_some_iff.mp hx).1
        rw [List.length_map] at this
        exact this
      refine ⟨.int n, rfl, n, rfl, 10, 18, rfl, rfl, ⟨by decide, by decide, by decide⟩, _, _, rfl, rfl, _, rfl, ite2 (fun e => ?_) (fun e => ?_)⟩
      · refine ⟨.ref r, rfl, .inl ⟨rfl, _, SqL.of er⟩, .int n, rfl, n, rfl, r, _, _, rfl, rfl, er, ?_, ?_⟩
        · rw [List.length_map]
          exact small1000 (by omega)
        · refine ⟨seed, some (.int n), ks ++ [if n < 0 then -n else n], rfl, fun b o e => ?_, ?_, ?_, ?_⟩
          · rw [upd_ne (ne_of_none e nr)]
            exact s3 _ _ e
          · rw [upd_same, List.map_append]
            rfl
          · rw [upd_ne ncr.symm]
            exact ec
          · rw [List.length_append]
            exact Nat.succ_le_succ hk
      · refine ⟨.int seed, rfl, _, _, rfl, rfl, .inr (by decide), .int n, rfl, _, _, rfl, rfl, .inl ⟨_, rfl, _, _, rfl, rfl, (by show (0 : Int) < _; decide), ?_⟩⟩
        exact ⟨_, some (.int n), ks, rfl, s3, er, ec, by omega⟩
    · rintro σ H3 ⟨seed, y3, ks, rfl, s3, er, ec, hk⟩
      refine ⟨.ref r, rfl, .int seed, rfl, szle, fun p np => ?_⟩
      have np1 : H p = none := s3.free np
      have npr : r ≠ p := ne_of_none er np
      exact q _ p r (s3.trans (Same.new np)) np1 nr ⟨seed, 0, ks, upd_same, by rw [upd_ne npr]; exact er⟩
end
end TW

namespace TW
open PySem PySem.Spec PyProof.Rows L2
/-! ### texts as lists of codes -/
def mk (l : List Nat) : Str := ⟨l.toArray⟩
theorem mk_tl (l : List Nat) : (mk l).cps.toList = l := rfl
theorem mk_of (z : Str) : mk z.cps.toList = z := by
  obtain ⟨a⟩ := z
  rfl
theorem mk_inj {l m : List Nat} (h : mk l = mk m) : l = m := by
  have e := congrArg (fun z : Str => z.cps.toList) h
  exact e
theorem mk_len (l : List Nat) : (mk l).length = l.length := by
  show l.toArray.size = l.length
  rw [List.size_toArray]
theorem mk_app (l m : List Nat) : mk l ++ mk m = mk (l ++ m) := by
  apply PyProof.Rows.ext_toList
  show ((mk l).cps ++ (mk m).cps).toList = l ++ m
  rw [Array.toList_append]
  rfl
/-! ### trees -/
inductive Tr where
  | nd (n : List Nat) (ks : List Tr)
mutual
def sz : Tr → Nat
  | .nd _ ks => 1 + szs ks
def szs : List Tr → Nat
  | [] => 0
  | t :: r => sz t + szs r
end
mutual
def lv : Tr → Nat
  | .nd _ ks => 1 + lvs ks
def lvs : List Tr → Nat
  | [] => 0
  | t :: r => max (lv t) (lvs r)
end
/-- texts with ", " between them -/
def jn : List (List Nat) → List Nat
  | [] => []
  | [p] => p
  | p :: q :: r => p ++ (44 :: 32 :: jn (q :: r))
mutual
def tm : Tr → List Nat
  | .nd n ks => match ks with
    | [] => n
    | k :: r => n ++ (40 :: (jn (tm k :: tms r) ++ [41]))
def tms : List Tr → List (List Nat)
  | [] => []
  | t :: r => tm t :: tms r
end
theorem tm_leaf (n : List Nat) : tm (.nd n []) = n := by rw [tm]
theorem tm_node (n : List Nat) (k : Tr) (r : List Tr) : tm (.nd n (k :: r)) = n ++ (40 :: (jn (tms (k :: r)) ++ [41])) := by rw [tm, tms]
theorem tms_map : ∀ ks : List Tr, tms ks = ks.map tm
  | [] => rfl
  | k :: r => by rw [tms, tms_map r]; rfl
/-! ### names -/
def capC (c : Nat) : Bool := Nat.ble 65 c && Nat.ble c 90
def alnC (c : Nat) : Bool := capC c || (Nat.ble 97 c && Nat.ble c 122) || (Nat.ble 48 c && Nat.ble c 57)
def digC (c : Nat) : Bool := Nat.ble 48 c && Nat.ble c 57
/-- a name that begins with a capital -/
def bigN : List Nat → Bool
  | [] => false
  | c :: r => capC c && r.all alnC && Nat.ble (r.length + 1) 8
/-- a hole or a digit -/
def leafN : List Nat → Bool
  | [c] => c == 95 || digC c
  | _ => false
mutual
def wf : Tr → Bool
  | .nd n ks => (bigN n || (leafN n && ks.isEmpty)) && (Nat.ble ks.length 3 && wfs ks)
def wfs : List Tr → Bool
  | [] => true
  | t :: r => wf t && wfs r
end
/-! ### how long a term is -/
theorem bigN_len {n : List Nat} (h : bigN n = true) : n.length ≤ 8 := by
  cases n with
  | nil => cases h
  | cons c r =>
    have := (Bool.and_eq_true_iff.mp h).2
    exact Nat.le_of_ble_eq_true this
theorem leafN_len {n : List Nat} (h : leafN n = true) : n.length = 1 := by
  match n, h with
  | [c], _ => rfl
mutual
theorem tm_len : ∀ t : Tr, wf t = true → (tm t).length + 2 ≤ 12 * sz t
  | .nd n ks, h => by
    rw [wf] at h
    obtain ⟨h1, h2⟩ := Bool.and_eq_true_iff.mp h
    obtain ⟨h3, h4⟩ := Bool.and_eq_true_iff.mp h2
    have hn : n.length ≤ 8 := by
      rcases Bool.or_eq_true_iff.mp h1 with z | z
      · exact bigN_len z
      · rw [leafN_len (Bool.and_eq_true_iff.mp z).1]
        decide
    have ih := tms_len ks h4
    cases ks with
    | nil =>
      rw [tm_leaf, sz, szs]
      omega
    | cons k r =>
      rw [tm_node, sz, List.length_append, List.length_cons, List.length_append]
      show n.length + ((jn (tms (k :: r))).length + 1 + 1) + 2 ≤ _
      omega
theorem tms_len : ∀ ks : List Tr, wfs ks = true → (jn (tms ks)).length ≤ 12 * szs ks
  | [], _ => by
    rw [tms, jn]
    exact Nat.zero_le _
  | k :: r, h => by
    rw [wfs] at h
    obtain ⟨h1, h2⟩ := Bool.and_eq_true_iff.mp h
    have a := tm_len k h1
    have b := tms_len r h2
    rw [tms, szs]
    cases r with
    | nil =>
      rw [tms, jn]
      omega
    | cons k2 r2 =>
      rw [tms] at b ⊢
      rw [jn, List.length_append, List.length_cons, List.length_cons]
      omega
end
end TW

namespace TW
open PySem PySem.Spec PyProof.Rows L2
/-! ### drawn names -/
theorem Drew.trans {p r : Addr} {H H1 H2 : Hp} (a : Drew p r H H1) (b : Drew p r H1 H2) : Drew p r H H2 := ⟨a.frm.trans b.frm, b.pool⟩
theorem Drew.refl {p r : Addr} {H : Hp} (h : PoolAt H p r) : Drew p r H H := ⟨Frm.refl, h⟩
theorem Drew.kp {p r : Addr} {H H' : Hp} (a : Drew p r H H') (h : PoolAt H p r) : Kp H H' := a.frm.kp h.lst
/-- a new object behind it -/
theorem Drew.new {p r q : Addr} {H H' : Hp} {o : HO} (a : Drew p r H H') (n : H' q = none) : Drew p r H (upd H' q o) := ⟨a.frm.trans (Frm.new n), a.pool.keep (Same.new n)⟩
theorem Drew.free {p r q : Addr} {H H' : Hp} (a : Drew p r H H') (n : H' q = none) : H q = none := by
  cases e : H q with
  | none => rfl
  | some o =>
    by_cases hq : PR p r q
    · exact absurd n (a.pool.some q hq)
    · rw [a.frm q o hq e] at n
      cases n
abbrev sgnS : Str := "ABCDEFGHIJKLMNOPQRSTUVWXYZabcdefghijklmnopqrstuvwxyz0123456789"
theorem sgn_at : ∀ j : Nat, j < 62 → ∃ c, sgnS.cps.toList[j]? = some c ∧ alnC c = true ∧ (j < 26 → capC c = true) := by decide +kernel
theorem sgn_len : sgnS.length = 62 := by decide +kernel
theorem sgn_get {v : Int} (h0 : 0 ≤ v) (h1 : v < 62) : ∃ c, atI sgnS.cps.toList v = some c ∧ alnC c = true ∧ (v < 26 → capC c = true) := by
  obtain ⟨c, e, a, b⟩ := sgn_at v.toNat (by omega)
  refine ⟨c, ?_, a, fun z => b (by omega)⟩
  have := atI_nat e
  rw [Int.toNat_of_nonneg h0] at this
  exact this
def sp_name : Sp := fun vs H Q _ => ∃ (p r : Addr), vs = [.ref p] ∧ PoolAt H p r ∧ ∀ H' n, bigN n = true → Drew p r H H' → Q (.str (mk n)) H'
/-! ### trees as tuples: (name, (part, ..)) -/
mutual
def LT (H : Hp) : V → Tr → Prop
  | v, .nd n ks => ∃ a b vs, v = .ref a ∧ H a = some (.tup [.str (mk n), .ref b]) ∧ H b = some (.tup vs) ∧ LTs H vs ks
def LTs (H : Hp) : List V → List Tr → Prop
  | [], [] => True
  | v :: vs, t :: ts => LT H v t ∧ LTs H vs ts
  | _, _ => False
end
mutual
theorem LT.kp {H H' : Hp} (k : Kp H H') : ∀ (v : V) (t : Tr), LT H v t → LT H' v t
  | v, .nd n ks, h => by
    rw [LT] at h ⊢
    obtain ⟨a, b, vs, e, h1, h2, h3⟩ := h
    exact ⟨a, b, vs, e, k _ _ h1 (fun _ z => nomatch z), k _ _ h2 (fun _ z => nomatch z), LTs.kp k vs ks h3⟩
theorem LTs.kp {H H' : Hp} (k : Kp H H') : ∀ (vs : List V) (ts : List Tr), LTs H vs ts → LTs H' vs ts
  | [], [], h => by rw [LTs]; trivial
  | v :: vs, t :: ts, h => by
    rw [LTs] at h ⊢
    exact ⟨LT.kp k v t h.1, LTs.kp k vs ts h.2⟩
  | [], _ :: _, h => by simp [LTs] at h
  | _ :: _, [], h => by simp [LTs] at h
end
theorem LTs.snoc {H : Hp} {v : V} {t : Tr} (h : LT H v t) : ∀ {vs : List V} {ts : List Tr}, LTs H vs ts → LTs H (vs ++ [v]) (ts ++ [t])
  | [], [], _ => by
    show LTs H [v] [t]
    rw [LTs, LTs]
    exact ⟨h, trivial⟩
  | x :: vs, y :: ts, g => by
    rw [LTs] at g
    show LTs H (x :: (vs ++ [v])) (y :: (ts ++ [t]))
    rw [LTs]
    exact ⟨g.1, LTs.snoc h g.2⟩
  | [], _ :: _, g => by simp [LTs] at g
  | _ :: _, [], g => by simp [LTs] at g
theorem LTs.length {H : Hp} : ∀ {vs : List V} {ts : List Tr}, LTs H vs ts → vs.length = ts.length
  | [], [], _ => rfl
  | x :: vs, y :: ts, g => by
    rw [LTs] at g
    exact congrArg Nat.succ (LTs.length g.2)
  | [], _ :: _, g => by simp [LTs] at g
  | _ :: _, [], g => by simp [LTs] at g
theorem szs_snoc (t : Tr) : ∀ ts : List Tr, szs (ts ++ [t]) = szs ts + sz t
  | [] => by
    show szs [t] = szs [] + sz t
    simp only [szs]
    omega
  | x :: ts => by
    show szs (x :: (ts ++ [t])) = szs (x :: ts) + sz t
    rw [szs, szs, szs_snoc t ts]
    omega
theorem wfs_snoc {t : Tr} (h : wf t = true) : ∀ {ts : List Tr}, wfs ts = true → wfs (ts ++ [t]) = true
  | [], _ => by
    show wfs [t] = true
    rw [wfs, wfs, h]
    rfl
  | x :: ts, g => by
    rw [wfs] at g
    obtain ⟨g1, g2⟩ := Bool.and_eq_true_iff.mp g
    show wfs (x :: (ts ++ [t])) = true
    rw [wfs, g1, wfs_snoc h g2]
    rfl
theorem LT.leaf {H : Hp} {n : List Nat} {a b : Addr} (na : upd H b (.tup []) a = none) : LT (upd (upd H b (.tup [])) a (.tup [.str (mk n), .ref b])) (.ref a) (.nd n []) := by
  rw [LT]
  refine ⟨a, b, [], rfl, upd_same, ?_, by rw [LTs]; trivial⟩
  rw [upd_ne (ne_of_none upd_same na), upd_same]
theorem LT.node {H : Hp} {n : List Nat} {a b : Addr} {vs : List V} {ts : List Tr} (h : LTs H vs ts) (nb : H b = none) (na : upd H b (.tup vs) a = none) : LT (upd (upd H b (.tup vs)) a (.tup [.str (mk n), .ref b])) (.ref a) (.nd n ts) := by
  rw [LT]
  refine ⟨a, b, vs, rfl, upd_same, ?_, LTs.kp (Same.kp ((Same.new nb).trans (Same.new na))) vs ts h⟩
  rw [upd_ne (ne_of_none upd_same na), upd_same]
theorem Grew.leaf_ {n : List Nat} (h : leafN n = true) : wf (.nd n []) = true := by
  rw [wf, h]
  cases bigN n <;> rfl
abbrev digS : Str := "0123456789"
theorem dig_at : ∀ j : Nat, j < 10 → ∃ c, digS.cps.toList[j]? = some c ∧ leafN [c] = true := by decide +kernel
theorem dig_len : digS.length = 10 := by decide +kernel
theorem dig_get {v : Int} (h0 : 0 ≤ v) (h1 : v < 10) : ∃ c, atI digS.cps.toList v = some c ∧ leafN [c] = true := by
  obtain ⟨c, e, a⟩ := dig_at v.toNat (by omega)
  refine ⟨c, ?_, a⟩
  have := atI_nat e
  rw [Int.toNat_of_nonneg h0] at this
  exact this
theorem atI_get {α : Type} {xs : List α} {v : Int} (h0 : 0 ≤ v) (h1 : v < xs.length) : ∃ x, atI xs v = some x ∧ x ∈ xs := by
  have h : v.toNat < xs.length := by omega
  refine ⟨xs[v.toNat], ?_, List.getElem_mem h⟩
  have := atI_nat (List.getElem?_eq_getElem h)
  rw [Int.toNat_of_nonneg h0] at this
  exact this
theorem bigN_wf {n : List Nat} {ts : List Tr} (h : bigN n = true) (hl : ts.length ≤ 3) (hw : wfs ts = true) : wf (.nd n ts) = true := by
  rw [wf, h, hw, show Nat.ble ts.length 3 = true from Nat.ble_eq_true_of_le hl]
  rfl
/-! ### a tree is grown -/
abbrev PRM (p r m : Addr) : Addr → Prop := fun b => b = p ∨ b = r ∨ b = m
abbrev strL (ws : List (List Nat)) : List V := ws.map fun n => V.str (mk n)
structure GrowIn (H : Hp) (p r nl rm : Addr) (ws : List (List Nat)) (k : Int) : Prop where
  pool : PoolAt H p r
  nms : H nl = some (.lst (strL ws))
  room : H rm = some (.lst [.int k])
  np : nl ≠ p
  nr : nl ≠ r
  mp : rm ≠ p
  mr : rm ≠ r
  mn : rm ≠ nl
theorem GrowIn.lst {H : Hp} {p r nl rm : Addr} {ws : List (List Nat)} {k : Int} (h : GrowIn H p r nl rm ws k) : ∀ b, PRM p r rm b → ∀ o, H b = some o → ∃ xs, o = .lst xs := fun b hb o e => by
  rcases hb with z | z | z
  · exact h.pool.lst b (.inl z) o e
  · exact h.pool.lst b (.inr z) o e
  · rw [z, h.room] at e
    cases e
    exact ⟨_, rfl⟩
theorem GrowIn.drew {H H' : Hp} {p r nl rm : Addr} {ws : List (List Nat)} {k : Int} (h : GrowIn H p r nl rm ws k) (d : Drew p r H H') : GrowIn H' p r nl rm ws k :=
  ⟨d.pool, d.frm _ _ (fun z => z.elim h.np h.nr) h.nms, d.frm _ _ (fun z => z.elim h.mp h.mr) h.room, h.np, h.nr, h.mp, h.mr, h.mn⟩
theorem GrowIn.new {H : Hp} {p r nl rm q : Addr} {o : HO} {ws : List (List Nat)} {k : Int} (h : GrowIn H p r nl rm ws k) (n : H q = none) : GrowIn (upd H q o) p r nl rm ws k :=
  ⟨h.pool.keep (Same.new n), Same.new n _ _ h.nms, Same.new n _ _ h.room, h.np, h.nr, h.mp, h.mr, h.mn⟩
theorem PRM.of {p r m : Addr} {H H' : Hp} (d : Drew p r H H') : Frm (PRM p r m) H H' := d.frm.mono fun b z => z.elim .inl fun y => .inr (.inl y)
/-- what it leaves: the tree t at v, room for k' more -/
structure Grew (H H' : Hp) (p r nl rm : Addr) (ws : List (List Nat)) (k d : Int) (v : V) (t : Tr) (k' : Int) : Prop where
  inn : GrowIn H' p r nl rm ws k'
  frm : Frm (PRM p r rm) H H'
  lt : LT H' v t
  wf : wf t = true
  sz : (sz t : Int) = k - k'
  lo : k - 1 ≤ k' ∨ -(3 * d) ≤ k'
  lev : (lv t : Int) ≤ d + 1
theorem lvs_snoc0 (t : Tr) (d : Int) (h : (lv t : Int) ≤ d) : ∀ ts : List Tr, (lvs ts : Int) ≤ d → (lvs (ts ++ [t]) : Int) ≤ d
  | [], _ => by
    show ((lvs [t] : Nat) : Int) ≤ d
    rw [lvs, lvs]
    omega
  | x :: r, h2 => by
    show ((lvs (x :: (r ++ [t])) : Nat) : Int) ≤ d
    rw [lvs] at h2 ⊢
    have := lvs_snoc0 t d h r (by omega)
    omega
def sp_grow (n : Nat) : Sp := fun vs H Q _ => ∃ (p r nl rm : Addr) (ws : List (List Nat)) (k d : Int), vs = [.ref p, .ref nl, .ref rm, .int d] ∧ GrowIn H p r nl rm ws k ∧ (∀ x ∈ ws, bigN x = true) ∧ 0 < ws.length ∧ ws.length ≤ 8 ∧ 0 ≤ d ∧ d < n ∧
  ∀ H' v t k', Grew H H' p r nl rm ws k d v t k' → Q v H'
section
variable {P : Program} {w : World} {K : PySem.W.Frag} {mg : Str → Option Value} {base : Heap}
theorem ok_name (T : Tx K mg) (G_law_draw : FnR P w K mg base CX0 1 (He.ga K "_law_draw") sp_draw) : FnR P w K mg base CX0 2 (He.ga K "_law_name_of") sp_name := by
  refine fnR0 T.d_law_name_of sc_law_name_of (fun _ _ _ _ _ _ us hl => match us, hl with | [_], _ => rfl) (fun vs H Q E h => ?_) (fun cdv A outer s H vs Q E hr h => ?_)
  · obtain ⟨p, r, rfl, _⟩ := h
    rfl
  · obtain ⟨p, r, rfl, hP, q⟩ := h
    refine ⟨_, (pss_cons (ps_set (i := 1) sc_law_name_of.nd rfl (.inl rfl) pe_str)
(pss_cons (ps_set (i := 2) sc_law_name_of.nd rfl (.inl rfl) (pe_ix ix_str (pv 1) (pe_cr G_law_draw (hr.mono (by omega)) (by rfl) T.v_law_draw T.k_law_draw pass0 (pa_cons (pv 0) (pa_cons pe_int pa_nil))) (fun _ _ => rfl)))
(pss_cons (ps_for PassesOwn.never rfl (pi_range1 (by rfl) T.z_range (pa_cons (pe_cr G_law_draw (hr.mono (by omega)) (by rfl) T.v_law_draw T.k_law_draw pass0 (pa_cons (pv 0) (pa_cons pe_int pa_nil))) pa_nil)) (pg_name (i := 3) sc_law_name_of.nd rfl (.inl rfl))
(pss_one (ps_set (i := 2) sc_law_name_of.nd rfl (.inl rfl) (pe_op op_add_str (pv 2) (pe_ix ix_str (pv 1) (pe_cr G_law_draw (hr.mono (by omega)) (by rfl) T.v_law_draw T.k_law_draw pass0 (pa_cons (pv 0) (pa_cons pe_int pa_nil))) (fun _ _ => rfl))))))
(pss_one (ps_ret (pv 2)))))), ?_⟩
    refine ⟨_, rfl, .ref p, rfl, p, r, 26, rfl, by decide, by decide, hP, fun H1 v v0 v1 D1 => ?_⟩
    obtain ⟨c, ec, _, cc⟩ := sgn_get v0 (by omega)
    refine ⟨sgnS, v, c, rfl, rfl, by rw [sgn_len]; exact szle, ec, ?_⟩
    refine ⟨.ref p, rfl, p, r, 8, rfl, by decide, by decide, D1.pool, fun H2 u u0 u1 D2 => ?_⟩
    refine ⟨u, rfl, by omega, by omega, for_range (lo := 0) (n := u.toNat) (fun i σ H3 => ∃ y3 l, σ = [some (.ref p), some (.str sgnS), some (.str (mk (c :: l))), y3] ∧ Drew p r H H3 ∧ l.all alnC = true ∧ l.length = i) ?_ ?_ ?_⟩
    · exact ⟨none, [], rfl, D1.trans D2, rfl, rfl⟩
    · rintro i σ H3 hi ⟨y3, l, rfl, D3, al, el⟩
      refine ⟨_, rfl, _, rfl, .ref p, rfl, p, r, 62, rfl, by decide, by decide, D3.pool, fun H4 x x0 x1 D4 => ?_⟩
      obtain ⟨d, ed, da, _⟩ := sgn_get x0 x1
      refine ⟨sgnS, x, d, rfl, rfl, by rw [sgn_len]; exact szle, ed, mk (c :: l), mk [d], rfl, rfl, ?_, ?_⟩
      · rw [mk_len, mk_len, List.length_cons, el]
        exact Nat.le_trans (show i + 1 + 1 ≤ 1000 by omega) szle
      · rw [mk_app]
        refine ⟨some (.int (0 + i)), l ++ [d], rfl, D3.trans D4, ?_, ?_⟩
        · rw [List.all_append, al]
          show (true && (alnC d && true)) = true
          rw [da]
          rfl
        · rw [List.length_append, el]
          rfl
    · rintro σ H3 ⟨y3, l, rfl, D3, al, el⟩
      refine ⟨_, rfl, q H3 (c :: l) ?_ D3⟩
      show (capC c && l.all alnC && Nat.ble (l.length + 1) 8) = true
      rw [cc v1, al, show Nat.ble (l.length + 1) 8 = true from Nat.ble_eq_true_of_le (by omega)]
      rfl
end
end TW

namespace TW
open PySem PySem.Spec PyProof.Rows L2
/-! ### t[::-1] of a tuple -/
section
variable {prog : Program} {w : World} {A : Around} {E : Value → Shared → Prop} {s : Shared}
theorem back_pick (xs : Array Value) : ((List.range xs.size).filterMap fun (k : Nat) => xs[(((xs.size : Int) - 1) + (k : Int) * (-1)).toNat]?) = xs.toList.reverse := by
  have e : (List.range xs.size).filterMap (fun (k : Nat) => xs[(((xs.size : Int) - 1) + (k : Int) * (-1)).toNat]?) = (List.range xs.size).filterMap (fun k => xs[xs.size - 1 - k]?) := by
    have g : ∀ l : List Nat, (∀ k ∈ l, k < xs.size) → l.filterMap (fun (k : Nat) => xs[(((xs.size : Int) - 1) + (k : Int) * (-1)).toNat]?) = l.filterMap (fun k => xs[xs.size - 1 - k]?) := by
      intro l
      induction l with
      | nil => intro _; rfl
      | cons k r ih =>
        intro hl
        have hk := hl k List.mem_cons_self
        have e1 : (((xs.size : Int) - 1) + (k : Int) * (-1)).toNat = xs.size - 1 - k := by omega
        rw [List.filterMap_cons, List.filterMap_cons, e1, ih fun j hj => hl j (List.mem_cons_of_mem _ hj)]
    exact g _ fun k hk => List.mem_range.mp hk
  rw [e]
  have f : (fun k => xs[xs.size - 1 - k]?) = (fun j => xs[j]?) ∘ fun k => xs.size - 1 - k := rfl
  rw [f, ← List.filterMap_map, PySem.W.krv_range, List.filterMap_reverse, PySem.W.krv_all]
theorem back_applied {sl : Addr} {vl vu vs : Value} {n : Nat} {Q : Int × Int × Nat → Shared → Prop} (hs : s.heap.IsSliceOf sl vl vu vs) (pl : IsPart vl none) (pu : IsPart vu none) (ps : IsPart vs (some (-1)))
    (h : Q ((n : Int) - 1, -1, n) s) : wpAny (model prog w) A (Builtin.Slice.sliceApplied (.ref sl) (pure (n : Int))) Q E s := by
  obtain ⟨os, hos, hcs, hds⟩ := id hs
  unfold Builtin.Slice.sliceApplied Builtin.Slice.sliceFields
  refine wpAny_bind (wpAny_bind (wpAny_field hos hds (x := vl) rfl (wpAny_bind (wpAny_field hos hds (x := vu) rfl (wpAny_bind (wpAny_field hos hds (x := vs) rfl (wpAny_pure ?_)))))))
  refine wpAny_bind (HT.slicePart_ ps ?_)
  show wpAny _ _ (if ((-1 : Int) == 0) = true then _ else _) _ _ s
  rw [if_neg (by decide)]
  refine wpAny_bind (HT.slicePart_ pl (wpAny_bind (HT.slicePart_ pu (wpAny_bind (wpAny_pure ?_)))))
  have e : Builtin.Slice.slicePlaces ((n : Int) - 1) (-1) (-1) = n := by
    unfold Builtin.Slice.slicePlaces
    rw [if_neg (by decide)]
    by_cases hn : n = 0
    · subst hn
      rw [if_neg (by decide)]
      rfl
    · rw [if_pos (by omega), show (- -1 : Int) = 1 from rfl, Int.ediv_one]
      omega
  show wpAny _ _ (pure ((n : Int) - 1, (-1 : Int), Builtin.Slice.slicePlaces ((n : Int) - 1) (-1) (-1))) _ _ s
  rw [e]
  exact wpAny_pure h
theorem back_tuple {t sl : Addr} {items : Array Value} {vl vu vs : Value} {Q : Value → Shared → Prop} (ht : IsTup s.heap t items) (hs : s.heap.IsSliceOf sl vl vu vs) (pl : IsPart vl none) (pu : IsPart vu none) (ps : IsPart vs (some (-1)))
    (h : Q (.ref s.heap.objs.size) { s with heap := s.heap.push { cls := .type "tuple", data := .seq items.toList.reverse.toArray } }) (hsz : items.size ≤ sizeLine) : wpAny (model prog w) A (getItem (.ref t) (.ref sl)) Q E s := by
  have fits : sizeOk (.seq items.toList.reverse.toArray) := by
    show items.toList.reverse.toArray.size ≤ sizeLine
    rw [List.size_toArray, List.length_reverse, Array.length_toList]
    exact hsz
  obtain ⟨os, hos, hcs, hds⟩ := id hs
  have hT : s.TypeIs (.ref sl) "slice" := ⟨os, hos, hcs⟩
  unfold getItem
  try with_reducible refine wpAny_holding ?_
  first | refine wpAny_bind (wpAny_pure ?_) | skip
  refine wpAny_bind (wpAny_sequenceKey ht.typeIs (by decide) ?_)
  refine wpAny_bind (wpAny_callSpecial?_slot (name := Str.ofString "__getitem__") ht.typeIs PyProof.Rows.slot_tuple_getitem (wpAny_call_entry PyProof.Rows.slot_tuple_getitem ht.typeIs entry_tuple_getitem ?_ (args_tuple_getitem _ _)))
  show wpAny _ _ (Builtin.Tuple.tupleItemsOf (.ref t) >>= _) _ _ s
  refine wpAny_bind (tupleItemsOf_ ht (wpAny_bind (wpAny_typeOf hT ?_)))
  rw [if_pos (by decide)]
  refine wpAny_bind (back_applied hs pl pu ps ?_)
  have no : ¬ ((((items.size : Int) - 1) == 0 && (-1 : Int) == 1 && items.size == items.size) = true) := by
    rw [show ((-1 : Int) == 1) = false from rfl, Bool.and_false, Bool.false_and]
    exact Bool.false_ne_true
  show wpAny _ _ (if (((items.size : Int) - 1) == 0 && (-1 : Int) == 1 && items.size == items.size) = true then _ else _) _ _ s
  rw [if_neg no, back_pick]
  first
    | exact wpAny_bind (m := Builtin.Tuple.tupleExact _) (wpAny_newObj_type (wpAny_pure ⟨_, rfl, wpAny_pure h⟩) fits)
    | exact wpAny_bind (m := Builtin.Tuple.tupleExact _) (wpAny_newObj_type (wpAny_bind (wpAny_pure (wpAny_pure ⟨_, rfl, wpAny_pure h⟩))) fits)
    | exact wpAny_bind (wpAny_bind (m := Builtin.Tuple.tupleExact _) (wpAny_newObj_type (wpAny_pure (wpAny_pure ⟨_, rfl, wpAny_pure h⟩)) fits))
    | exact wpAny_bind (wpAny_bind (m := Builtin.Tuple.tupleExact _) (wpAny_newObj_type (wpAny_pure ⟨_, rfl, wpAny_pure h⟩) fits))
end
def tRevT (K : PySem.W.Frag) (te : TE) : TE := fun σ H Q => te σ H fun x H1 => ∃ a xs, x = .ref a ∧ SqT K H1 a xs ∧ ∀ p, H1 p = none → Q (.ref p) (upd H1 p (.tup xs.reverse))
theorem pe_revT {X : Cx} {e : Expr} {te : TE} {k : Nat} {p1 p2 p3 pos : Pos} (he : PE X e te) : PE X (.Subscript e (.Slice none none (some (.UnaryOp .USub (.Constant (.int 1) k p1) p2)) p3) pos) (tRevT X.K te) := by
  refine ⟨fun pins s σ H Q I h => ?_⟩
  refine Subscript_ (thn (he.run pins s σ H _ I h) fun v s1 z1 => ?_)
  obtain ⟨x, H1, I1, r1, a, xs, ex, hx, q⟩ := z1
  subst ex
  cases r1
  have st : PO X (some (.UnaryOp .USub (.Constant (.int 1) k p1) p2)) (tPart (tUn (rU fun i => .int (-i)) (tC (.int 1)))) := po_some (pe_un un_neg pe_int)
  refine wpAny_Slice (thn (po_none.run pins s1 σ H1 (fun o G => o = none ∧ G = H1) I1 ⟨rfl, rfl⟩) fun vl s2 z2 => ?_)
  obtain ⟨l, H2, I2, pl, el, e2⟩ := z2
  subst el e2
  refine thn (po_none.run pins s2 σ H2 (fun o G => o = none ∧ G = H2) I2 ⟨rfl, rfl⟩) fun vu s3 z3 => ?_
  obtain ⟨u, H3, I3, pu, eu, e3⟩ := z3
  subst eu e3
  refine thn (st.run pins s3 σ H3 (fun o G => o = some (-1) ∧ G = H3) I3 ⟨1, rfl, -1, rfl, rfl, rfl⟩) fun vs s4 z4 => ?_
  obtain ⟨o, H4, I4, ps, eo, e4⟩ := z4
  subst eo e4
  have I5 : Inv X pins σ H4 { s4 with heap := s4.heap.push { cls := .type "slice", data := .fields #[vl, vu, vs] } } := I4.kept (t' := s4.toks) fun b ob y => Heap.get?_push_of_some _ y
  obtain ⟨its, r, ht, hz⟩ := I5.tuple hx
  have hlen := r.length
  show wpAny (model X.prog X.w) X.A (subscriptTail e (.Slice none none (some (.UnaryOp .USub (.Constant (.int 1) k p1) p2)) p3) (.ref a) (.ref s4.heap.objs.size)) (EP X pins σ Q) X.xe _
  refine tail_any (ops := [.ref a, .ref s4.heap.objs.size]) ht.typeIs (PyProof.Rows.slot_tuple_getitem.lookup) ?_ (by with_unfolding_all rfl)
  refine back_tuple ht (Heap.IsSliceOf.new _ vl vu vs) pl pu ps ?_ (by rw [List.size_toArray]; omega)
  refine ⟨.ref _, _, I5.laid (t' := s4.toks) (o := .tup xs.reverse) (fun b ob y => Heap.get?_push_of_some _ y) (Nat.le_refl _) ?_, rfl, q _ (I5.hok.fresh (Nat.le_refl _))⟩
  exact ⟨by rw [List.length_reverse]; exact hz, _, r.reverse, ⟨_, Heap.get?_push_size _ rfl, rfl, _, rfl⟩⟩
end TW

namespace TW
open PySem PySem.Spec PyProof.Rows L2
/-! ### lists of trees -/
theorem LTs.get {H : Hp} : ∀ {vs : List V} {ts : List Tr} {i : Nat} {v : V}, LTs H vs ts → vs[i]? = some v → ∃ t, ts[i]? = some t ∧ LT H v t
  | [], [], i, v, _, e => by simp at e
  | x :: vs, y :: ts, 0, v, g, e => by
    rw [LTs] at g
    have : x = v := Option.some.inj e
    subst this
    exact ⟨y, rfl, g.1⟩
  | x :: vs, y :: ts, i + 1, v, g, e => by
    rw [LTs] at g
    exact LTs.get (i := i) g.2 e
  | [], _ :: _, _, _, g, _ => by simp [LTs] at g
  | _ :: _, [], _, _, g, _ => by simp [LTs] at g
theorem LTs.app {H : Hp} : ∀ {vs us : List V} {ts rs : List Tr}, LTs H vs ts → LTs H us rs → LTs H (vs ++ us) (ts ++ rs)
  | [], us, [], rs, _, h => h
  | x :: vs, us, y :: ts, rs, g, h => by
    rw [LTs] at g
    show LTs H (x :: (vs ++ us)) (y :: (ts ++ rs))
    rw [LTs]
    exact ⟨g.1, LTs.app g.2 h⟩
  | [], _, _ :: _, _, g, _ => by simp [LTs] at g
  | _ :: _, _, [], _, g, _ => by simp [LTs] at g
theorem LTs.rev {H : Hp} : ∀ {vs : List V} {ts : List Tr}, LTs H vs ts → LTs H vs.reverse ts.reverse
  | [], [], h => h
  | x :: vs, y :: ts, g => by
    rw [LTs] at g
    rw [List.reverse_cons, List.reverse_cons]
    exact LTs.snoc g.1 (LTs.rev g.2)
  | [], _ :: _, g => by simp [LTs] at g
  | _ :: _, [], g => by simp [LTs] at g
theorem sz_pos : ∀ t : Tr, 1 ≤ sz t
  | .nd n ks => by
    rw [sz]
    omega
theorem lvs_mem : ∀ {ts : List Tr} {t : Tr}, t ∈ ts → lv t ≤ lvs ts
  | [], t, h => by cases h
  | x :: ts, t, h => by
    rw [lvs]
    rcases List.mem_cons.mp h with rfl | h
    · omega
    · have := lvs_mem h
      omega
theorem szs_mem : ∀ {ts : List Tr} {t : Tr}, t ∈ ts → sz t ≤ szs ts
  | x :: ts, t, h => by
    rw [szs]
    rcases List.mem_cons.mp h with e | e
    · subst e
      omega
    · have := szs_mem e
      omega
theorem len_szs : ∀ ts : List Tr, ts.length ≤ szs ts
  | [] => Nat.zero_le _
  | x :: ts => by
    rw [szs, List.length_cons]
    have := len_szs ts
    have := sz_pos x
    omega
theorem wfs_mem : ∀ {ts : List Tr} {t : Tr}, wfs ts = true → t ∈ ts → wf t = true
  | x :: ts, t, g, h => by
    rw [wfs] at g
    obtain ⟨g1, g2⟩ := Bool.and_eq_true_iff.mp g
    rcases List.mem_cons.mp h with e | e
    · subst e
      exact g1
    · exact wfs_mem g2 e
theorem wf_kids {n : List Nat} {ks : List Tr} (h : wf (.nd n ks) = true) : wfs ks = true ∧ ks.length ≤ 3 ∧ (bigN n = true ∨ (leafN n = true ∧ ks = [])) := by
  rw [wf] at h
  obtain ⟨h1, h2⟩ := Bool.and_eq_true_iff.mp h
  obtain ⟨h3, h4⟩ := Bool.and_eq_true_iff.mp h2
  refine ⟨h4, Nat.le_of_ble_eq_true h3, ?_⟩
  rcases Bool.or_eq_true_iff.mp h1 with z | z
  · exact .inl z
  · obtain ⟨z1, z2⟩ := Bool.and_eq_true_iff.mp z
    exact .inr ⟨z1, List.isEmpty_iff.mp z2⟩
theorem take_get {α : Type} {l : List α} {i : Nat} {x : α} (h : l[i]? = some x) : l.take (i + 1) = l.take i ++ [x] := by
  rw [List.take_add_one, h]
  rfl
/-! ### the mirror -/
mutual
def mir : Tr → Tr
  | .nd n ks => .nd n (mirs ks).reverse
def mirs : List Tr → List Tr
  | [] => []
  | t :: r => mir t :: mirs r
end
theorem mirs_map : ∀ ts : List Tr, mirs ts = ts.map mir
  | [] => rfl
  | t :: r => by rw [mirs, mirs_map r]; rfl
theorem mir_node (n : List Nat) (ks : List Tr) : mir (.nd n ks) = .nd n (ks.reverse.map mir) := by rw [mir, mirs_map, List.map_reverse]
theorem szs_app : ∀ (xs ys : List Tr), szs (xs ++ ys) = szs xs + szs ys
  | [], ys => by
    show szs ys = szs [] + szs ys
    rw [szs]
    omega
  | x :: xs, ys => by
    show szs (x :: (xs ++ ys)) = szs (x :: xs) + szs ys
    rw [szs, szs, szs_app xs ys]
    omega
theorem szs_rev : ∀ xs : List Tr, szs xs.reverse = szs xs
  | [] => rfl
  | x :: xs => by
    rw [List.reverse_cons, szs_app, szs_rev xs, szs, szs, szs]
    omega
theorem wfs_app : ∀ (xs ys : List Tr), wfs (xs ++ ys) = (wfs xs && wfs ys)
  | [], ys => by
    show wfs ys = (wfs [] && wfs ys)
    rw [wfs]
    rfl
  | x :: xs, ys => by
    show wfs (x :: (xs ++ ys)) = (wfs (x :: xs) && wfs ys)
    rw [wfs, wfs, wfs_app xs ys, Bool.and_assoc]
theorem wfs_rev : ∀ xs : List Tr, wfs xs.reverse = wfs xs
  | [] => rfl
  | x :: xs => by
    rw [List.reverse_cons, wfs_app, wfs_rev xs, wfs, wfs, wfs, Bool.and_true, Bool.and_comm]
mutual
theorem mir_sz : ∀ t : Tr, sz (mir t) = sz t
  | .nd n ks => by rw [mir, sz, sz, szs_rev, mirs_sz ks]
theorem mirs_sz : ∀ ts : List Tr, szs (mirs ts) = szs ts
  | [] => rfl
  | t :: r => by rw [mirs, szs, szs, mir_sz t, mirs_sz r]
end
mutual
theorem mir_wf : ∀ t : Tr, wf (mir t) = wf t
  | .nd n ks => by
    have l : (mirs ks).reverse.length = ks.length := by rw [List.length_reverse, mirs_map, List.length_map]
    have e : (mirs ks).reverse.isEmpty = ks.isEmpty := by
      cases ks with
      | nil => rfl
      | cons a b =>
        rw [mirs]
        simp
    rw [mir, wf, wf, wfs_rev, mirs_wf ks, l, e]
theorem mirs_wf : ∀ ts : List Tr, wfs (mirs ts) = wfs ts
  | [] => rfl
  | t :: r => by rw [mirs, wfs, wfs, mir_wf t, mirs_wf r]
end
end TW

namespace TW
open PySem PySem.Spec PyProof.Rows L2
/-! ### slices of texts -/
theorem cut_nn (l : List Nat) (i j : Nat) : cutS (mk l) (some (i : Int)) (some (j : Int)) = mk ((l.drop i).take (j - i)) := by
  unfold cutS
  rw [HT.sIx_nat, HT.sIx_nat, mk_len]
  apply congrArg mk
  show (l.drop (min i l.length)).take (min j l.length - min i l.length) = (l.drop i).take (j - i)
  by_cases hi : i ≤ l.length
  · rw [Nat.min_eq_left hi]
    by_cases hj : j ≤ l.length
    · rw [Nat.min_eq_left hj]
    · rw [Nat.min_eq_right (by omega), List.take_of_length_le (by rw [List.length_drop]; omega), List.take_of_length_le (by rw [List.length_drop]; omega)]
  · rw [show min i l.length = l.length by omega, List.drop_length, List.take_nil, List.drop_of_length_le (by omega), List.take_nil]
theorem cut_to (l : List Nat) (j : Nat) : cutS (mk l) none (some (j : Int)) = mk (l.take j) := by
  unfold cutS
  rw [HT.sIx_nat, HT.sIx_none, mk_len]
  apply congrArg mk
  show (l.drop 0).take (min j l.length - 0) = l.take j
  rw [List.drop_zero, Nat.sub_zero]
  by_cases hj : j ≤ l.length
  · rw [Nat.min_eq_left hj]
  · rw [Nat.min_eq_right (by omega), List.take_length, List.take_of_length_le (by omega)]
theorem cut_from (l : List Nat) (i : Nat) : cutS (mk l) (some (i : Int)) none = mk (l.drop i) := by
  unfold cutS
  rw [HT.sIx_nat, HT.sIx_none, mk_len]
  apply congrArg mk
  show (l.drop (min i l.length)).take (l.length - min i l.length) = l.drop i
  by_cases hi : i ≤ l.length
  · rw [Nat.min_eq_left hi, List.take_of_length_le (by rw [List.length_drop]; omega)]
  · rw [Nat.min_eq_right (by omega), List.drop_length, List.take_nil, List.drop_of_length_le (by omega)]
theorem bigN_take {c : Nat} {l : List Nat} (hc : capC c = true) (hl : l.all alnC = true) (k : Nat) (hk : k ≤ 7) : bigN (c :: l.take k) = true := by
  have a : (l.take k).all alnC = true := List.all_eq_true.mpr fun x hx => List.all_eq_true.mp hl x (List.mem_of_mem_take hx)
  show (capC c && (l.take k).all alnC && Nat.ble ((l.take k).length + 1) 8) = true
  rw [hc, a, show Nat.ble ((l.take k).length + 1) 8 = true from Nat.ble_eq_true_of_le (by rw [List.length_take]; omega)]
  rfl
theorem bigN_cons {n : List Nat} (h : bigN n = true) : ∃ c l, n = c :: l ∧ capC c = true ∧ l.all alnC = true ∧ l.length ≤ 7 := by
  cases n with
  | nil => cases h
  | cons c l =>
    obtain ⟨h1, h2⟩ := Bool.and_eq_true_iff.mp h
    obtain ⟨h3, h4⟩ := Bool.and_eq_true_iff.mp h1
    exact ⟨c, l, rfl, h3, h4, by have := Nat.le_of_ble_eq_true h2; omega⟩
theorem bigN_second {n : List Nat} (h : bigN n = true) : bigN ((n ++ [48, 65]).take 8) = true := by
  obtain ⟨c, l, rfl, hc, hl, _⟩ := bigN_cons h
  show bigN (c :: (l ++ [48, 65]).take 7) = true
  refine bigN_take hc ?_ 7 (Nat.le_refl _)
  rw [List.all_append, hl]
  rfl
theorem bigN_third {n : List Nat} (h : bigN n = true) : bigN (n.take 1) = true := by
  obtain ⟨c, l, rfl, hc, hl, _⟩ := bigN_cons h
  exact bigN_take hc hl 0 (Nat.zero_le _)
/-! ### names[draw(pool, len(names))] -/
def tLen (K : PySem.W.Frag) (t : TE) : TE := tCB (fun xs H Q => ∃ x n, xs = [x] ∧ LenV K x H n ∧ Q (.int n) H) (tCons t tNil)
theorem rd_name {K : PySem.W.Frag} {σ : L2.St} {H : Hp} {Q : VK} {i j : Nat} {p r nl : Addr} {ws : List (List Nat)} (hi : σ[i]? = some (some (.ref nl))) (hj : σ[j]? = some (some (.ref p))) (hP : PoolAt H p r) (hN : H nl = some (.lst (strL ws)))
    (np : nl ≠ p) (nr : nl ≠ r) (w0 : 0 < ws.length) (w1 : ws.length ≤ 8) (q : ∀ H' x, x ∈ ws → Drew p r H H' → H' nl = some (.lst (strL ws)) → Q (.str (mk x)) H') :
    tOp (rIxL K) (tVar i) (tCr sp_draw E0 (tCons (tVar j) (tCons (tLen K (tVar i)) tNil))) σ H Q := by
  refine ⟨.ref nl, hi, .ref p, hj, .ref nl, hi, .ref nl, ws.length, rfl, .inl ⟨_, SqL.of hN, (List.length_map _).symm⟩, p, r, (ws.length : Int), rfl, by omega, by omega, hP, fun H4 x x0 x1 D4 => ?_⟩
  have h4 : H4 nl = some (.lst (strL ws)) := D4.frm _ _ (fun z => z.elim np nr) hN
  obtain ⟨nv, en, mn⟩ := atI_get (xs := strL ws) x0 (by rw [List.length_map]; exact x1)
  obtain ⟨nm, hm, rfl⟩ := List.mem_map.mp mn
  exact ⟨nl, _, x, _, rfl, rfl, SqL.of h4, en, q H4 nm hm D4 h4⟩
/-- a tuple (name, tuple of trees) -/
theorem LT.make {H : Hp} {n : List Nat} {a b : Addr} {vs : List V} {ts : List Tr} (ha : H a = some (.tup [.str (mk n), .ref b])) (hb : H b = some (.tup vs)) (h : LTs H vs ts) : LT H (.ref a) (.nd n ts) := by
  rw [LT]
  exact ⟨a, b, vs, rfl, ha, hb, h⟩
def sp_chain : Sp := fun vs H Q _ => ∃ (p r nl : Addr) (ws : List (List Nat)) (v : V) (t : Tr), vs = [.ref p, .ref nl, v] ∧ PoolAt H p r ∧ H nl = some (.lst (strL ws)) ∧ nl ≠ p ∧ nl ≠ r ∧ (∀ x ∈ ws, bigN x = true) ∧ 0 < ws.length ∧ ws.length ≤ 8 ∧ LT H v t ∧ wf t = true ∧
  ∀ H' v' t', Drew p r H H' → LT H' v' t' → wf t' = true → sz t' ≤ sz t + 100 → Q v' H'
section
variable {P : Program} {w : World} {K : PySem.W.Frag} {mg : Str → Option Value} {base : Heap}
theorem GrowIn.fresh {H : Hp} {p r nl rm : Addr} {ws : List (List Nat)} {k : Int} (hP : PoolAt H p r) (hN : H nl = some (.lst (strL ws))) (np : nl ≠ p) (nr : nl ≠ r) (n : H rm = none) : GrowIn (upd H rm (.lst [.int k])) p r nl rm ws k :=
  ⟨hP.keep (Same.new n), Same.new n _ _ hN, upd_same, np, nr, fun e => hP.some p (.inl rfl) (e ▸ n), fun e => hP.some r (.inr rfl) (e ▸ n), fun e => by rw [e, hN] at n; cases n⟩
theorem Grew.drew {H H' : Hp} {p r nl rm : Addr} {ws : List (List Nat)} {k d k' : Int} {v : V} {t : Tr} (g : Grew (upd H rm (.lst [.int k])) H' p r nl rm ws k d v t k') (n : H rm = none) : Drew p r H H' :=
  ⟨fun b o nb e => g.frm b o (fun z => z.elim (fun y => nb (.inl y)) fun z => z.elim (fun y => nb (.inr y)) fun y => by rw [y, n] at e; cases e) (Same.new n _ _ e), g.inn.pool⟩
theorem Grew.small {H H' : Hp} {p r nl rm : Addr} {ws : List (List Nat)} {k d k' : Int} {v : V} {t : Tr} (g : Grew H H' p r nl rm ws k d v t k') (h0 : 0 ≤ d) (h1 : d ≤ 7) (h2 : 1 ≤ k) (h3 : k ≤ 40) : TW.sz t ≤ 61 := by
  have := g.sz
  have := g.lo
  omega
end
end TW

namespace TW
open PySem PySem.Spec PyProof.Rows L2
/-! ### comprehensions whose element leaves the heap as it is -/
def LcGoal (J : It) (g : TG) (tt : TT) (te : TE) (vs : List Nat) (σ : L2.St) (H1 : Hp) (D : Addr) (Qd : Hp → Prop) : Prop := ∃ W : Nat → Nat → Hp → Prop, (∃ m, W 0 m (upd H1 D (.lst []))) ∧ ∀ i m H, W i m H →
  (J.stop i H ∧ Qd H) ∨ (J.go i H ∧ ∃ Nx : Hp → Prop, (∀ H', Nx H' → ∃ m', m' < m ∧ W (i + 1) m' H') ∧ ∀ x H', J.yld i H x H' → g x (wipe σ vs) H' fun σ2 H2 => wipe σ2 vs = wipe σ vs ∧ tt σ2 H2 fun b H3 =>
    if b = true then te σ2 H3 fun y H4 => ∃ acc, H4 D = some (.lst acc) ∧ acc.length < sizeLine ∧ Nx (upd H4 D (.lst (acc ++ [y]))) else Nx H3)
theorem fs_get {α : Type} {fs : List α} {n i : Nat} (h : fs.length = n) (hi : i < n) : ∃ y, fs[i]? = some y := ⟨fs[i], List.getElem?_eq_getElem (by omega)⟩
theorem lc_pureL {K : PySem.W.Frag} {a : Addr} {xs fs : List V} {te : TE} {s : Nat} {σ : L2.St} {H1 : Hp} {D : Addr} {Qd : Hp → Prop} (hl : SqL K H1 a xs) (nD : H1 D = none) (len : fs.length = xs.length) (small : xs.length ≤ 1000)
    (h2 : ∀ x : V, wipe ((wipe σ [s]).set s (some x)) [s] = wipe σ [s]) (ht : ∀ (i : Nat) (x y : V) (H' : Hp) (Q : VK), xs[i]? = some x → fs[i]? = some y → Same H1 H' → Q y H' → te ((wipe σ [s]).set s (some x)) H' Q) (q : Qd (upd H1 D (.lst fs))) :
    LcGoal (Itl K a) (gName s) tYes te [s] σ H1 D Qd := by
  have sm : ∀ l : List V, Same H1 (upd H1 D (.lst l)) := fun l => Same.new nD
  refine lc_list (xs := xs) (fun i H3 => i ≤ xs.length ∧ H3 = upd H1 D (.lst (fs.take i))) ⟨Nat.zero_le _, rfl⟩ (fun i H3 _ h => ?_) (fun i x H3 hx h => ?_) (fun H3 h => ?_)
  · rw [h.2]
    exact (sm _).seq hl
  · obtain ⟨hi, e⟩ := h
    subst e
    have hlt : i < xs.length := (List.getElem?_eq_some_iff.mp hx).1
    obtain ⟨y, hy⟩ := fs_get len hlt
    refine ⟨h2 x, ?_⟩
    unfold tYes
    dsimp only
    rw [if_pos rfl]
    refine ht i x y _ _ hx hy (sm _) ⟨fs.take i, upd_same, ?_, hlt, ?_⟩
    · rw [List.length_take]
      exact small1000 (by omega)
    · rw [upd_upd, take_get hy]
  · rw [h.2, ← len, List.take_length]
    exact q
theorem lc_pureT {K : PySem.W.Frag} {a : Addr} {xs fs : List V} {te : TE} {s : Nat} {σ : L2.St} {H1 : Hp} {D : Addr} {Qd : Hp → Prop} (hl : H1 a = some (.tup xs)) (nD : H1 D = none) (len : fs.length = xs.length) (small : xs.length ≤ 1000)
    (h2 : ∀ x : V, wipe ((wipe σ [s]).set s (some x)) [s] = wipe σ [s]) (ht : ∀ (i : Nat) (x y : V) (H' : Hp) (Q : VK), xs[i]? = some x → fs[i]? = some y → Same H1 H' → Q y H' → te ((wipe σ [s]).set s (some x)) H' Q) (q : Qd (upd H1 D (.lst fs))) :
    LcGoal (Itt K a) (gName s) tYes te [s] σ H1 D Qd := by
  have sm : ∀ l : List V, Same H1 (upd H1 D (.lst l)) := fun l => Same.new nD
  refine lc_tup (xs := xs) (fun i H3 => i ≤ xs.length ∧ H3 = upd H1 D (.lst (fs.take i))) ⟨Nat.zero_le _, rfl⟩ (fun i H3 _ h => ?_) (fun i x H3 hx h => ?_) (fun H3 h => ?_)
  · rw [h.2]
    exact SqT.of (sm _ _ _ hl)
  · obtain ⟨hi, e⟩ := h
    subst e
    have hlt : i < xs.length := (List.getElem?_eq_some_iff.mp hx).1
    obtain ⟨y, hy⟩ := fs_get len hlt
    refine ⟨h2 x, ?_⟩
    unfold tYes
    dsimp only
    rw [if_pos rfl]
    refine ht i x y _ _ hx hy (sm _) ⟨fs.take i, upd_same, ?_, hlt, ?_⟩
    · rw [List.length_take]
      exact small1000 (by omega)
    · rw [upd_upd, take_get hy]
  · rw [h.2, ← len, List.take_length]
    exact q
/-! ### join -/
theorem join_mk : ∀ ls : List (List Nat), Str.join (mk [44, 32]) (ls.map mk) = mk (jn ls)
  | [] => rfl
  | [p] => rfl
  | p :: q :: r => by
    show mk p ++ mk [44, 32] ++ Str.join (mk [44, 32]) ((q :: r).map mk) = mk (p ++ (44 :: 32 :: jn (q :: r)))
    rw [join_mk (q :: r), mk_app, mk_app, List.append_assoc]
    rfl
theorem jn_sum : ∀ ls : List (List Nat), ((ls.map mk).map (·.length)).sum + (ls.map mk).length * 2 ≤ (jn ls).length + 2
  | [] => by simp [jn]
  | [p] => by
    simp [jn, mk_len]
  | p :: q :: r => by
    have := jn_sum (q :: r)
    simp only [List.map_cons, List.sum_cons, List.length_cons, mk_len, jn, List.length_append] at this ⊢
    omega
end TW

namespace TW
open PySem PySem.Spec PyProof.Rows L2
/-! ### what is due of a tree: (size, levels, term, name, [of the parts]); ok: where its lists may stand -/
mutual
def DU (ok : Addr → Prop) (H : Hp) : V → Tr → Prop
  | v, .nd n ks => ∃ a b vs, v = .ref a ∧ ok b ∧ H a = some (.tup [.int (sz (.nd n ks)), .int (lv (.nd n ks)), .str (mk (tm (.nd n ks))), .str (mk n), .ref b]) ∧ H b = some (.lst vs) ∧ DUs ok H vs ks
def DUs (ok : Addr → Prop) (H : Hp) : List V → List Tr → Prop
  | [], [] => True
  | v :: vs, t :: ts => DU ok H v t ∧ DUs ok H vs ts
  | _, _ => False
end
mutual
theorem DU.move {ok ok' : Addr → Prop} {H H' : Hp} (k : Kp H H') (i : ∀ b xs, ok b → H b = some (.lst xs) → ok' b ∧ H' b = some (.lst xs)) : ∀ (v : V) (t : Tr), DU ok H v t → DU ok' H' v t
  | v, .nd n ks, h => by
    rw [DU] at h ⊢
    obtain ⟨a, b, vs, e, o, h1, h2, h3⟩ := h
    obtain ⟨o', h2'⟩ := i b vs o h2
    exact ⟨a, b, vs, e, o', k _ _ h1 (fun _ z => nomatch z), h2', DUs.move k i vs ks h3⟩
theorem DUs.move {ok ok' : Addr → Prop} {H H' : Hp} (k : Kp H H') (i : ∀ b xs, ok b → H b = some (.lst xs) → ok' b ∧ H' b = some (.lst xs)) : ∀ (vs : List V) (ts : List Tr), DUs ok H vs ts → DUs ok' H' vs ts
  | [], [], h => by rw [DUs]; trivial
  | v :: vs, t :: ts, h => by
    rw [DUs] at h ⊢
    exact ⟨DU.move k i v t h.1, DUs.move k i vs ts h.2⟩
  | [], _ :: _, h => by simp [DUs] at h
  | _ :: _, [], h => by simp [DUs] at h
end
theorem DU.same {ok : Addr → Prop} {H H' : Hp} (s : Same H H') {v : V} {t : Tr} (h : DU ok H v t) : DU ok H' v t := DU.move (Same.kp s) (fun b xs o e => ⟨o, s _ _ e⟩) v t h
theorem DUs.same {ok : Addr → Prop} {H H' : Hp} (s : Same H H') {v : List V} {t : List Tr} (h : DUs ok H v t) : DUs ok H' v t := DUs.move (Same.kp s) (fun b xs o e => ⟨o, s _ _ e⟩) v t h
theorem DUs.snoc {ok : Addr → Prop} {H : Hp} {v : V} {t : Tr} (h : DU ok H v t) : ∀ {vs : List V} {ts : List Tr}, DUs ok H vs ts → DUs ok H (vs ++ [v]) (ts ++ [t])
  | [], [], _ => by
    show DUs ok H [v] [t]
    rw [DUs, DUs]
    exact ⟨h, trivial⟩
  | x :: vs, y :: ts, g => by
    rw [DUs] at g
    show DUs ok H (x :: (vs ++ [v])) (y :: (ts ++ [t]))
    rw [DUs]
    exact ⟨g.1, DUs.snoc h g.2⟩
  | [], _ :: _, g => by simp [DUs] at g
  | _ :: _, [], g => by simp [DUs] at g
theorem DUs.length {ok : Addr → Prop} {H : Hp} : ∀ {vs : List V} {ts : List Tr}, DUs ok H vs ts → vs.length = ts.length
  | [], [], _ => rfl
  | x :: vs, y :: ts, g => by
    rw [DUs] at g
    exact congrArg Nat.succ (DUs.length g.2)
  | [], _ :: _, g => by simp [DUs] at g
  | _ :: _, [], g => by simp [DUs] at g
theorem DUs.get {ok : Addr → Prop} {H : Hp} : ∀ {vs : List V} {ts : List Tr} {i : Nat} {v : V}, DUs ok H vs ts → vs[i]? = some v → ∃ t, ts[i]? = some t ∧ DU ok H v t
  | [], [], i, v, _, e => by simp at e
  | x :: vs, y :: ts, 0, v, g, e => by
    rw [DUs] at g
    have : x = v := Option.some.inj e
    subst this
    exact ⟨y, rfl, g.1⟩
  | x :: vs, y :: ts, i + 1, v, g, e => by
    rw [DUs] at g
    exact DUs.get (i := i) g.2 e
  | [], _ :: _, _, _, g, _ => by simp [DUs] at g
  | _ :: _, [], _, _, g, _ => by simp [DUs] at g
/-- the tuple of a due tree -/
abbrev duT (t : Tr) (b : Addr) : List V := match t with
  | .nd n ks => [.int (sz (.nd n ks)), .int (lv (.nd n ks)), .str (mk (tm (.nd n ks))), .str (mk n), .ref b]
theorem DU.at {ok : Addr → Prop} {H : Hp} {v : V} {t : Tr} (h : DU ok H v t) : ∃ a b, v = .ref a ∧ H a = some (.tup (duT t b)) := by
  obtain ⟨n, ks⟩ := t
  rw [DU] at h
  obtain ⟨a, b, vs, e, o, h1, _⟩ := h
  exact ⟨a, b, e, h1⟩
theorem szs_ints : ∀ ks : List Tr, (ks.map fun t => (sz t : Int)).sum = (szs ks : Int)
  | [] => rfl
  | t :: r => by
    rw [List.map_cons, List.sum_cons, szs_ints r, szs]
    omega
theorem lvs_snoc (t : Tr) : ∀ ts : List Tr, lvs (ts ++ [t]) = max (lvs ts) (lv t)
  | [] => by
    show lvs [t] = max (lvs []) (lv t)
    simp only [lvs]
    omega
  | x :: ts => by
    show lvs (x :: (ts ++ [t])) = max (lvs (x :: ts)) (lv t)
    simp only [lvs]
    rw [lvs_snoc t ts]
    omega
def sp_told (n : Nat) : Sp := fun vs H Q _ => ∃ v t, vs = [v] ∧ LT H v t ∧ wf t = true ∧ lv t < n ∧ sz t ≤ 1000 ∧ ∀ H' v', Same H H' → DU (fun b => H b = none) H' v' t → Q v' H'
section
variable {P : Program} {w : World} {K : PySem.W.Frag} {mg : Str → Option Value} {base : Heap}
end
end TW

namespace TW
open PySem PySem.Spec PyProof.Rows L2
/-! ### the order of pairs (number, text) -/
abbrev NT := Int × Str
abbrev ntD (p : NT) : PyData := .tuple [.int p.1, .str p.2]
def rLtN (K : PySem.W.Frag) : R2 := fun x y H Q => ∃ p q : NT, Dp K H x (ntD p) ∧ Dp K H y (ntD q) ∧ Q (.bl (PySem.W.DatumOrd.lt p q)) H
def rLeN (K : PySem.W.Frag) : R2 := fun x y H Q => ∃ p q : NT, Dp K H x (ntD p) ∧ Dp K H y (ntD q) ∧ Q (.bl (!PySem.W.DatumOrd.lt q p)) H
def rEqN (K : PySem.W.Frag) : R2 := fun x y H Q => ∃ p q : NT, Dp K H x (ntD p) ∧ Dp K H y (ntD q) ∧ Q (.bl (decide (p = q))) H
section
variable {X : Cx}
theorem op_ltN (hu : X.A.units + 64 < cLine) : OpR X (compareOp .Lt) (rLtN X.K) := by
  intro pins s σ H x y v u Q I rx ry h
  obtain ⟨p, q, hp, hq, z⟩ := h
  have a : PySem.W.Holds s.heap v p := Dp.reads I _ x v hp rx
  have b : PySem.W.Holds s.heap u q := Dp.reads I _ y u hq ry
  exact PySem.W.lt_datum a b (Nat.lt_of_le_of_lt (Nat.add_le_add_left (show 1 ≤ 64 by decide) _) hu) ⟨.bl _, H, I, rfl, z⟩
theorem op_leN (hu : X.A.units + 64 < cLine) : OpR X (compareOp .LtE) (rLeN X.K) := by
  intro pins s σ H x y v u Q I rx ry h
  obtain ⟨p, q, hp, hq, z⟩ := h
  have a : PySem.W.Holds s.heap v p := Dp.reads I _ x v hp rx
  have b : PySem.W.Holds s.heap u q := Dp.reads I _ y u hq ry
  exact PySem.W.le_datum a b (Nat.lt_of_le_of_lt (Nat.add_le_add_left (show 1 ≤ 64 by decide) _) hu) ⟨.bl _, H, I, rfl, z⟩
theorem op_eqN (hu : X.A.units + 64 < cLine) : OpR X (compareOp .Eq) (rEqN X.K) := by
  intro pins s σ H x y v u Q I rx ry h
  obtain ⟨p, q, hp, hq, z⟩ := h
  have a : PySem.W.Holds s.heap v p := Dp.reads I _ x v hp rx
  have b : PySem.W.Holds s.heap u q := Dp.reads I _ y u hq ry
  exact PySem.W.eq_datum a b (Nat.lt_of_le_of_lt (Nat.add_le_add_left (show 1 ≤ 64 by decide) _) hu) ⟨.bl _, H, I, rfl, z⟩
end
/-! ### max(numbers, default=d) -/
def maxD : Int → List Int → Int
  | d, [] => d
  | _, x :: xs => PySem.W.maxOf x xs
def rMaxK (K : PySem.W.Frag) : List V → List V → Hp → VK → Prop := fun vs zs H Q => ∃ (a : Addr) (ns : List Int) (d : Int), vs = [.ref a] ∧ zs = [.int d] ∧ SqL K H a (ns.map V.int) ∧ Q (.int (maxD d ns)) H
theorem holdInts {h : Heap} : ∀ {ns : List Int} {us : List Value}, Vals (ns.map V.int) us → PySem.W.HoldAll h us ns := by
  intro ns us r
  exact PySem.W.HoldAll.of_ints (intsAre_of r)
theorem cr_maxK {X : Cx} {k : Nat} (hc : X.calm = true) (hr : Room k X.A) : CallRK X (.builtin "max") [Str.ofString "default"] (rMaxK X.K) := by
  intro pins s σ H xs zs us ws Q I r rz h
  obtain ⟨a, ns, d, rfl, rfl, hs, q⟩ := h
  obtain ⟨u, rfl, ru⟩ := vals1 r
  obtain ⟨z, rfl, rz'⟩ := vals1 rz
  cases ru
  obtain ⟨tk, rfl⟩ := rz'
  obtain ⟨its, rv, hl, _⟩ := I.list hs
  have hu : X.A.units + 1 + PySem.W.Datum.depth Int < cLine := by
    have := hr.units
    show X.A.units + 1 + 0 < cLine
    omega
  refine PySem.W.max_list_datum_default (xs := ns) (I.ok.hd hc) hl.isList (by rw [show its.toArray.toList = its by simp]; exact holdInts rv) hu (fun e h' tk' kp => ?_) (fun y ys i v h' tk' e hi hv kp => ?_)
  · subst e
    exact ⟨.int d, H, I.kept (t' := tk') kp, ⟨_, rfl⟩, q⟩
  · subst e
    obtain ⟨as, rd⟩ := hv
    have rd : Reads h' v (.int (PySem.W.maxOf y ys)) as := rd
    cases rd
    exact ⟨.int _, H, I.kept (t' := tk') kp, ⟨_, rfl⟩, q⟩
end TW

namespace TW
open PySem PySem.Spec PyProof.Rows L2
theorem pe_fldK {X : Cx} (K : PySem.W.Frag) {e : Expr} {ta : TE} {f : Str} {pos : Pos} (he : PE X e ta) (hb : attributeBase e f X.env (eval e X.env) = eval e X.env) (hK : X.K = K := by rfl) : PE X (.Attribute e f pos) (tFld K ta f) := by
  subst hK
  exact pe_fld he hb
/-! ### the class Tree -/
abbrev CT (K : PySem.W.Frag) : Addr := He.ga K "Tree"
abbrev mT (K : PySem.W.Frag) (m : Str) : Addr := He.ma K (He.ga K "Tree") m
structure Tc (K : PySem.W.Frag) (mg : Str → Option Value) : Prop where
  v_Tree : mg "Tree" = some (.ref (CT K))
  cl : Cls K (CT K)
  a_name : NoAttr K (CT K) "name"
  a_parts : NoAttr K (CT K) "parts"
  a_size : NoAttr K (CT K) "size"
  a_levels : NoAttr K (CT K) "levels"
  a_term : NoAttr K (CT K) "term"
  mk_ : Mk K (CT K) (mT K "__init__")
  d_init : DefAt K "__init__" "Tree.__init__" s_Tree_init (mT K "__init__")
abbrev tfs (t : Tr) (p : Addr) : List (Str × V) := match t with
  | .nd n ks => [("name", .str (mk n)), ("parts", .ref p), ("size", .int (sz (.nd n ks))), ("levels", .int (lv (.nd n ks))), ("term", .str (mk (tm (.nd n ks))))]
mutual
/-- v is an instance of the class at C that is the tree t -/
def TO (C : Addr) (H : Hp) : V → Tr → Prop
  | v, .nd n ks => ∃ a dx p vs, v = .ref a ∧ H a = some (.ins C dx (tfs (.nd n ks) p)) ∧ H p = some (.tup vs) ∧ TOs C H vs ks
def TOs (C : Addr) (H : Hp) : List V → List Tr → Prop
  | [], [] => True
  | v :: vs, t :: ts => TO C H v t ∧ TOs C H vs ts
  | _, _ => False
end
mutual
theorem TO.kp {C : Addr} {H H' : Hp} (k : Kp H H') : ∀ (v : V) (t : Tr), TO C H v t → TO C H' v t
  | v, .nd n ks, h => by
    rw [TO] at h ⊢
    obtain ⟨a, dx, p, vs, e, h1, h2, h3⟩ := h
    exact ⟨a, dx, p, vs, e, k _ _ h1 (fun _ z => nomatch z), k _ _ h2 (fun _ z => nomatch z), TOs.kp k vs ks h3⟩
theorem TOs.kp {C : Addr} {H H' : Hp} (k : Kp H H') : ∀ (vs : List V) (ts : List Tr), TOs C H vs ts → TOs C H' vs ts
  | [], [], h => by rw [TOs]; trivial
  | v :: vs, t :: ts, h => by
    rw [TOs] at h ⊢
    exact ⟨TO.kp k v t h.1, TOs.kp k vs ts h.2⟩
  | [], _ :: _, h => by simp [TOs] at h
  | _ :: _, [], h => by simp [TOs] at h
end
theorem TOs.length {C : Addr} {H : Hp} : ∀ {vs : List V} {ts : List Tr}, TOs C H vs ts → vs.length = ts.length
  | [], [], _ => rfl
  | x :: vs, y :: ts, g => by
    rw [TOs] at g
    exact congrArg Nat.succ (TOs.length g.2)
  | [], _ :: _, g => by simp [TOs] at g
  | _ :: _, [], g => by simp [TOs] at g
theorem TOs.get {C : Addr} {H : Hp} : ∀ {vs : List V} {ts : List Tr} {i : Nat} {v : V}, TOs C H vs ts → vs[i]? = some v → ∃ t, ts[i]? = some t ∧ TO C H v t
  | [], [], i, v, _, e => by simp at e
  | x :: vs, y :: ts, 0, v, g, e => by
    rw [TOs] at g
    have : x = v := Option.some.inj e
    subst this
    exact ⟨y, rfl, g.1⟩
  | x :: vs, y :: ts, i + 1, v, g, e => by
    rw [TOs] at g
    exact TOs.get (i := i) g.2 e
  | [], _ :: _, _, _, g, _ => by simp [TOs] at g
  | _ :: _, [], _, _, g, _ => by simp [TOs] at g
theorem TOs.snoc {C : Addr} {H : Hp} {v : V} {t : Tr} (h : TO C H v t) : ∀ {vs : List V} {ts : List Tr}, TOs C H vs ts → TOs C H (vs ++ [v]) (ts ++ [t])
  | [], [], _ => by
    show TOs C H [v] [t]
    rw [TOs, TOs]
    exact ⟨h, trivial⟩
  | x :: vs, y :: ts, g => by
    rw [TOs] at g
    show TOs C H (x :: (vs ++ [v])) (y :: (ts ++ [t]))
    rw [TOs]
    exact ⟨g.1, TOs.snoc h g.2⟩
  | [], _ :: _, g => by simp [TOs] at g
  | _ :: _, [], g => by simp [TOs] at g
theorem TO.at {C : Addr} {H : Hp} {v : V} {t : Tr} (h : TO C H v t) : ∃ a dx p, v = .ref a ∧ H a = some (.ins C dx (tfs t p)) := by
  obtain ⟨n, ks⟩ := t
  rw [TO] at h
  obtain ⟨a, dx, p, vs, e, h1, _⟩ := h
  exact ⟨a, dx, p, e, h1⟩
theorem maxOf_lvs : ∀ (t : Tr) (ks : List Tr), PySem.W.maxOf (lv t : Int) (ks.map fun t => (lv t : Int)) = (max (lv t) (lvs ks) : Nat) := by
  intro t ks
  have g : ∀ (ks : List Tr) (m : Nat), PySem.W.maxOf (m : Int) (ks.map fun t => (lv t : Int)) = ((max m (lvs ks) : Nat) : Int) := by
    intro ks
    induction ks with
    | nil =>
      intro m
      show (m : Int) = _
      simp only [lvs]
      omega
    | cons k r ih =>
      intro m
      show PySem.W.maxOf (if PySem.W.DatumOrd.lt (m : Int) (lv k : Int) = true then (lv k : Int) else (m : Int)) (r.map fun t => (lv t : Int)) = _
      have e : (if PySem.W.DatumOrd.lt (m : Int) (lv k : Int) = true then (lv k : Int) else (m : Int)) = ((max m (lv k) : Nat) : Int) := by
        show (if decide ((m : Int) < (lv k : Int)) = true then (lv k : Int) else (m : Int)) = _
        by_cases h : (m : Int) < (lv k : Int)
        · rw [decide_eq_true h, if_pos rfl]
          omega
        · rw [decide_eq_false h, if_neg Bool.false_ne_true]
          omega
      rw [e, ih, lvs]
      omega
  exact g ks (lv t)
theorem maxD_lvs (ks : List Tr) : maxD 0 (ks.map fun t => (lv t : Int)) = (lvs ks : Int) := by
  cases ks with
  | nil => rfl
  | cons k r =>
    show PySem.W.maxOf (lv k : Int) (r.map fun t => (lv t : Int)) = _
    rw [maxOf_lvs, lvs]
def sp_init (C : Addr) : Sp := fun vs H Q _ => ∃ (x dx p : Addr) (n : List Nat) (us : List V) (ks : List Tr), vs = [.ref x, .str (mk n), .ref p] ∧ H x = some (.ins C dx []) ∧ H p = some (.tup us) ∧ TOs C H us ks ∧ wf (.nd n ks) = true ∧ sz (.nd n ks) ≤ 1000 ∧
  ∀ H', (∀ b o, b ≠ x → H b = some o → H' b = some o) → H' x = some (.ins C dx (tfs (.nd n ks) p)) → Q .non H'
/-- the promise of the def itself, as it is called: behind the name any number of parts -/
def sp_star (C : Addr) : Sp := fun vs H Q E => ∃ ws rest, vs = ws ++ rest ∧ ws.length = ["self", "name"].length ∧ rest.length ≤ sizeLine ∧ ∀ p, H p = none → sp_init C (ws ++ [V.ref p]) (upd H p (.tup rest)) Q E
section
variable {P : Program} {w : World} {K : PySem.W.Frag} {mg : Str → Option Value} {base : Heap}
theorem ok_init (T : Tx K mg) (Z : Tc K mg) : FnR P w K mg base CX0 1 (mT K "__init__") (sp_star (CT K)) := by
  obtain ⟨fd, F⟩ := Z.d_init
  obtain ⟨oc, od, dV, kV, doc, pm, an, cdv, ct, osl, rfl, lk, hcd, hD, hK⟩ := F.ex
  rcases hD with ⟨_, rfl⟩ | ⟨e, _⟩
  case inr => exact absurd rfl e
  refine StX.fn_star (ps := ["self", "name"]) (pv := "parts") (N := N_Tree_init) (sp := sp_init (CT K)) lk hcd sc_Tree_init StX.cxUp_none ?_ ?_
  · refine StX.bind_star2 (B := fun vs => bindArgs (PySem.W.fnOf "__init__" "Tree.__init__" (defArgs s_Tree_init) (defBody s_Tree_init) (defScope s_Tree_init) Value.none kV doc pm an cdv ct) ⟨vs, []⟩) ?_ ?_
    · intro a b
      rfl
    · intro a b r rs
      rfl
  intro A outer s H vs Q E hr h
  obtain ⟨x, dx, p, n, us, ks, rfl, hx, hp, hk, hw, hz, q⟩ := h
  suffices g : ∃ t, PSs (cxOf CX0 P w K mg base N_Tree_init "Tree.__init__" (defScope s_Tree_init) (mT K "__init__") cdv A outer s H E).nox (defBody s_Tree_init) t ∧ t { nx := fun _ H' => Q .non H', rt := Q } (start N_Tree_init [.ref x, .str (mk n), .ref p]) H by
    obtain ⟨t, a, b⟩ := g
    exact ⟨t, a.nox, b⟩
  refine ⟨_, (pss_cons (ps_fld (pv 0) (pv 1) rfl)
(pss_cons (ps_fld (pv 0) (pv 2) rfl)
(pss_cons (ps_fld (pv 0) (pe_op op_add pe_int (pe_callB (cr_sum rfl) (by rfl) T.z_sum (by decide +kernel) (pa_cons (pe_lc (own := [("part", 3)]) (g := gName 3) rfl sc_Tree_init.nd (pi_tup (pv 2)) (blkOk_by (own := [("part", 3)]) (N := N_Tree_init) (sc := defScope s_Tree_init) (by decide +kernel)) (fun _ _ _ _ _ => pg_name (i := 3) sc_Tree_init.nd rfl (.inl rfl)) (fun _ _ _ _ _ => pts_nil) (fun _ _ _ _ _ => (pe_fldK K (pv 3) rfl))) pa_nil))) rfl)
(pss_cons (ps_fld (pv 0) (pe_op op_add pe_int (pe_callBK (cr_maxK rfl hr) (by rfl) T.z_max (by decide +kernel) (pa_cons (pe_lc (own := [("part", 3)]) (g := gName 3) rfl sc_Tree_init.nd (pi_tup (pv 2)) (blkOk_by (own := [("part", 3)]) (N := N_Tree_init) (sc := defScope s_Tree_init) (by decide +kernel)) (fun _ _ _ _ _ => pg_name (i := 3) sc_Tree_init.nd rfl (.inl rfl)) (fun _ _ _ _ _ => pts_nil) (fun _ _ _ _ _ => (pe_fldK K (pv 3) rfl))) pa_nil) (pk_cons pe_int pk_nil))) rfl)
(pss_cons (ps_fld (pv 0) (pv 1) rfl)
(pss_one (ps_if (pt_truth (pv 2) (by intro _; rfl))
(pss_one (ps_fld (pv 0) (pe_op op_add_str (pe_op op_add_str (pe_op op_add_str (pv 1) pe_str) (pe_join pe_str (pe_lc (own := [("part", 3)]) (g := gName 3) rfl sc_Tree_init.nd (pi_tup (pv 2)) (blkOk_by (own := [("part", 3)]) (N := N_Tree_init) (sc := defScope s_Tree_init) (by decide +kernel)) (fun _ _ _ _ _ => pg_name (i := 3) sc_Tree_init.nd rfl (.inl rfl)) (fun _ _ _ _ _ => pts_nil) (fun _ _ _ _ _ => (pe_fldK K (pv 3) rfl))))) pe_str) rfl))
pss_nil))))))), ?_⟩
  have nxp : x ≠ p := ne_of hx hp (by intro z; cases z)
  obtain ⟨kw, k3, _⟩ := wf_kids hw
  have tl := tm_len _ hw
  have jl := tms_len ks kw
  have yl := hk.length
  rw [sz] at tl hz
  have CL := Z.cl
  -- self.name, self.parts
  refine ⟨_, rfl, .ref x, rfl, x, _, dx, _, rfl, hx, CL, Z.a_name, Nat.le_of_ble_eq_true rfl, ?_⟩
  refine ⟨_, rfl, .ref x, rfl, x, _, dx, _, rfl, upd_same, CL, Z.a_parts, Nat.le_of_ble_eq_true rfl, ?_⟩
  rw [upd_upd]
  obtain ⟨f2, e2⟩ : ∃ f2 : List (Str × V), f2 = [(("name" : Str), V.str (mk n)), (("parts" : Str), V.ref p)] := ⟨_, rfl⟩
  have p2 : putF "parts" (.ref p) (putF "name" (.str (mk n)) []) = f2 := by rw [e2]; rfl
  rw [p2]
  have kx : ∀ fs, Kp H (upd H x (.ins (CT K) dx fs)) ∨ True := fun _ => .inr trivial
  have nx : ∀ (fs : List (Str × V)) b o, b ≠ x → H b = some o → upd H x (.ins (CT K) dx fs) b = some o := fun fs b o nb e => by rw [upd_ne nb]; exact e
  -- the parts are other objects than self
  have part : ∀ (H3 : Hp), (∀ b o, b ≠ x → H b = some o → H3 b = some o) → ∀ (i : Nat) v, us[i]? = some v → ∃ t a dy pp, ks[i]? = some t ∧ v = .ref a ∧ H3 a = some (.ins (CT K) dy (tfs t pp)) := by
    intro H3 k3' i v hv
    obtain ⟨t, et, ht⟩ := hk.get hv
    obtain ⟨a, dy, pp, rfl, ha⟩ := ht.at
    refine ⟨t, a, dy, pp, et, rfl, k3' _ _ (fun z => ?_) ha⟩
    rw [z, hx] at ha
    obtain ⟨tn, tk⟩ := t
    cases ha
  -- size
  have s2 := nx f2
  refine ⟨.ref p, rfl, p, rfl, ⟨_, SqT.of (s2 _ _ nxp.symm hp)⟩, fun D nD => ?_⟩
  refine lc_pureT (fs := (ks.map fun t => (sz t : Int)).map V.int) (s2 _ _ nxp.symm hp) nD (by rw [List.length_map, List.length_map, yl]) (by omega) (fun _ => rfl) ?_ ?_
  · intro i v y H' Q' hv hy s' hq
    obtain ⟨t, a, dy, pp, et, rfl, ha⟩ := part H' (fun b o nb e => s' _ _ (s2 _ _ nb e)) i v hv
    rw [List.getElem?_map, List.getElem?_map, et] at hy
    have := Option.some.inj hy
    subst this
    obtain ⟨tn, tk⟩ := t
    exact ⟨.ref a, rfl, a, _, dy, _, _, rfl, ha, CL, Z.a_size, rfl, hq⟩
  refine ⟨D, ks.map fun t => (sz t : Int), rfl, SqL.of upd_same, 1, _, rfl, rfl, ?_⟩
  rw [szs_ints]
  have s3 : ∀ b o, b ≠ x → H b = some o → upd (upd H x (.ins (CT K) dx f2)) D (.lst ((ks.map fun t => (sz t : Int)).map V.int)) b = some o := fun b o nb e => Same.new nD _ _ (s2 _ _ nb e)
  have x3 : upd (upd H x (.ins (CT K) dx f2)) D (.lst ((ks.map fun t => (sz t : Int)).map V.int)) x = some (.ins (CT K) dx f2) := Same.new nD _ _ upd_same
  generalize upd (upd H x (.ins (CT K) dx f2)) D (.lst ((ks.map fun t => (sz t : Int)).map V.int)) = H3 at s3 x3
  refine ⟨.ref x, rfl, x, _, dx, _, rfl, x3, CL, Z.a_size, by rw [e2]; exact Nat.le_of_ble_eq_true rfl, ?_⟩
  obtain ⟨f3, e3⟩ : ∃ f3 : List (Str × V), f3 = [(("name" : Str), V.str (mk n)), (("parts" : Str), V.ref p), (("size" : Str), V.int (1 + (szs ks : Int)))] := ⟨_, rfl⟩
  have p3 : putF "size" (.int (1 + (szs ks : Int))) f2 = f3 := by rw [e2, e3]; rfl
  rw [p3]
  have s4 : ∀ b o, b ≠ x → H b = some o → upd H3 x (.ins (CT K) dx f3) b = some o := fun b o nb e => by rw [upd_ne nb]; exact s3 _ _ nb e
  have x4 : upd H3 x (.ins (CT K) dx f3) x = some (.ins (CT K) dx f3) := upd_same
  generalize upd H3 x (.ins (CT K) dx f3) = H4 at s4 x4
  -- levels
  refine ⟨.ref p, rfl, p, rfl, ⟨_, SqT.of (s4 _ _ nxp.symm hp)⟩, fun D4 nD4 => ?_⟩
  refine lc_pureT (fs := (ks.map fun t => (lv t : Int)).map V.int) (s4 _ _ nxp.symm hp) nD4 (by rw [List.length_map, List.length_map, yl]) (by omega) (fun _ => rfl) ?_ ?_
  · intro i v y H' Q' hv hy s' hq
    obtain ⟨t, a, dy, pp, et, rfl, ha⟩ := part H' (fun b o nb e => s' _ _ (s4 _ _ nb e)) i v hv
    rw [List.getElem?_map, List.getElem?_map, et] at hy
    have := Option.some.inj hy
    subst this
    obtain ⟨tn, tk⟩ := t
    exact ⟨.ref a, rfl, a, _, dy, _, _, rfl, ha, CL, Z.a_levels, rfl, hq⟩
  refine ⟨D4, ks.map fun t => (lv t : Int), 0, rfl, rfl, SqL.of upd_same, 1, _, rfl, rfl, ?_⟩
  rw [maxD_lvs]
  have s5 : ∀ b o, b ≠ x → H b = some o → upd H4 D4 (.lst ((ks.map fun t => (lv t : Int)).map V.int)) b = some o := fun b o nb e => Same.new nD4 _ _ (s4 _ _ nb e)
  have x5 : upd H4 D4 (.lst ((ks.map fun t => (lv t : Int)).map V.int)) x = some (.ins (CT K) dx f3) := Same.new nD4 _ _ x4
  generalize upd H4 D4 (.lst ((ks.map fun t => (lv t : Int)).map V.int)) = H5 at s5 x5
  refine ⟨.ref x, rfl, x, _, dx, _, rfl, x5, CL, Z.a_levels, by rw [e3]; exact Nat.le_of_ble_eq_true rfl, ?_⟩
  -- term
  refine ⟨_, rfl, .ref x, rfl, x, _, dx, _, rfl, upd_same, CL, Z.a_term, by rw [e3]; exact Nat.le_of_ble_eq_true rfl, ?_⟩
  rw [upd_upd]
  obtain ⟨f5, e5⟩ : ∃ f5 : List Nat → List (Str × V), f5 = fun l => [(("name" : Str), V.str (mk n)), (("parts" : Str), V.ref p), (("size" : Str), V.int (1 + (szs ks : Int))), (("levels" : Str), V.int (1 + (lvs ks : Int))), (("term" : Str), V.str (mk l))] := ⟨_, rfl⟩
  have p5 : putF "term" (.str (mk n)) (putF "levels" (.int (1 + (lvs ks : Int))) f3) = f5 n := by rw [e3, e5]; rfl
  rw [p5]
  have p6 : ∀ l m, putF "term" (.str (mk m)) (f5 l) = f5 m := fun l m => by rw [e5]; rfl
  have f5l : ∀ l, (f5 l).length < 1000 := fun l => by rw [e5]; exact Nat.le_of_ble_eq_true rfl
  have ff : f5 (tm (.nd n ks)) = tfs (.nd n ks) p := by
    rw [e5]
    show _ = [(("name" : Str), V.str (mk n)), (("parts" : Str), V.ref p), (("size" : Str), V.int (sz (.nd n ks) : Nat)), (("levels" : Str), V.int (lv (.nd n ks) : Nat)), (("term" : Str), V.str (mk (tm (.nd n ks))))]
    rw [sz, lv]
    rfl
  have s6 : ∀ b o, b ≠ x → H b = some o → upd H5 x (.ins (CT K) dx (f5 n)) b = some o := fun b o nb e => by rw [upd_ne nb]; exact s5 _ _ nb e
  have x6 : upd H5 x (.ins (CT K) dx (f5 n)) x = some (.ins (CT K) dx (f5 n)) := upd_same
  generalize upd H5 x (.ins (CT K) dx (f5 n)) = H6 at s6 x6
  refine ⟨.ref p, rfl, !us.isEmpty, .inr (.inl ⟨us, SqT.of (s6 _ _ nxp.symm hp), rfl⟩), ite2 (fun e => ?_) (fun e => ?_)⟩
  · have nlen : n.length ≤ 12000 := by
      cases ks with
      | nil =>
        rw [tm_leaf] at tl
        omega
      | cons k r =>
        rw [tm_node, List.length_append] at tl
        omega
    refine ⟨_, rfl, mk n, mk [40], rfl, rfl, ?_, ?_⟩
    · rw [mk_len, mk_len]
      exact Nat.le_trans (show n.length + 1 ≤ 13000 by omega) (by decide)
    refine ⟨⟨_, rfl⟩, .ref p, rfl, p, rfl, ⟨_, SqT.of (s6 _ _ nxp.symm hp)⟩, fun F nF => ?_⟩
    refine lc_pureT (fs := ((tms ks).map mk).map V.str) (s6 _ _ nxp.symm hp) nF (by rw [List.length_map, List.length_map, tms_map, List.length_map, yl]) (by omega) (fun _ => rfl) ?_ ?_
    · intro i v y H' Q' hv hy s' hq
      obtain ⟨t, a, dy, pp, et, rfl, ha⟩ := part H' (fun b o nb e => s' _ _ (s6 _ _ nb e)) i v hv
      rw [tms_map, List.getElem?_map, List.getElem?_map, List.getElem?_map, et] at hy
      have := Option.some.inj hy
      subst this
      obtain ⟨tn, tk⟩ := t
      exact ⟨.ref a, rfl, a, _, dy, _, _, rfl, ha, CL, Z.a_term, rfl, hq⟩
    refine ⟨mk [44, 32], F, (tms ks).map mk, rfl, rfl, .inl (SqL.of upd_same), ?_, ?_⟩
    · have := jn_sum (tms ks)
      rw [mk_len]
      show _ + _ * 2 ≤ _
      omega
    rw [show Txt.join (mk [44, 32]) ((tms ks).map mk) = mk (jn (tms ks)) from (TL.join_eq _ _).trans (join_mk _)]
    refine ⟨mk (n ++ [40]), mk (jn (tms ks)), by rw [mk_app], rfl, ?_, ?_⟩
    · rw [mk_len, mk_len, List.length_append]
      exact Nat.le_trans (show n.length + 1 + (jn (tms ks)).length ≤ 100000 by omega) (by decide)
    refine ⟨mk (n ++ [40] ++ jn (tms ks)), mk [41], by rw [mk_app], rfl, ?_, ?_⟩
    · rw [mk_len, mk_len, List.length_append, List.length_append]
      exact Nat.le_trans (show n.length + 1 + (jn (tms ks)).length + 1 ≤ 100000 by omega) (by decide)
    have xF := Same.new (o := .lst (((tms ks).map mk).map V.str)) nF _ _ x6
    refine ⟨.ref x, rfl, x, _, dx, _, rfl, xF, CL, Z.a_term, f5l _, ?_⟩
    rw [mk_app, p6]
    have et : n ++ [40] ++ jn (tms ks) ++ [41] = tm (.nd n ks) := by
      cases ks with
      | nil =>
        rw [List.isEmpty_iff.mpr (List.length_eq_zero_iff.mp yl)] at e
        cases e
      | cons k r =>
        rw [tm_node, List.append_assoc, List.append_assoc]
        rfl
    rw [et, ff]
    exact q _ (fun b o nb e => by rw [upd_ne nb]; exact Same.new nF _ _ (s6 _ _ nb e)) upd_same
  · have e0 : ks = [] := by
      cases us with
      | nil => exact List.length_eq_zero_iff.mp yl.symm
      | cons a b => exact absurd rfl e
    subst e0
    have et : tm (.nd n []) = n := tm_leaf n
    rw [et] at ff
    rw [ff] at x6
    exact q _ s6 x6
end
end TW

namespace TW
open PySem PySem.Spec PyProof.Rows L2
/-- Tree(name, part, ..) -/
theorem mk_tree {C : Addr} {H : Hp} {Q : VK} {E : XK} {n : List Nat} {us : List V} {ks : List Tr} (hk : TOs C H us ks) (hw : wf (.nd n ks) = true) (hz : sz (.nd n ks) ≤ 1000)
    (q : ∀ H' a, Same H H' → H a = none → TO C H' (.ref a) (.nd n ks) → Q (.ref a) H') :
    ∀ x dx, H x = none → H dx = none → dx ≠ x → sp_star C (V.ref x :: (.str (mk n) :: us)) (upd (upd H dx (.own x)) x (.ins C dx [])) (fun v H2 => v = .non ∧ Q (.ref x) H2) E := by
  intro x dx nx nd ne
  have hl : us.length ≤ sizeLine := by
    rw [hk.length]
    have := len_szs ks
    rw [sz] at hz
    exact Nat.le_trans (show ks.length ≤ 1000 by omega) szle
  refine ⟨[.ref x, .str (mk n)], us, rfl, rfl, hl, fun p np => ?_⟩
  have s1 : Same H (upd (upd H dx (.own x)) x (.ins C dx [])) := fun b o e => by rw [upd_ne (ne_of_none e nx), upd_ne (ne_of_none e nd)]; exact e
  have s2 := s1.trans (Same.new (o := .tup us) np)
  have px : x ≠ p := ne_of_none upd_same np
  refine ⟨x, dx, p, n, us, ks, rfl, by rw [upd_ne px, upd_same], upd_same, TOs.kp (Same.kp s2) _ _ hk, hw, hz, fun H' k hx => ⟨rfl, ?_⟩⟩
  have s3 : Same H H' := fun b o e => k b o (ne_of_none e nx) (s2 _ _ e)
  refine q H' x s3 nx ?_
  rw [TO]
  exact ⟨x, dx, p, us, rfl, hx, k _ _ px.symm upd_same, TOs.kp (Same.kp s3) _ _ hk⟩
def sp_made (C : Addr) (n : Nat) : Sp := fun vs H Q _ => ∃ v t, vs = [v] ∧ LT H v t ∧ wf t = true ∧ lv t < n ∧ sz t ≤ 1000 ∧ ∀ H' v', Same H H' → TO C H' v' t → Q v' H'
section
variable {P : Program} {w : World} {K : PySem.W.Frag} {mg : Str → Option Value} {base : Heap}
end
end TW

namespace TW
open PySem PySem.Spec PyProof.Rows L2
/-! ### a def's call at one state -/
section
variable {P : Program} {w : World} {K : PySem.W.Frag} {mg : Str → Option Value} {base : Heap}
/-- as the rule for a def, but at the state s alone: what is wanted may speak of s -/
theorem run_here {CX : CXT} {k : Nat} {f : Addr} {x q : Str} {st : Stmt} {N ps : List Str} {A : Around} {outer : List Env} {s : Shared} {H : Hp} {us : List Value} {vs : List V} {Q : VK} {E : XK}
    (D : DefAt K x q st f) (S : FnScope N ps (defScope st)) (hb : BindsWell x q st ps) (hr : Room (k + 1) A) (e0 : Env0 P w K mg base A outer s H) (r : Vals vs us) (hl : vs.length = ps.length)
    (body : ∀ cdv : Value, Room k (A.deeper (envOfC q (defScope st) s.heap.objs.size f cdv)) → ∃ t, PSs (cxOf CX P w K mg base N q (defScope st) f cdv A outer s H E) (defBody st) t ∧ t { nx := fun _ H' => Q .non H', rt := Q } (start N vs) H) :
    codeAny (model P w) A (.call (.ref f) ⟨us, []⟩) (CR CX outer P w H s Q E) s := by
  obtain ⟨fd, F⟩ := D
  have BT : BindsTo s fd ⟨us, []⟩ (ps.zip us) := F.bindsA hb s us (r.length.symm.trans hl)
  obtain ⟨oc, od, dV, kV, doc, pm, an, cdv, ct, osl, rfl, lk, hcd, _, _⟩ := F.ex
  have KX : K.In s.heap := e0.mod.kin.keeps fun b o e => (e0.bs b o e).1
  have NL : s.heap.NoLimit := e0.mod.nolimit.keeps fun b o e => (e0.bs b o e).1
  refine codeAny_call_function hr.depth (KX _ _ lk) rfl S.co S.gen rfl (PySem.W.codeRec_of KX hcd) (BT _ _ _ _ ?_)
  have kinds : ∀ y ∈ ps.zip us, (defScope st).names.lookup y.1 = some .local ∨ ((defScope st).names.lookup y.1 = some .cell ∧ ((cellsFrom (s.heap.objs.size + 1) (defScope st).names []).lookup y.1).isSome = true) := fun y hy => by
    rcases S.par y.1 (List.of_mem_zip hy).1 with z | z
    · exact .inl z
    · exact .inr ⟨z, PySem.W.cellsFrom_some _ _ _ (.inl z)⟩
  refine wpAny_newFunctionEnv_cells S.kind kinds fun env he s1 x => ?_
  subst he
  refine ⟨NL.keeps x.toInCall.keep, codeAny_func ?_⟩
  obtain ⟨t, ht, hq⟩ := body cdv (hr.deeper _)
  have I : Inv (cxOf CX P w K mg base N q (defScope st) f cdv A outer s H E) [] (start N vs) H s1 := inv_start S hr.hd e0 hl r x
  refine wpAny_mono (ht.run [] s1 _ _ _ I hq) (fun fl s' hs => ?_) fun e s' hs => hs
  have fin : ∀ {σ' : L2.St} {H' : Hp} {v : V} {u : Value}, Inv (cxOf CX P w K mg base N q (defScope st) f cdv A outer s H E) [] σ' H' s' → RelV v u → Q v H' → CE outer P w H s Q u s' := fun {σ' H' v u} J rv z => ⟨v, H', J.os, J.bare, J.base, J.hok, rv, z⟩
  cases fl with
  | ret u =>
    obtain ⟨v, σ', H', J, rv, z⟩ := hs
    exact fin J rv z
  | next =>
    obtain ⟨σ', H', J, z⟩ := hs
    exact fin (v := V.non) (u := Value.none) J rfl z
  | brk =>
    obtain ⟨_, _, _, z⟩ := hs
    exact False.elim z
  | cont =>
    obtain ⟨_, _, _, z⟩ := hs
    exact False.elim z
end
/-! ### iter(a tuple) as a value -/
def TIt (p it : Addr) : HO := .ext fun h => h.IsTupleIter it p 0
def rIterT (K : PySem.W.Frag) (n : Nat) : List V → Hp → VK → Prop := fun xs H Q => ∃ (p : Addr) (zs : List V), xs = [.ref p] ∧ SqT K H p zs ∧ ∀ it, H it = none → n ≤ it → Q (.ref it) (upd H it (TIt p it))
theorem tit_ok {P : Program} {w : World} {H : Hp} {h : Heap} {p it : Addr} (e : h.IsTupleIter it p 0) : ObjOk P w H h it (TIt p it) := by
  refine ⟨e, ?_, fun h1 h2 q k => Heap.IsTupleIter.at q k⟩
  obtain ⟨o, ho, _⟩ := e
  exact ⟨o, ho⟩
theorem call_iterT {X : Cx} : CallR X (.builtin "iter") (rIterT X.K X.s_0.heap.objs.size) := by
  intro pins s σ H xs us Q I r h
  obtain ⟨p, zs, rfl, hq, q⟩ := h
  obtain ⟨u, rfl, ru⟩ := vals1 r
  cases ru
  obtain ⟨its, rv, pt, hz⟩ := I.tuple hq
  refine Calls.call_function_entry (by decide +kernel) (by decide +kernel) PySem.W.kdk_entry_iter (PySem.W.kdk_args_iter _) ?_
  unfold Builtin.«iter»
  refine wpAny_bind (m := someArgs "iter" 1 2 _) (wpAny_of_eq (a := [Value.ref p]) (by first | rfl | kernel_rfl!) ?_)
  show wpAny _ _ (pyIter (.ref p) >>= _) _ _ _
  refine wpAny_bind (wpAny_pyIter_tuple (show s.heap.IsTuple p its.toArray from pt) ?_)
  refine wpAny_pure ⟨_, rfl, ?_⟩
  exact ⟨.ref s.heap.objs.size, _, I.laid (t' := s.toks) (fun b u e => Heap.get?_push_of_some _ e) (Nat.le_refl _) (tit_ok ⟨_, Heap.get?_push_size _ rfl, rfl, rfl⟩), rfl, q _ (I.hok.fresh (Nat.le_refl _)) I.sz⟩
/-! ### for x in a tree -/
structure Ti (K : PySem.W.Frag) : Prop where
  at_ : PySem.W.findIn K (.ref (CT K)) "__iter__" = some (some (.ref (mT K "__iter__")))
  fn : PySem.W.isFn K (.ref (mT K "__iter__")) = true
  d_ : DefAt K "__iter__" "Tree.__iter__" s_Tree_iter (mT K "__iter__")
def iTree (K : PySem.W.Frag) (te : TE) : TI := fun σ H R => te σ H fun x H1 => ∃ a dx fs p xs, x = .ref a ∧ H1 a = some (.ins (CT K) dx fs) ∧ fs.lookup ("parts" : Str) = some (V.ref p) ∧ H1 p = some (.tup xs) ∧ R (Itt K p) H1
theorem pi_tree {X : Cx} {tg e : Expr} {te : TE} {k : Nat} (T : Tx X.K X.mg) (Z : Tc X.K X.mg) (I3 : Ti X.K) (hr : Room (k + 1) X.A) (he : PE X e te) : PI X tg e (iTree X.K te) := by
  refine ⟨fun pins s σ H R I h => ?_⟩
  refine thn (he.run pins s σ H _ I h) fun v s1 z => ?_
  obtain ⟨x, H1, I1, r1, a, dx, fs, p, xs, ex, ha, hl, hp, q⟩ := z
  subst ex
  cases r1
  obtain ⟨m, F⟩ := I1.fr
  obtain ⟨mA, O, _⟩ := ins_get I1.hok ha
  obtain ⟨od, J, _⟩ := O.look
  refine PySem.W.owit_iter F I1.ok.mod.kin J I3.at_ I3.fn ?_
  have run := run_here (P := X.prog) (w := X.w) (K := X.K) (mg := X.mg) (base := X.base) (CX := CX0) (k := k) (A := X.A) (outer := X.stack) (s := s1) (H := H1) (us := [.ref a]) (vs := [.ref a]) (N := N_Tree_iter) (ps := ["self"])
    (Q := fun v H' => ∃ it, v = .ref it ∧ H1 it = none ∧ s1.heap.objs.size ≤ it ∧ H' = upd H1 it (TIt p it)) (E := E0) I3.d_ sc_Tree_iter (fun _ _ _ _ _ _ us hl => match us, hl with | [_], _ => rfl) hr I1.env0 (.cons rfl .nil) rfl ?_
  · refine wpAny_call (codeAny_mono run fun r s' hq => ?_)
    cases r with
    | error er => exact False.elim hq
    | ok fl =>
      cases fl with
      | ret u =>
        obtain ⟨v, H', I2, rv, it, ev, ni, hs, eH⟩ := I1.after hq
        subst ev eH
        cases rv
        have ei : upd H1 it (TIt p it) it = some (TIt p it) := upd_same
        have st : s'.heap.IsTupleIter it p 0 := (I2.hok it _ ei).1
        show wpAny _ _ (specialOf (.ref it) "__next__") _ _ _
        refine wpAny_specialOf st.typeIs slot_tupleiter_next.lookup ?_
        have I3' := ItX.inv_drop I2 (show upd H1 it (TIt p it) it = some (.ext _) from upd_same)
        have fp := ItX.inv_fp I2 ei (Nat.le_trans I1.sz hs)
        rw [ItX.dropH_upd ni] at I3' fp
        refine ⟨it, [it], _, _, H1, rfl, I3', turn_tuple p it, st, fun b hb => ?_, q⟩
        have e : b = it := by simpa using hb
        rw [e]
        exact fp
      | next => exact False.elim hq
      | brk => exact False.elim hq
      | cont => exact False.elim hq
  · intro cdv hr2
    suffices g : ∃ t, PSs (cxOf CX0 X.prog X.w X.K X.mg X.base N_Tree_iter "Tree.__iter__" (defScope s_Tree_iter) (mT X.K "__iter__") cdv X.A X.stack s1 H1 E0).nox (defBody s_Tree_iter) t ∧ t { nx := fun _ H' => ∃ it, V.non = .ref it ∧ H1 it = none ∧ s1.heap.objs.size ≤ it ∧ H' = upd H1 it (TIt p it), rt := fun v H' => ∃ it, v = .ref it ∧ H1 it = none ∧ s1.heap.objs.size ≤ it ∧ H' = upd H1 it (TIt p it) } (start N_Tree_iter [.ref a]) H1 by
      obtain ⟨t, u, z⟩ := g
      exact ⟨t, u.nox, z⟩
    obtain ⟨K, hK⟩ : ∃ K, K = X.K := ⟨_, rfl⟩
    rw [← hK] at T Z ha ⊢
    refine ⟨_, (pss_one (ps_ret (pe_callB call_iterT (by rfl) T.z_iter (by decide +kernel) (pa_cons (pe_fldK K (pv 0) rfl) pa_nil)))), ?_⟩
    refine ⟨.ref a, rfl, a, _, dx, fs, _, rfl, ha, Z.cl, Z.a_parts, hl, p, xs, rfl, SqT.of hp, fun it ni hn => ⟨it, rfl, ni, hn, rfl⟩⟩
end TW

namespace TW
open PySem PySem.Spec PyProof.Rows L2
/-! ### the codes of a term are those of ASCII -/
theorem capC_lt {c : Nat} (h : capC c = true) : c < 128 := by
  obtain ⟨_, h2⟩ := Bool.and_eq_true_iff.mp h
  have := Nat.le_of_ble_eq_true h2
  omega
theorem alnC_lt {c : Nat} (h : alnC c = true) : c < 128 := by
  rcases Bool.or_eq_true_iff.mp h with h | h
  · rcases Bool.or_eq_true_iff.mp h with h | h
    · exact capC_lt h
    · have := Nat.le_of_ble_eq_true (Bool.and_eq_true_iff.mp h).2
      omega
  · have := Nat.le_of_ble_eq_true (Bool.and_eq_true_iff.mp h).2
    omega
theorem name_ascii {n : List Nat} (h : bigN n = true ∨ leafN n = true) : ∀ c ∈ n, c < 128 := by
  rcases h with h | h
  · obtain ⟨c, l, rfl, hc, hl, _⟩ := bigN_cons h
    intro x hx
    rcases List.mem_cons.mp hx with e | e
    · rw [e]
      exact capC_lt hc
    · exact alnC_lt (List.all_eq_true.mp hl x e)
  · match n, h with
    | [c], h =>
      intro x hx
      rcases List.mem_cons.mp hx with e | e
      · rw [e]
        rcases Bool.or_eq_true_iff.mp h with z | z
        · have := eq_of_beq z
          omega
        · have := Nat.le_of_ble_eq_true (Bool.and_eq_true_iff.mp z).2
          omega
      · cases e
theorem jn_ascii : ∀ {ls : List (List Nat)}, (∀ l ∈ ls, ∀ c ∈ l, c < 128) → ∀ c ∈ jn ls, c < 128
  | [], _, c, hc => by cases hc
  | [p], h, c, hc => h p List.mem_cons_self c hc
  | p :: q :: r, h, c, hc => by
    rw [jn] at hc
    rcases List.mem_append.mp hc with z | z
    · exact h p List.mem_cons_self c z
    · rcases List.mem_cons.mp z with z | z
      · omega
      rcases List.mem_cons.mp z with z | z
      · omega
      · exact jn_ascii (ls := q :: r) (fun l hl => h l (List.mem_cons_of_mem _ hl)) c z
mutual
theorem tm_ascii : ∀ t : Tr, wf t = true → ∀ c ∈ tm t, c < 128
  | .nd n ks, h => by
    obtain ⟨kw, _, hn⟩ := wf_kids h
    have an := name_ascii (n := n) (hn.elim .inl fun z => .inr z.1)
    have ak := tms_ascii ks kw
    cases ks with
    | nil =>
      rw [tm_leaf]
      exact an
    | cons k r =>
      rw [tm_node]
      intro c hc
      rcases List.mem_append.mp hc with z | z
      · exact an c z
      rcases List.mem_cons.mp z with z | z
      · omega
      rcases List.mem_append.mp z with z | z
      · exact jn_ascii ak c z
      rcases List.mem_cons.mp z with z | z
      · omega
      · cases z
theorem tms_ascii : ∀ ks : List Tr, wfs ks = true → ∀ l ∈ tms ks, ∀ c ∈ l, c < 128
  | [], _ => by
    intro l hl
    rw [tms] at hl
    cases hl
  | k :: r, h => by
    rw [wfs] at h
    obtain ⟨h1, h2⟩ := Bool.and_eq_true_iff.mp h
    intro l hl
    rw [tms] at hl
    rcases List.mem_cons.mp hl with e | e
    · rw [e]
      exact tm_ascii k h1
    · exact tms_ascii r h2 l e
end
theorem strOk_of {l : List Nat} (h : ∀ c ∈ l, c < 128) : PyData.strOk (mk l) = true := by
  show l.toArray.all (· < 0x110000) = true
  rw [List.all_toArray]
  exact List.all_eq_true.mpr fun c hc => decide_eq_true (by have := h c hc; omega)
theorem dpStrs {K : PySem.W.Frag} {H : Hp} : ∀ ls : List (List Nat), DpAll K H ((ls.map mk).map V.str) ((ls.map mk).map PyData.str)
  | [] => .nil
  | n :: r => .cons (.str (mk n)) (dpStrs r)
theorem layStrs : ∀ ls : List (List Nat), (∀ l ∈ ls, ∀ c ∈ l, c < 128) → PyData.canLayAll0 ((ls.map mk).map PyData.str) = true
  | [], _ => rfl
  | n :: r, h => by
    show (PyData.canLay0 (.str (mk n)) && PyData.canLayAll0 ((r.map mk).map PyData.str)) = true
    rw [layStrs r fun l hl => h l (List.mem_cons_of_mem _ hl), Bool.and_true]
    exact strOk_of (h n List.mem_cons_self)
theorem depthStrs : ∀ ls : List (List Nat), PyData.depthAll ((ls.map mk).map PyData.str) = 0
  | [] => rfl
  | n :: r => by
    show max (PyData.depth (.str (mk n))) (PyData.depthAll ((r.map mk).map PyData.str)) = 0
    rw [depthStrs r]
    rfl
theorem shapedStrs {ls : List (List Nat)} (h : ∀ l ∈ ls, ∀ c ∈ l, c < 128) : SeqAt.shaped (.list ((ls.map mk).map PyData.str)) = true := by
  show (PyData.canLayAll0 ((ls.map mk).map PyData.str) && decide (PyData.depthAll ((ls.map mk).map PyData.str) + 1 ≤ 64)) = true
  rw [layStrs ls h, depthStrs]
  rfl
theorem eqvStrs (ls : List (List Nat)) : PyData.eqv (.list ((ls.map mk).map PyData.str)) (.list ((ls.map mk).map PyData.str)) = true := by
  show PyData.eqvAll ((ls.map mk).map PyData.str) ((ls.map mk).map PyData.str) = true
  induction ls with
  | nil => rfl
  | cons n r ih =>
    show ((mk n == mk n) && PyData.eqvAll ((r.map mk).map PyData.str) ((r.map mk).map PyData.str)) = true
    rw [ih, beq_self_eq_true]
    rfl
/-! ### the property whole; isinstance -/
abbrev gW (K : PySem.W.Frag) : Addr := match PySem.W.recIn K (mT K "whole") "property" with
  | some (.ref g :: _) => g
  | _ => 0
structure Tw (K : PySem.W.Frag) : Prop where
  p_whole : PropOf K (CT K) "whole" (mT K "whole") (gW K)
  ic : PySem.W.findIn K (.ref (CT K)) "__class__" = some (some (.builtin "object.__class__"))
  ig : PySem.W.specialIn K (.builtin "object.__class__") "__get__" = some (some (.builtin "getset_descriptor.__get__"))
  it : PySem.W.takesIn K (.builtin "object.__class__") = some true
  im : PySem.W.mroIn K (CT K) (.type "object") = some true
theorem kit_same {K : PySem.W.Frag} (t : Value) : PySem.W.kitOne K t t = some true := by
  unfold PySem.W.kitOne
  rw [if_pos (beq_self_eq_true t)]
def sp_whole (C : Addr) : Sp := fun vs H Q _ => ∃ (a : Addr) (t : Tr), vs = [.ref a] ∧ TO C H (.ref a) t ∧ Q (.bl (!decide (95 ∈ tm t))) H
def sp_is : Sp := fun vs H Q _ => ∃ (i j : Int), vs = [.int i, .int j] ∧ Q (.bl (decide (i = j))) H
def sp_good (C : Addr) (n : Nat) : Sp := fun vs H Q _ => ∃ (v d : V) (t : Tr) (ok : Addr → Prop), vs = [v, d] ∧ TO C H v t ∧ DU ok H d t ∧ wf t = true ∧ lv t < n ∧ sz t ≤ 1000 ∧ ∀ H', Same H H' → Q (.bl true) H'
section
variable {P : Program} {w : World} {K : PySem.W.Frag} {mg : Str → Option Value} {base : Heap}
/-- a def by its body, with its function object -/
theorem fnO0 {x q : Str} {st : Stmt} {f : Addr} {N ps : List Str} {k : Nat} {sp : Sp} (D : DefAt K x q st f) (S : FnScope N ps (defScope st)) (hb : BindsWell x q st ps)
    (len : ∀ vs H Q E, sp vs H Q E → vs.length = ps.length)
    (body : ∀ (cdv : Value) (A : Around) (outer : List Env) (s : Shared) (H : Hp) (vs : List V) (Q : VK) (E : XK), Room k (A.deeper (envOfC q (defScope st) s.heap.objs.size f cdv)) → sp vs H Q E →
      ∃ t, PSs (cxOf CX0 P w K mg base N q (defScope st) f cdv A outer s H E).nox (defBody st) t ∧ t { nx := fun _ H' => Q .non H', rt := Q } (start N vs) H) :
    ∃ fd, FnOk P w K mg base CX0 (k + 1) f fd ps sp ∧ Binds K fd ps [] := by
  obtain ⟨fd, F⟩ := D
  refine ⟨fd, F.ok S len fun cdv A outer s H vs Q E hr h => ?_, F.bindsN hb⟩
  obtain ⟨t, a, b⟩ := body cdv A outer s H vs Q E hr h
  exact ⟨t, a.nox, b⟩
end
end TW

namespace TW
open PySem PySem.Spec PyProof.Rows L2
/-! ### a term tells its size -/
def sep (c : Nat) : Bool := c == 40 || c == 44
theorem sep_aln : ∀ c, alnC c = true → sep c = false := by
  intro c h
  unfold sep
  unfold alnC capC at h
  simp only [Bool.or_eq_true, Bool.and_eq_true, Nat.ble_eq] at h
  have h1 : c ≠ 40 := by omega
  have h2 : c ≠ 44 := by omega
  simp [h1, h2]
theorem aln_cap {c : Nat} (h : capC c = true) : alnC c = true := by
  unfold alnC
  rw [h]
  rfl
theorem sep_zero : ∀ {l : List Nat}, (∀ c ∈ l, sep c = false) → l.countP sep = 0
  | [], _ => rfl
  | c :: r, h => by
    rw [List.countP_cons, sep_zero fun x hx => h x (List.mem_cons_of_mem _ hx), h c List.mem_cons_self]
    rfl
theorem big_aln {n : List Nat} (h : bigN n = true) : ∀ c ∈ n, alnC c = true := by
  cases n with
  | nil => cases h
  | cons c r =>
    obtain ⟨h1, h2⟩ := Bool.and_eq_true_iff.mp (show (capC c && r.all alnC && Nat.ble (r.length + 1) 8) = true from h)
    obtain ⟨h3, h4⟩ := Bool.and_eq_true_iff.mp h1
    intro x hx
    rcases List.mem_cons.mp hx with rfl | hx
    · exact aln_cap h3
    · exact List.all_eq_true.mp h4 x hx
theorem leaf_sep {n : List Nat} (h : leafN n = true) : n.countP sep = 0 := by
  match n, h with
  | [c], h =>
    have h' : (c == 95 || digC c) = true := h
    unfold digC at h'
    simp only [Bool.or_eq_true, Bool.and_eq_true, Nat.ble_eq, beq_iff_eq] at h'
    refine sep_zero fun x hx => ?_
    rw [List.mem_singleton.mp hx]
    unfold sep
    have h1 : c ≠ 40 := by omega
    have h2 : c ≠ 44 := by omega
    simp [h1, h2]
theorem name_sep {n : List Nat} {b : Bool} (h : (bigN n || (leafN n && b)) = true) : n.countP sep = 0 := by
  rcases Bool.or_eq_true_iff.mp h with z | z
  · exact sep_zero fun c hc => sep_aln c (big_aln z c hc)
  · exact leaf_sep (Bool.and_eq_true_iff.mp z).1
mutual
theorem tm_cnt : ∀ t : Tr, wf t = true → (tm t).countP sep + 1 = sz t
  | .nd n ks, h => by
    rw [wf] at h
    obtain ⟨h1, h2⟩ := Bool.and_eq_true_iff.mp h
    obtain ⟨h3, h4⟩ := Bool.and_eq_true_iff.mp h2
    have hn := name_sep h1
    cases ks with
    | nil => rw [tm_leaf, sz, szs, hn]
    | cons k r =>
      have ih := tms_cnt (k :: r) h4 (List.cons_ne_nil _ _)
      rw [tm_node, sz, List.countP_append, List.countP_cons, List.countP_append, hn, show [41].countP sep = 0 from rfl, show sep 40 = true from rfl]
      simp only [if_true]
      omega
theorem tms_cnt : ∀ ks : List Tr, wfs ks = true → ks ≠ [] → (jn (tms ks)).countP sep + 1 = szs ks
  | [], _, n => absurd rfl n
  | k :: r, h, _ => by
    rw [wfs] at h
    obtain ⟨h1, h2⟩ := Bool.and_eq_true_iff.mp h
    have a := tm_cnt k h1
    have b := tms_cnt r h2
    cases r with
    | nil =>
      rw [tms, tms, jn, szs, szs, a]
      rfl
    | cons k2 r2 =>
      have b := b (List.cons_ne_nil _ _)
      rw [tms, szs]
      rw [tms] at b ⊢
      rw [jn, List.countP_append, List.countP_cons, List.countP_cons, show sep 44 = true from rfl, show sep 32 = false from rfl]
      simp only [if_true, Bool.false_eq_true, if_false]
      omega
end
end TW

namespace TW
/-! ## reading terms: plain Lean, no program in sight -/
/-! ### names -/
/-- what may stand behind a part -/
def endR (s : List Nat) : Prop := s.head? = none ∨ s.head? = some 41 ∨ s.head? = some 44
theorem tw_stop {p : Nat → Bool} : ∀ {n s : List Nat}, (∀ c ∈ n, p c = true) → (∀ c, s.head? = some c → p c = false) → (n ++ s).takeWhile p = n
  | [], s, _, h => by
    cases s with
    | nil => rfl
    | cons c r =>
      show List.takeWhile p (c :: r) = []
      rw [List.takeWhile_cons, h c rfl]
      rfl
  | c :: r, s, hn, h => by
    show List.takeWhile p (c :: (r ++ s)) = c :: r
    rw [List.takeWhile_cons, hn c List.mem_cons_self, tw_stop (fun x hx => hn x (List.mem_cons_of_mem _ hx)) h]
    rfl
theorem tw_all {p : Nat → Bool} : ∀ (s : List Nat), ∀ c ∈ s.takeWhile p, p c = true
  | [], c, h => by cases h
  | x :: r, c, h => by
    rw [List.takeWhile_cons] at h
    cases e : p x with
    | false => rw [e] at h; cases h
    | true =>
      rw [e] at h
      rcases List.mem_cons.mp h with z | z
      · rw [z]; exact e
      · exact tw_all r c z
theorem tw_pre {p : Nat → Bool} : ∀ (s : List Nat), s = s.takeWhile p ++ s.drop (s.takeWhile p).length
  | [] => rfl
  | x :: r => by
    rw [List.takeWhile_cons]
    cases e : p x with
    | false => rfl
    | true => exact congrArg (x :: ·) (tw_pre r)
theorem endR_aln {s : List Nat} (h : endR s) : ∀ c, s.head? = some c → alnC c = false := by
  intro c e
  rcases h with z | z | z
  · rw [z] at e; cases e
  · rw [z] at e; cases e; rfl
  · rw [z] at e; cases e; rfl
theorem name_cases {n : List Nat} {ks : List Tr} (h : wf (.nd n ks) = true) : bigN n = true ∨ (leafN n = true ∧ ks = []) := by
  rw [wf] at h
  rcases Bool.or_eq_true_iff.mp (Bool.and_eq_true_iff.mp h).1 with z | z
  · exact .inl z
  · obtain ⟨a, b⟩ := Bool.and_eq_true_iff.mp z
    exact .inr ⟨a, List.isEmpty_iff.mp b⟩
theorem leaf_cases {n : List Nat} (h : leafN n = true) : n = [95] ∨ ∃ c, n = [c] ∧ digC c = true := by
  match n, h with
  | [c], h =>
    rcases Bool.or_eq_true_iff.mp (show (c == 95 || digC c) = true from h) with z | z
    · rw [beq_iff_eq.mp z]; exact .inl rfl
    · exact .inr ⟨c, rfl, z⟩
theorem dig_aln {c : Nat} (h : digC c = true) : alnC c = true := by
  unfold digC at h
  unfold alnC
  rw [h, Bool.or_true]
theorem big_ne {n : List Nat} (h : bigN n = true) : n ≠ [] := by
  rintro rfl
  cases h
/-! ### the program's machine -/
/-- the name at the beginning of s, [] if there is none -/
def nmOf (s : List Nat) : List Nat :=
  if s.head? = some 95 then [95] else if (bigN (s.takeWhile alnC) || leafN (s.takeWhile alnC)) = true then s.takeWhile alnC else []
structure Ms where
  stk : List (List Nat × List Tr)
  done : Option Tr
  pos : Nat
def stepM (l : List Nat) : Ms → Option Ms
  | ⟨stk, none, at_⟩ => if nmOf (l.drop at_) = [] then none else if bigN (nmOf (l.drop at_)) = true ∧ (l.drop (at_ + (nmOf (l.drop at_)).length)).head? = some 40 then some ⟨(nmOf (l.drop at_), []) :: stk, none, at_ + (nmOf (l.drop at_)).length + 1⟩
      else some ⟨stk, some (.nd (nmOf (l.drop at_)) []), at_ + (nmOf (l.drop at_)).length⟩
  | ⟨[], some d, at_⟩ => none
  | ⟨(n, ps) :: r, some d, at_⟩ => if (l.drop at_).head? = some 41 then some ⟨r, some (.nd n (ps ++ [d])), at_ + 1⟩
      else if (l.drop at_).take 2 = [44, 32] ∧ ps.length + 1 < 3 then some ⟨(n, ps ++ [d]) :: r, none, at_ + 2⟩ else none
theorem stepM_n (l : List Nat) (stk : List (List Nat × List Tr)) (i : Nat) : stepM l ⟨stk, none, i⟩ = if nmOf (l.drop i) = [] then none else if bigN (nmOf (l.drop i)) = true ∧ (l.drop (i + (nmOf (l.drop i)).length)).head? = some 40 then
    some ⟨(nmOf (l.drop i), []) :: stk, none, i + (nmOf (l.drop i)).length + 1⟩ else some ⟨stk, some (.nd (nmOf (l.drop i)) []), i + (nmOf (l.drop i)).length⟩ := by
  cases stk <;> rfl
theorem stepM_s (l : List Nat) (n : List Nat) (ps : List Tr) (r : List (List Nat × List Tr)) (d : Tr) (i : Nat) : stepM l ⟨(n, ps) :: r, some d, i⟩ = if (l.drop i).head? = some 41 then some ⟨r, some (.nd n (ps ++ [d])), i + 1⟩
    else if (l.drop i).take 2 = [44, 32] ∧ ps.length + 1 < 3 then some ⟨(n, ps ++ [d]) :: r, none, i + 2⟩ else none := rfl
def itM (l : List Nat) (s : Ms) : Nat → Option Ms
  | 0 => some s
  | n + 1 => (itM l s n).bind (stepM l)
def Rch (l : List Nat) (s s' : Ms) : Prop := ∃ n, itM l s n = some s'
theorem itM_add (l : List Nat) (s s' : Ms) (n : Nat) (h : itM l s n = some s') : ∀ m, itM l s (n + m) = itM l s' m
  | 0 => h
  | m + 1 => by
    show (itM l s (n + m)).bind (stepM l) = (itM l s' m).bind (stepM l)
    rw [itM_add l s s' n h m]
theorem Rch.refl {l : List Nat} {s : Ms} : Rch l s s := ⟨0, rfl⟩
theorem Rch.trans {l : List Nat} {s s1 s2 : Ms} (a : Rch l s s1) (b : Rch l s1 s2) : Rch l s s2 := by
  obtain ⟨n, hn⟩ := a
  obtain ⟨m, hm⟩ := b
  exact ⟨n + m, (itM_add l s s1 n hn m).trans hm⟩
theorem Rch.step {l : List Nat} {s s1 : Ms} (h : stepM l s = some s1) : Rch l s s1 := ⟨1, h⟩
theorem itM_dead {l : List Nat} {s s' : Ms} {n : Nat} (h : itM l s n = some s') (d : stepM l s' = none) : ∀ m, itM l s (n + 1 + m) = none
  | 0 => by
    show (itM l s n).bind (stepM l) = none
    rw [h]
    exact d
  | m + 1 => by
    show (itM l s (n + 1 + m)).bind (stepM l) = none
    rw [itM_dead h d m]
    rfl
/-- where it is stuck is told -/
theorem Rch.stuck {l : List Nat} {s s1 s2 : Ms} (a : Rch l s s1) (b : Rch l s s2) (h1 : stepM l s1 = none) (h2 : stepM l s2 = none) : s1 = s2 := by
  obtain ⟨n, hn⟩ := a
  obtain ⟨m, hm⟩ := b
  rcases Nat.lt_trichotomy n m with z | z | z
  · have := itM_dead hn h1 (m - (n + 1))
    rw [show n + 1 + (m - (n + 1)) = m by omega, hm] at this
    cases this
  · subst z
    rw [hn] at hm
    exact Option.some.inj hm
  · have := itM_dead hm h2 (n - (m + 1))
    rw [show m + 1 + (n - (m + 1)) = n by omega, hn] at this
    cases this
/-! ### it reads what is a term -/
theorem nmOf_wf {n s : List Nat} (h : bigN n = true ∨ leafN n = true) (hs : ∀ c, s.head? = some c → alnC c = false) : nmOf (n ++ s) = n := by
  have key : (∀ c ∈ n, alnC c = true) → n ≠ [] → n.head? ≠ some 95 → nmOf (n ++ s) = n := fun ha hne h95 => by
    unfold nmOf
    have e1 : (n ++ s).head? = n.head? := by
      cases n with
      | nil => exact absurd rfl hne
      | cons c r => rfl
    rw [e1, if_neg h95, tw_stop ha hs]
    have : (bigN n || leafN n) = true := by
      rcases h with z | z
      · rw [z]; rfl
      · rw [z, Bool.or_true]
    rw [if_pos this]
  rcases h with z | z
  · refine key (big_aln z) (big_ne z) ?_
    intro e
    cases n with
    | nil => cases e
    | cons c r =>
      have e' : c = 95 := Option.some.inj e
      have := big_aln z c List.mem_cons_self
      rw [e'] at this
      cases this
  · rcases leaf_cases z with e | ⟨c, e, hd⟩
    · rw [e]
      rfl
    · subst e
      refine key (fun x hx => by rw [List.mem_singleton.mp hx]; exact dig_aln hd) (List.cons_ne_nil _ _) ?_
      intro e
      have e' : c = 95 := Option.some.inj e
      rw [e'] at hd
      cases hd
theorem drop_app {l a b : List Nat} {i : Nat} (h : l.drop i = a ++ b) : l.drop (i + a.length) = b := by
  rw [← List.drop_drop, h, List.drop_left]
theorem take2 {a b : Nat} {s : List Nat} : (a :: b :: s).take 2 = [a, b] := rfl
mutual
theorem reads : ∀ (t : Tr), wf t = true → ∀ (l : List Nat) (stk : List (List Nat × List Tr)) (i : Nat) (s : List Nat), l.drop i = tm t ++ s → endR s → Rch l ⟨stk, none, i⟩ ⟨stk, some t, i + (tm t).length⟩
  | .nd n ks, hw, l, stk, i, s, hl, hs => by
    have hc := name_cases hw
    have hw' := hw
    rw [wf] at hw'
    obtain ⟨h3, h4⟩ := Bool.and_eq_true_iff.mp (Bool.and_eq_true_iff.mp hw').2
    cases ks with
    | nil =>
      rw [tm_leaf] at hl ⊢
      have hn : nmOf (l.drop i) = n := by
        rw [hl]
        exact nmOf_wf (hc.imp id fun z => z.1) (endR_aln hs)
      have ne : n ≠ [] := by
        rcases hc with z | z
        · exact big_ne z
        · intro e
          rw [e] at z
          cases z.1
      refine Rch.step ?_
      rw [stepM_n, hn, if_neg ne, if_neg]
      rintro ⟨_, h⟩
      rw [drop_app hl] at h
      rcases hs with z | z | z <;> rw [z] at h <;> cases h
    | cons k r =>
      have hb : bigN n = true := by
        rcases hc with z | z
        · exact z
        · cases z.2
      rw [tm_node] at hl ⊢
      have hl' : l.drop i = n ++ (40 :: (jn (tms (k :: r)) ++ 41 :: s)) := by
        rw [hl]
        simp
      have hn : nmOf (l.drop i) = n := by
        rw [hl']
        exact nmOf_wf (.inl hb) fun c e => by cases e; rfl
      have d1 := drop_app hl'
      have st : Rch l ⟨stk, none, i⟩ ⟨(n, []) :: stk, none, i + n.length + 1⟩ := by
        refine Rch.step ?_
        rw [stepM_n, hn, if_neg (big_ne hb), if_pos ⟨hb, by rw [d1]; rfl⟩]
      have d2 : l.drop (i + n.length + 1) = jn (tms (k :: r)) ++ 41 :: s := by
        rw [← List.drop_drop, d1]
        rfl
      have fin := readsL (k :: r) h4 l n [] stk (i + n.length + 1) s d2 (by have := Nat.le_of_ble_eq_true h3; simpa using this) (List.cons_ne_nil _ _)
      rw [List.nil_append] at fin
      have e : i + (n ++ 40 :: (jn (tms (k :: r)) ++ [41])).length = i + n.length + 1 + (jn (tms (k :: r))).length + 1 := by
        simp
        omega
      rw [e]
      exact st.trans fin
theorem readsL : ∀ (ks : List Tr), wfs ks = true → ∀ (l n : List Nat) (ps : List Tr) (stk : List (List Nat × List Tr)) (i : Nat) (s : List Nat), l.drop i = jn (tms ks) ++ 41 :: s → ps.length + ks.length ≤ 3 → ks ≠ [] →
    Rch l ⟨(n, ps) :: stk, none, i⟩ ⟨stk, some (.nd n (ps ++ ks)), i + (jn (tms ks)).length + 1⟩
  | [], _, _, _, _, _, _, _, _, _, ne => absurd rfl ne
  | k :: r, hw, l, n, ps, stk, i, s, hl, h3, _ => by
    rw [wfs] at hw
    obtain ⟨h1, h2⟩ := Bool.and_eq_true_iff.mp hw
    have rr := readsL r h2
    cases r with
    | nil =>
      rw [tms, tms, jn] at hl ⊢
      have a := reads k h1 l ((n, ps) :: stk) i (41 :: s) hl (.inr (.inl rfl))
      refine a.trans (Rch.step ?_)
      rw [stepM_s, drop_app hl, if_pos (show (41 :: s).head? = some 41 from rfl)]
    | cons k2 r2 =>
      have e : jn (tms (k :: k2 :: r2)) = tm k ++ 44 :: 32 :: jn (tms (k2 :: r2)) := by rw [tms, tms, jn]
      rw [e] at hl ⊢
      have hl' : l.drop i = tm k ++ (44 :: 32 :: (jn (tms (k2 :: r2)) ++ 41 :: s)) := by
        rw [hl]
        simp
      have a := reads k h1 l ((n, ps) :: stk) i _ hl' (.inr (.inr rfl))
      have d1 := drop_app hl'
      have d2 : l.drop (i + (tm k).length + 2) = jn (tms (k2 :: r2)) ++ 41 :: s := by
        rw [← List.drop_drop, d1]
        rfl
      have b : Rch l ⟨(n, ps) :: stk, some k, i + (tm k).length⟩ ⟨(n, ps ++ [k]) :: stk, none, i + (tm k).length + 2⟩ := by
        refine Rch.step ?_
        have h4 : ps.length + (r2.length + 1 + 1) ≤ 3 := h3
        rw [stepM_s, d1, if_neg (show ¬ (44 :: 32 :: (jn (tms (k2 :: r2)) ++ 41 :: s)).head? = some 41 from fun z => nomatch (show some 44 = some 41 from z)), if_pos ⟨rfl, by omega⟩]
      have c := rr l n (ps ++ [k]) stk (i + (tm k).length + 2) s d2 (by
        rw [List.length_append]
        have : ps.length + (r2.length + 1 + 1) ≤ 3 := h3
        show ps.length + 1 + (r2.length + 1) ≤ 3
        omega) (List.cons_ne_nil _ _)
      rw [List.append_assoc] at c
      have e2 : i + (tm k ++ 44 :: 32 :: jn (tms (k2 :: r2))).length + 1 = i + (tm k).length + 2 + (jn (tms (k2 :: r2))).length + 1 := by
        simp
        omega
      rw [e2]
      exact (a.trans b).trans c
end
/-- stuck anywhere else: no term -/
theorem no_term {l : List Nat} {s : Ms} (h : Rch l ⟨[], none, 0⟩ s) (hs : stepM l s = none) (ne : ∀ t, s ≠ ⟨[], some t, l.length⟩) : ∀ t, wf t = true → l ≠ tm t := fun t hw e => by
  have a := reads t hw l [] 0 [] (by rw [List.append_nil]; exact e) (.inl rfl)
  rw [Nat.zero_add, ← e] at a
  exact ne t (Rch.stuck h a hs rfl)
/-! ### what it has read -/
def cxt : List (List Nat × List Tr) → List Nat
  | [] => []
  | (n, ps) :: r => cxt r ++ (n ++ 40 :: (ps.flatMap fun p => tm p ++ [44, 32]))
theorem jn_snoc (d : Tr) : ∀ ps : List Tr, (ps.flatMap fun p => tm p ++ [44, 32]) ++ tm d = jn (tms (ps ++ [d]))
  | [] => by
    show [] ++ tm d = jn (tms [d])
    rw [tms, tms, jn]
    rfl
  | p :: r => by
    have ih := jn_snoc d r
    rw [List.flatMap_cons, List.append_assoc, ih]
    show _ = jn (tms (p :: (r ++ [d])))
    rw [tms]
    cases e : r ++ [d] with
    | nil => cases r <;> cases e
    | cons k q =>
      rw [tms, jn]
      simp
structure SOk (l : List Nat) (s : Ms) : Prop where
  frames : ∀ f ∈ s.stk, bigN f.1 = true ∧ wfs f.2 = true ∧ f.2.length ≤ 2
  dwf : ∀ d, s.done = some d → wf d = true
  pre : l.take s.pos = cxt s.stk ++ (match s.done with | some d => tm d | none => [])
  le : s.pos ≤ l.length
/-- the room that terms take -/
theorem bigN_pos {n : List Nat} (h : bigN n = true) : 0 < n.length := by
  cases n with
  | nil => cases h
  | cons c r => exact Nat.succ_pos _
mutual
theorem tm_room : ∀ t : Tr, wf t = true → 3 * sz t ≤ (tm t).length + 2
  | .nd n ks, hw => by
    have hc := name_cases hw
    have hw' := hw
    rw [wf] at hw'
    obtain ⟨h3, h4⟩ := Bool.and_eq_true_iff.mp (Bool.and_eq_true_iff.mp hw').2
    have hn : 0 < n.length := by
      rcases hc with z | z
      · exact bigN_pos z
      · rw [leafN_len z.1]
        decide
    cases ks with
    | nil =>
      rw [tm_leaf, sz, szs]
      omega
    | cons k r =>
      have ih := tms_room (k :: r) h4 (List.cons_ne_nil _ _)
      rw [tm_node, sz, List.length_append, List.length_cons, List.length_append]
      show _ ≤ n.length + ((jn (tms (k :: r))).length + 1 + 1) + 2
      omega
theorem tms_room : ∀ ks : List Tr, wfs ks = true → ks ≠ [] → 3 * szs ks ≤ (jn (tms ks)).length + 2
  | [], _, n => absurd rfl n
  | k :: r, h, _ => by
    rw [wfs] at h
    obtain ⟨h1, h2⟩ := Bool.and_eq_true_iff.mp h
    have a := tm_room k h1
    have b := tms_room r h2
    cases r with
    | nil =>
      rw [tms, tms, jn, szs, szs]
      omega
    | cons k2 r2 =>
      have b := b (List.cons_ne_nil _ _)
      rw [tms, szs]
      rw [tms] at b ⊢
      rw [jn, List.length_append, List.length_cons, List.length_cons]
      omega
end
theorem SOk.start (l : List Nat) : SOk l ⟨[], none, 0⟩ := ⟨(fun f h => nomatch h), (fun d h => nomatch h), rfl, Nat.zero_le _⟩
theorem SOk.room {l : List Nat} {stk : List (List Nat × List Tr)} {d : Tr} {i : Nat} (h : SOk l ⟨stk, some d, i⟩) : 3 * sz d ≤ l.length + 2 := by
  have a := tm_room d (h.dwf d rfl)
  have b := congrArg List.length h.pre
  have c := h.le
  rw [List.length_take, List.length_append] at b
  show 3 * sz d ≤ l.length + 2
  dsimp only at b c
  omega
theorem SOk.fin {l : List Nat} {d : Tr} {i : Nat} (h : SOk l ⟨[], some d, i⟩) (hi : l.length ≤ i) : l = tm d := by
  have b := h.pre
  dsimp only at b
  rw [List.take_of_length_le hi] at b
  exact b
theorem nmOf_pre (s : List Nat) (h : nmOf s ≠ []) : (bigN (nmOf s) = true ∨ leafN (nmOf s) = true) ∧ ∃ r, s = nmOf s ++ r := by
  unfold nmOf at h ⊢
  by_cases e : s.head? = some 95
  · rw [if_pos e]
    refine ⟨.inr rfl, ?_⟩
    cases s with
    | nil => cases e
    | cons c r =>
      have e' : c = 95 := Option.some.inj e
      rw [e']
      exact ⟨r, rfl⟩
  · rw [if_neg e] at h ⊢
    by_cases z : (bigN (s.takeWhile alnC) || leafN (s.takeWhile alnC)) = true
    · rw [if_pos z]
      exact ⟨Bool.or_eq_true_iff.mp z, _, tw_pre s⟩
    · rw [if_neg z] at h
      exact absurd rfl h
theorem take_more {l a r : List Nat} {i : Nat} (h : l.drop i = a ++ r) : l.take (i + a.length) = l.take i ++ a := by
  rw [List.take_add, h, List.take_left]
theorem le_more {l a r : List Nat} {i : Nat} (h : l.drop i = a ++ r) (hi : i ≤ l.length) : i + a.length ≤ l.length := by
  have := congrArg List.length h
  rw [List.length_drop, List.length_append] at this
  omega
theorem head_cons {s : List Nat} {c : Nat} (h : s.head? = some c) : ∃ r, s = [c] ++ r := by
  cases s with
  | nil => cases h
  | cons x r =>
    rw [show x = c from Option.some.inj h]
    exact ⟨r, rfl⟩
theorem take2_cons {s : List Nat} {a b : Nat} (h : s.take 2 = [a, b]) : ∃ r, s = [a, b] ++ r := ⟨s.drop 2, by rw [← h, List.take_append_drop]⟩
/-- the state stays right, and the place grows -/
theorem SOk.step {l : List Nat} {s s' : Ms} (h : SOk l s) (e : stepM l s = some s') : SOk l s' ∧ s.pos < s'.pos := by
  obtain ⟨stk, done, i⟩ := s
  cases done with
  | none =>
    rw [stepM_n] at e
    by_cases h0 : nmOf (l.drop i) = []
    · rw [if_pos h0] at e
      cases e
    · rw [if_neg h0] at e
      obtain ⟨hn, r, hr⟩ := nmOf_pre _ h0
      generalize hnm : nmOf (l.drop i) = nm at h0 hn hr e
      have pos : 0 < nm.length := List.length_pos_iff.mpr h0
      have pre := h.pre
      dsimp only at pre
      rw [List.append_nil] at pre
      by_cases hb : bigN nm = true ∧ (l.drop (i + nm.length)).head? = some 40
      · rw [if_pos hb] at e
        cases e
        obtain ⟨r2, h2⟩ := head_cons hb.2
        refine ⟨⟨fun f hf => ?_, (fun d hd => nomatch hd), ?_, ?_⟩, show i < _ by dsimp only; omega⟩
        · rcases List.mem_cons.mp hf with rfl | hf
          · exact ⟨hb.1, by rw [wfs], Nat.zero_le _⟩
          · exact h.frames f hf
        · show l.take (i + nm.length + 1) = cxt ((nm, []) :: stk) ++ []
          rw [show i + nm.length + 1 = i + nm.length + [40].length from rfl, take_more h2, take_more hr, pre, cxt]
          simp
        · exact le_more h2 (le_more hr h.le)
      · rw [if_neg hb] at e
        cases e
        refine ⟨⟨h.frames, fun d hd => ?_, ?_, le_more hr h.le⟩, show i < _ by dsimp only; omega⟩
        · have : Tr.nd nm [] = d := Option.some.inj hd
          rw [← this, wf, wfs]
          rcases hn with z | z
          · rw [z]; rfl
          · rw [z]
            show ((bigN nm || true) && true) = true
            rw [Bool.or_true]
            rfl
        · show l.take (i + nm.length) = cxt stk ++ tm (.nd nm [])
          rw [take_more hr, pre, tm_leaf]
  | some d =>
    cases stk with
    | nil => cases e
    | cons f r =>
      obtain ⟨n, ps⟩ := f
      rw [stepM_s] at e
      have hd := h.dwf d rfl
      obtain ⟨f1, f2, f3⟩ := h.frames (n, ps) List.mem_cons_self
      have pre : l.take i = cxt ((n, ps) :: r) ++ tm d := h.pre
      have pre2 : l.take i = cxt r ++ (n ++ 40 :: jn (tms (ps ++ [d]))) := by
        rw [pre, cxt, ← jn_snoc]
        simp
      by_cases h1 : (l.drop i).head? = some 41
      · rw [if_pos h1] at e
        cases e
        obtain ⟨r2, h2⟩ := head_cons h1
        refine ⟨⟨fun f hf => h.frames f (List.mem_cons_of_mem _ hf), fun d' hd' => ?_, ?_, le_more h2 h.le⟩, show i < i + 1 by omega⟩
        · have : Tr.nd n (ps ++ [d]) = d' := Option.some.inj hd'
          rw [← this]
          refine bigN_wf f1 ?_ (wfs_snoc hd f2)
          rw [List.length_append]
          show ps.length + 1 ≤ 3
          dsimp only at f3
          omega
        · show l.take (i + [41].length) = cxt r ++ tm (.nd n (ps ++ [d]))
          rw [take_more h2, pre2]
          cases e : ps ++ [d] with
          | nil => cases ps <;> cases e
          | cons k q =>
            rw [tm_node]
            simp
      · rw [if_neg h1] at e
        by_cases h2 : (l.drop i).take 2 = [44, 32] ∧ ps.length + 1 < 3
        · rw [if_pos h2] at e
          cases e
          obtain ⟨r2, h3⟩ := take2_cons h2.1
          refine ⟨⟨fun f hf => ?_, (fun d' hd' => nomatch hd'), ?_, le_more h3 h.le⟩, show i < i + 2 by omega⟩
          · rcases List.mem_cons.mp hf with rfl | hf
            · refine ⟨f1, wfs_snoc hd f2, ?_⟩
              show (ps ++ [d]).length ≤ 2
              rw [List.length_append]
              show ps.length + 1 ≤ 2
              omega
            · exact h.frames f (List.mem_cons_of_mem _ hf)
          · show l.take (i + [44, 32].length) = cxt ((n, ps ++ [d]) :: r) ++ []
            rw [take_more h3, pre, cxt, cxt, List.flatMap_append]
            simp
        · rw [if_neg h2] at e
          cases e
end TW

namespace TW
/-! ## the law's reader: plain Lean -/
def nsep (c : Nat) : Bool := !(c == 32 || c == 40 || c == 41 || c == 44)
def lps (g : List Nat → Option (Tr × List Nat)) : Nat → List Tr → List Nat → Option (List Tr × List Nat)
  | 0, _, _ => none
  | k + 1, ps, s => match g s with
    | none => none
    | some (t, s') => if s'.head? = some 41 then some (ps ++ [t], s'.tail) else if s'.take 2 = [44, 32] then lps g k (ps ++ [t]) (s'.drop 2) else none
def lr : Nat → List Nat → Option (Tr × List Nat)
  | 0, _ => none
  | f + 1, s => if leafN (s.takeWhile nsep) = true then some (.nd (s.takeWhile nsep) [], s.drop (s.takeWhile nsep).length)
    else if bigN (s.takeWhile nsep) = false then none
    else if (s.drop (s.takeWhile nsep).length).head? ≠ some 40 then some (.nd (s.takeWhile nsep) [], s.drop (s.takeWhile nsep).length)
    else (lps (lr f) 3 [] (s.drop (s.takeWhile nsep).length).tail).map fun x => (.nd (s.takeWhile nsep) x.1, x.2)
theorem big_leaf {n : List Nat} (h : bigN n = true) : leafN n = false := by
  match n, h with
  | [], h => cases h
  | [c], h =>
    have z : capC c = true := by
      obtain ⟨h1, _⟩ := Bool.and_eq_true_iff.mp (show (capC c && [].all alnC && Nat.ble ([].length + 1) 8) = true from h)
      exact (Bool.and_eq_true_iff.mp h1).1
    unfold capC at z
    simp only [Bool.and_eq_true, Nat.ble_eq] at z
    show (c == 95 || digC c) = false
    have h1 : c ≠ 95 := by omega
    unfold digC
    have h2 : Nat.ble c 57 = false := by
      cases e : Nat.ble c 57 with
      | false => rfl
      | true =>
        have := Nat.le_of_ble_eq_true e
        omega
    rw [h2]
    simp [h1]
  | _ :: _ :: _, _ => rfl
theorem nsep_aln {c : Nat} (h : alnC c = true) : nsep c = true := by
  unfold alnC capC at h
  simp only [Bool.or_eq_true, Bool.and_eq_true, Nat.ble_eq] at h
  have h1 : c ≠ 32 := by omega
  have h2 : c ≠ 40 := by omega
  have h3 : c ≠ 41 := by omega
  have h4 : c ≠ 44 := by omega
  unfold nsep
  simp [h1, h2, h3, h4]
theorem name_nsep {n : List Nat} (h : bigN n = true ∨ leafN n = true) : ∀ c ∈ n, nsep c = true := by
  intro c hc
  rcases h with z | z
  · exact nsep_aln (big_aln z c hc)
  · rcases leaf_cases z with e | ⟨x, e, hd⟩
    · rw [e] at hc
      rw [List.mem_singleton.mp hc]
      rfl
    · rw [e] at hc
      rw [List.mem_singleton.mp hc]
      exact nsep_aln (dig_aln hd)
theorem endR_nsep {s : List Nat} (h : endR s) : ∀ c, s.head? = some c → nsep c = false := by
  intro c e
  rcases h with z | z | z
  · rw [z] at e; cases e
  · rw [z] at e; cases e; rfl
  · rw [z] at e; cases e; rfl
abbrev pc (l : List Nat) : Nat := l.countP (· == 40)
theorem pc_mid (a b : List Nat) : pc (a ++ b) = pc a + pc b := List.countP_append
mutual
theorem lr_tm : ∀ (t : Tr), wf t = true → ∀ (f : Nat) (s : List Nat), pc (tm t) < f → endR s → lr f (tm t ++ s) = some (t, s)
  | .nd n ks, hw, 0, s, hf, hs => absurd hf (Nat.not_lt_zero _)
  | .nd n ks, hw, f + 1, s, hf, hs => by
    have hc := name_cases hw
    have hw' := hw
    rw [wf] at hw'
    obtain ⟨h3, h4⟩ := Bool.and_eq_true_iff.mp (Bool.and_eq_true_iff.mp hw').2
    have hc' : bigN n = true ∨ leafN n = true := hc.imp id fun z => z.1
    cases ks with
    | nil =>
      rw [tm_leaf]
      rw [lr, tw_stop (name_nsep hc') (endR_nsep hs), List.drop_left]
      by_cases hl : leafN n = true
      · rw [if_pos hl]
      · rw [if_neg hl]
        have hb : bigN n = true := by
          rcases hc' with z | z
          · exact z
          · exact absurd z hl
        rw [if_neg (by rw [hb]; decide), if_pos]
        intro z
        rcases hs with y | y | y <;> rw [y] at z <;> cases z
    | cons k r =>
      have hb : bigN n = true := by
        rcases hc with z | z
        · exact z
        · cases z.2
      rw [tm_node] at hf ⊢
      have e1 : n ++ 40 :: (jn (tms (k :: r)) ++ [41]) ++ s = n ++ (40 :: (jn (tms (k :: r)) ++ 41 :: s)) := by simp
      have e2 : pc (jn (tms (k :: r))) < f := by
        rw [pc_mid, pc, pc, List.countP_cons, List.countP_append] at hf
        have e40 : ((40 == 40) = true) := rfl
        rw [if_pos e40] at hf
        show List.countP _ _ < f
        omega
      rw [e1, lr, tw_stop (name_nsep (.inl hb)) (fun c e => by cases e; rfl), List.drop_left, if_neg (by rw [big_leaf hb]; decide), if_neg (by rw [hb]; decide), if_neg (fun z => z rfl)]
      show Option.map _ (lps (lr f) 3 [] (jn (tms (k :: r)) ++ 41 :: s)) = _
      rw [lps_tm (k :: r) h4 f 3 [] s e2 (by have := Nat.le_of_ble_eq_true h3; exact this) (List.cons_ne_nil _ _)]
      rfl
theorem lps_tm : ∀ (ks : List Tr), wfs ks = true → ∀ (f m : Nat) (ps : List Tr) (s : List Nat), pc (jn (tms ks)) < f → ks.length ≤ m → ks ≠ [] → lps (lr f) m ps (jn (tms ks) ++ 41 :: s) = some (ps ++ ks, s)
  | [], _, _, _, _, _, _, _, ne => absurd rfl ne
  | k :: r, hw, f, 0, ps, s, hf, hm, _ => absurd hm (Nat.not_succ_le_zero _)
  | k :: r, hw, f, m + 1, ps, s, hf, hm, _ => by
    rw [wfs] at hw
    obtain ⟨h1, h2⟩ := Bool.and_eq_true_iff.mp hw
    have rr := lps_tm r h2 f m
    cases r with
    | nil =>
      rw [tms, tms, jn] at hf ⊢
      rw [lps, lr_tm k h1 f (41 :: s) hf (.inr (.inl rfl))]
      show (if (41 :: s).head? = some 41 then _ else _) = _
      rw [if_pos (show (41 :: s).head? = some 41 from rfl)]
      rfl
    | cons k2 r2 =>
      have e : jn (tms (k :: k2 :: r2)) = tm k ++ 44 :: 32 :: jn (tms (k2 :: r2)) := by rw [tms, tms, jn]
      rw [e] at hf ⊢
      have e1 : tm k ++ 44 :: 32 :: jn (tms (k2 :: r2)) ++ 41 :: s = tm k ++ (44 :: 32 :: (jn (tms (k2 :: r2)) ++ 41 :: s)) := by simp
      have e2 : pc (tm k) < f ∧ pc (jn (tms (k2 :: r2))) < f := by
        rw [pc_mid, pc, pc, List.countP_cons, List.countP_cons] at hf
        constructor
        · show List.countP _ _ < f
          omega
        · show List.countP _ _ < f
          omega
      rw [e1, lps, lr_tm k h1 f _ e2.1 (.inr (.inr rfl))]
      show (if (44 :: 32 :: (jn (tms (k2 :: r2)) ++ 41 :: s)).head? = some 41 then _ else _) = _
      rw [if_neg (show ¬ (44 :: 32 :: (jn (tms (k2 :: r2)) ++ 41 :: s)).head? = some 41 from fun z => nomatch (show some 44 = some 41 from z))]
      rw [if_pos (show (44 :: 32 :: (jn (tms (k2 :: r2)) ++ 41 :: s)).take 2 = [44, 32] from rfl)]
      show lps (lr f) m (ps ++ [k]) (jn (tms (k2 :: r2)) ++ 41 :: s) = _
      rw [rr (ps ++ [k]) s e2.2 (Nat.le_of_succ_le_succ hm) (List.cons_ne_nil _ _), List.append_assoc]
      rfl
end
theorem lps_ok {g : List Nat → Option (Tr × List Nat)} (hg : ∀ s t s', g s = some (t, s') → wf t = true ∧ s = tm t ++ s') : ∀ (m : Nat) (ps : List Tr) (s : List Nat) (qs : List Tr) (s' : List Nat), lps g m ps s = some (qs, s') →
    ∃ ks, ks ≠ [] ∧ qs = ps ++ ks ∧ wfs ks = true ∧ s = jn (tms ks) ++ 41 :: s' ∧ ks.length ≤ m
  | 0, _, _, _, _, h => by cases h
  | m + 1, ps, s, qs, s', h => by
    rw [lps] at h
    cases e : g s with
    | none => rw [e] at h; cases h
    | some x =>
      obtain ⟨t, s1⟩ := x
      rw [e] at h
      obtain ⟨hw, hs⟩ := hg s t s1 e
      replace h : (if s1.head? = some 41 then some (ps ++ [t], s1.tail) else if s1.take 2 = [44, 32] then lps g m (ps ++ [t]) (s1.drop 2) else none) = some (qs, s') := h
      by_cases h1 : s1.head? = some 41
      · rw [if_pos h1] at h
        cases h
        obtain ⟨r, hr⟩ := head_cons h1
        refine ⟨[t], List.cons_ne_nil _ _, rfl, by rw [wfs, wfs, hw]; rfl, ?_, Nat.succ_le_succ (Nat.zero_le _)⟩
        rw [hs, hr, tms, tms, jn]
        rfl
      · rw [if_neg h1] at h
        by_cases h2 : s1.take 2 = [44, 32]
        · rw [if_pos h2] at h
          obtain ⟨ks, k1, k2, k3, k4, k5⟩ := lps_ok hg m (ps ++ [t]) (s1.drop 2) qs s' h
          refine ⟨t :: ks, List.cons_ne_nil _ _, by rw [k2, List.append_assoc]; rfl, by rw [wfs, hw, k3]; rfl, ?_, Nat.succ_le_succ k5⟩
          have e1 : s1 = 44 :: 32 :: s1.drop 2 := by
            obtain ⟨r, hr⟩ := take2_cons h2
            rw [hr]
            rfl
          cases ks with
          | nil => exact absurd rfl k1
          | cons k r =>
            rw [tms, hs, e1, k4]
            conv => rhs; rw [tms, jn]
            simp [tms]
        · rw [if_neg h2] at h
          cases h
theorem lr_ok : ∀ (f : Nat) (s : List Nat) (t : Tr) (s' : List Nat), lr f s = some (t, s') → wf t = true ∧ s = tm t ++ s'
  | 0, _, _, _, h => by cases h
  | f + 1, s, t, s', h => by
    rw [lr] at h
    have pre := tw_pre (p := nsep) s
    generalize s.takeWhile nsep = n at h pre
    generalize s.drop n.length = r at h pre
    by_cases h1 : leafN n = true
    · rw [if_pos h1] at h
      cases h
      refine ⟨Grew.leaf_ h1, ?_⟩
      rw [tm_leaf]
      exact pre
    · rw [if_neg h1] at h
      by_cases h2 : bigN n = false
      · rw [if_pos h2] at h
        cases h
      · rw [if_neg h2] at h
        have hb : bigN n = true := by
          cases z : bigN n with
          | true => rfl
          | false => exact absurd z h2
        by_cases h3 : r.head? ≠ some 40
        · rw [if_pos h3] at h
          cases h
          refine ⟨bigN_wf hb (Nat.zero_le _) (by rw [wfs]), ?_⟩
          rw [tm_leaf]
          exact pre
        · rw [if_neg h3] at h
          cases e : lps (lr f) 3 [] r.tail with
          | none => rw [e] at h; cases h
          | some x =>
            obtain ⟨qs, s1⟩ := x
            rw [e] at h
            cases h
            obtain ⟨ks, k1, k2, k3, k4, k5⟩ := lps_ok (lr_ok f) 3 [] r.tail qs s1 e
            rw [List.nil_append] at k2
            subst k2
            refine ⟨bigN_wf hb k5 k3, ?_⟩
            obtain ⟨r2, hr⟩ := head_cons (Classical.byContradiction fun z => h3 z)
            rw [hr] at k4 pre
            cases qs with
            | nil => exact absurd rfl k1
            | cons k q =>
              rw [tm_node, pre, show ([40] ++ r2 : List Nat) = 40 :: r2 from rfl, show r2 = jn (tms (k :: q)) ++ 41 :: s1 from k4]
              simp
/-- a term has one tree -/
theorem tm_inj {t u : Tr} (ht : wf t = true) (hu : wf u = true) (e : tm t = tm u) : t = u := by
  have a := lr_tm t ht (pc (tm t) + 1) [] (Nat.lt_succ_self _) (.inl rfl)
  have b := lr_tm u hu (pc (tm u) + 1) [] (Nat.lt_succ_self _) (.inl rfl)
  rw [e, b] at a
  exact (congrArg Prod.fst (Option.some.inj a)).symm
end TW

namespace TW
open PySem PySem.Spec PyProof.Rows L2
/-! ### for in a generator's body -/
section
variable {M : Model} {A : Around} {R : GenEnd} {Y : Protocol} {n : Nat} {s₀ : Shared} {c : Code} {fs : List Frame} {s : Shared} {env : Env} {K : Flow → Sem PySem.Fin} {J : Value → Sem PySem.Fin} {gd : Bool → Bool} {lv : List Value → List Value}
theorem sg_for {tg iter : Expr} {body : List Stmt} {pos : Pos} (hs : ∀ x, foldedSetIterable iter env x = pure x)
    (h : wpAny M (A.over c fs) (eval iter env) (fun v s1 => wpAny M (A.over c fs) (pyIter v) (fun itv s2 => ∀ p, Seg M A R Y n s₀ (.forLoop tg itv body [] env) (M.den (.forLoop tg itv body [] env))
      (.ret (fun r => ((match r with | .ok f => (.pure f : Sem Flow) | .error e => .raise e).onRaise (cameBack env)).wrap K J gd lv) none (gd false) (lv []) c p [] :: fs) s2)
      (fun x s' => Seg M A R Y n s₀ c (J x) fs s') s1) (fun x s' => Seg M A R Y n s₀ c (J x) fs s') s) :
    Seg M A R Y n s₀ c ((exec (.For tg iter body [] pos) env).wrap K J gd lv) fs s := by
  rw [exec_For]
  refine seg_bind_wrap (wpAny_standAt ?_)
  refine seg_bind_wrap (wpAny_mono h (fun v s1 h1 => ?_) fun _ _ z => z)
  refine seg_bind_wrap (wpAny_of_eq (hs v) ?_)
  refine seg_bind_wrap (wpAny_standAt ?_)
  refine seg_bind_wrap (wpAny_holding (wpAny_mono h1 (fun itv s2 h2 => ?_) fun _ _ z => z))
  exact seg_call h2
end
section
variable {prog : Program} {w : World} {A : Around} {R : GenEnd} {Y : Protocol} {n : Nat} {s₀ : Shared} {fs : List Frame} {s : Shared} {env : Env}
/-- what is done with an exception in the loop's code -/
abbrev lotGoes (env : Env) (x : Value) : Sem PySem.Fin := (do noteFrame x env; theTreesLotGoes x : Sem Unit).wrap (fun _ => .raise x) .raise id id
theorem sg_turn {tg : Expr} {it : Value} {body : List Stmt}
    (h : wpAny (model prog w) (A.over (.forLoop tg it body [] env) fs) (pyNext it) (fun r s1 => match r with
      | none => Seg (model prog w) A R Y n s₀ (.forLoop tg it body [] env) (.pure (.again (.block [] env))) fs s1
      | some v => wpAny (model prog w) (A.over (.forLoop tg it body [] env) fs) (letOwnedTupleGo tg it v) (fun _ s2 => wpAny (model prog w) (A.over (.forLoop tg it body [] env) fs) (assign tg env v) (fun _ s3 =>
          Seg (model prog w) A R Y n s₀ (.forLoop tg it body [] env) ((execs body env).wrap (fun f => match f with
            | .next | .cont => .pure (.again (.forLoop tg it body [] env))
            | .brk => .pure (.done .next)
            | .ret v => .pure (.done (.ret v))) (lotGoes env) id id) fs s3)
          (fun x s' => Seg (model prog w) A R Y n s₀ (.forLoop tg it body [] env) (lotGoes env x) fs s') s2) (fun x s' => Seg (model prog w) A R Y n s₀ (.forLoop tg it body [] env) (lotGoes env x) fs s') s1)
      (fun x s' => Seg (model prog w) A R Y n s₀ (.forLoop tg it body [] env) (lotGoes env x) fs s') s) :
    Seg (model prog w) A R Y n s₀ (.forLoop tg it body [] env) ((model prog w).den (.forLoop tg it body [] env)) fs s := by
  show Seg _ A R Y n s₀ _ ((forTurn tg it body [] env).onRaise (fun x => do noteFrame x env; theTreesLotGoes x)) fs s
  have eH : ∀ e : Value, (do noteFrame e env; theTreesLotGoes e : Sem Unit).bind (fun _ => (.raise e : Sem PySem.Fin)) = lotGoes env e := fun e => Sem.bind_eq_wrap _ _
  rw [Sem.onRaise_eq_wrap]
  unfold forTurn
  refine seg_bind_wrap (wpAny_standAt ?_)
  refine seg_bind_wrap (wpAny_onRaise (wpAny_mono h (fun r s1 h1 => ?_) fun x s' hx => wpAny_standAt (by rw [eH]; exact hx)))
  cases r with
  | none => exact h1
  | some v =>
    refine seg_bind_wrap (wpAny_mono h1 (fun _ s2 h2 => ?_) fun x s' hx => by rw [eH]; exact hx)
    refine seg_bind_wrap (wpAny_mono h2 (fun _ s3 h3 => ?_) fun x s' hx => by rw [eH]; exact hx)
    rw [Sem.bind_eq_wrap', Sem.wrap_wrap]
    refine Eq.mpr (congrArg (fun t => Seg (model prog w) A R Y n s₀ (.forLoop tg it body [] env) t fs s3) (Sem.wrap_congr (execs body env) (fun g => id (id g)) (fun l => id (id l)) (K' := fun f => match f with
            | .next | .cont => .pure (.again (.forLoop tg it body [] env))
            | .brk => .pure (.done .next)
            | .ret v => .pure (.done (.ret v))) (H' := lotGoes env) (fun f => ?_) (fun e => ?_))) h3
    · cases f <;> rfl
    · exact eH e
theorem sg_block (h : Seg (model prog w) A R Y n s₀ (.block [] env) (.pure (.done .next)) fs s) : Seg (model prog w) A R Y n s₀ (.block [] env) ((model prog w).den (.block [] env)) fs s := h
end
section
variable {X : Cx}
def tGFor (wi : TI) (g : TG) (tb : TGn) : TGn := fun D ys σ H => wi σ H fun J H1 => ∃ W : Nat → Nat → List V → L2.St → Hp → Prop, (∃ m, W 0 m ys σ H1) ∧ ∀ i m ys σ H, W i m ys σ H →
  (J.stop i H ∧ D.nx ys σ H) ∨ (J.go i H ∧ ∃ N : List V → L2.St → Hp → Prop, (∀ ys' σ' H', N ys' σ' H' → ∃ m', m' < m ∧ W (i + 1) m' ys' σ' H') ∧ ∀ x H', J.yld i H x H' → g x σ H' fun σ2 H2 => tb { D with nx := N, ct := N, bk := D.nx } ys σ2 H2)
theorem gs_for {tg iter : Expr} {body : List Stmt} {pos : Pos} {wi : TI} {g : TG} {tb : TGn} (hp : PassesOwn (model X.prog X.w) X.A X.env X.xe) (hc : X.calm = true) (hi : PI X tg iter wi) (hg : PG X tg g) (hb : GSs X body tb)
    (hs : ∀ x, foldedSetIterable iter X.env x = pure x := by intro _; rfl) : GS X (.For tg iter body [] pos) (tGFor wi g tb) := by
  refine ⟨fun A S ip R n ys s₀ c fs K J gd lv s σ H D gc hn k hI ht => ?_⟩
  obtain ⟨acc, cc, r, I⟩ := hI
  refine sg_for hs ?_
  rw [gc.over]
  refine wpAny_mono (hi.run _ s σ H _ I ht) (fun v s1 h1 => wpAny_mono h1 (fun itv s2 h2 => ?_) fun x s' hx => k.exc n s₀ x s' hx) fun x s' hx => k.exc n s₀ x s' hx
  obtain ⟨it, fp, tn, Jt, H2, e, I2, T, st2, f2, W, ⟨m0, w0⟩, turn⟩ := h2
  subst e
  intro p
  have gl := fun (kk : Result → Sem PySem.Fin) => gc_loop (k := kk) (c' := .forLoop tg (.ref it) body [] X.env) (l := lv []) (kp := []) (p := p) gc rfl rfl
  -- the iterator's objects are none of the consumer's, none that are pinned
  have fpS : ∀ b ∈ fp, b ≠ S := fun b hb z => by
    have := (f2 b hb).2.2.2.2.2 (S, lstObj acc cc) (List.mem_append_right _ List.mem_cons_self)
    exact this z.symm
  have stat : ∀ {acc' : Array Value} {cc' : Nat} {H' : Hp}, (∀ b ∈ fp, H' b = none) → ∀ b ∈ fp, FpOk X ((S, lstObj acc' cc') :: ip) H' b := fun {acc' cc' H'} hn b hb => by
    obtain ⟨_, q1, q2, q3, q4, q5⟩ := f2 b hb
    refine ⟨hn b hb, q1, q2, q3, q4, fun z hz => ?_⟩
    rcases List.mem_append.mp hz with hz | hz
    · exact q5 z (List.mem_append_left _ hz)
    rcases List.mem_cons.mp hz with hz | hz
    · rw [hz]
      exact (fpS b hb).symm
    · exact q5 z (List.mem_append_right _ (List.mem_cons_of_mem _ hz))
  have ipS : ∀ (h : Heap), ∀ z ∈ ip ++ pinsAt fp h, z.1 ≠ S := fun h z hz => by
    rcases List.mem_append.mp hz with hz | hz
    · exact gc.ip z hz
    · exact fpS _ (of_pinsAt hz).1
  have ee : ∀ (n : Nat) (s₀ : Shared) (x : Value) (s' : Shared), X.xe x s' → Seg (model X.prog X.w) A R (GY X S) n s₀ (.forLoop tg (.ref it) body [] X.env) (lotGoes X.env x)
      (.ret (fun r => ((match r with | .ok f => (.pure f : Sem Flow) | .error e => .raise e).onRaise (cameBack X.env)).wrap K J gd lv) none (gd false) (lv []) c p [] :: fs) s' := fun n s₀ x s' hx => by
    refine seg_wrap ?_
    rw [(gl _).over]
    refine wpAny_bind (wpAny_mono (hp x s' hx) (fun _ s'' hcb => wpAny_theTreesLotGoes ?_) fun y s'' hcb => ?_)
    · exact seg_leaf (.error x) (seg_cameBack gc k hcb)
    · exact seg_leaf (.error y) (seg_cameBack gc k hcb)
  have loop : ∀ (m i n : Nat) (ys : List V) (s₀ s : Shared) (σ : L2.St) (H : Hp), n + ys.length = sizeLine → W i m ys σ H → GI X S ip ys σ H s → tn i s.heap → (∀ b ∈ fp, H b = none) →
      Seg (model X.prog X.w) A R (GY X S) n s₀ (.forLoop tg (.ref it) body [] X.env) ((model X.prog X.w).den (.forLoop tg (.ref it) body [] X.env))
        (.ret (fun r => ((match r with | .ok f => (.pure f : Sem Flow) | .error e => .raise e).onRaise (cameBack X.env)).wrap K J gd lv) none (gd false) (lv []) c p [] :: fs) s := by
    intro m
    induction m using Nat.strongRecOn with
    | ind m ih =>
      intro i n ys s₀ s σ H hn w hI st fr
      obtain ⟨acc3, cc3, r3, I3⟩ := hI
      refine sg_turn ?_
      rw [(gl _).over]
      rcases turn i m ys σ H w with ⟨stop, qn⟩ | ⟨go, N, hN, step⟩
      · refine wpAny_mono (T.done X rfl rfl rfl hc i _ s σ H X.xe I3 (stat fr) st stop) (fun r s4 z => ?_) fun x s' hx => ee n s₀ x s' hx
        obtain ⟨hr, I4⟩ := z
        subst hr
        exact seg_again rfl (sg_block (seg_leaf (.ok .next) (k.ok n ys s₀ s4 .next hn ⟨σ, H, ⟨acc3, cc3, r3, I4⟩, qn⟩)))
      · refine wpAny_mono (T.item X rfl rfl rfl hc i _ s σ H X.xe I3 (stat fr) st go) (fun r s4 z => ?_) fun x s' hx => ee n s₀ x s' hx
        obtain ⟨u, hr, h4⟩ := z
        subst hr
        refine wpAny_mono h4 (fun _ s5 z => ?_) fun x s' hx => ee n s₀ x s' hx
        obtain ⟨x, H5, I5, r5, y5, st5, fr5⟩ := z
        have I5' := I5.pinned (stat fr5) (T.obj _ _ st5)
        refine wpAny_mono (hg.run _ s5 σ H5 x u _ I5' r5 (step x H5 y5)) (fun _ s6 z => ?_) fun x s' hx => ee n s₀ x s' hx
        obtain ⟨σ6, H6, I6, q6⟩ := z
        have back : ∀ {ys7 : List V} {σ7 : L2.St} {H7 : Hp} {s7 : Shared}, GI X S (ip ++ pinsAt fp s5.heap) ys7 σ7 H7 s7 → GI X S ip ys7 σ7 H7 s7 ∧ tn (i + 1) s7.heap ∧ ∀ b ∈ fp, H7 b = none := fun {ys7 σ7 H7 s7} g7 => by
          obtain ⟨acc7, cc7, r7, I7⟩ := g7
          have I7 : Inv X (((S, lstObj acc7 cc7) :: ip) ++ pinsAt fp s5.heap) σ7 H7 s7 := I7
          refine ⟨⟨acc7, cc7, r7, I7.unpinned⟩, T.keep _ _ _ st5 fun b hb o e => (I7.pin (b, o) (List.mem_append_right _ (List.mem_append_right _ (mem_pinsAt hb e)))).1, fun b hb => ?_⟩
          obtain ⟨o, e, d⟩ := T.obj _ _ st5 b hb
          exact (I7.pin (b, o) (List.mem_append_right _ (List.mem_append_right _ (mem_pinsAt hb e)))).2.1
        refine hb.run A S (ip ++ pinsAt fp s5.heap) R n ys s₀ _ _ _ _ id id s6 σ6 H6 { D with nx := N, ct := N, bk := D.nx } { gl _ with ip := ipS s5.heap } hn ⟨fun n' ys' s₀' s7 f hn' hs => ?_, fun n' s₀' x s7 hx => ee n' s₀' x s7 hx⟩ ⟨acc3, cc3, r3, I6⟩ q6
        cases f with
        | next =>
          obtain ⟨σ7, H7, g7, n7⟩ := hs
          obtain ⟨b1, b2, b3⟩ := back g7
          obtain ⟨m', hm, w7⟩ := hN ys' σ7 H7 n7
          exact seg_again rfl (ih m' hm (i + 1) n' ys' s₀' s7 σ7 H7 hn' w7 b1 b2 b3)
        | cont =>
          obtain ⟨σ7, H7, g7, n7⟩ := hs
          obtain ⟨b1, b2, b3⟩ := back g7
          obtain ⟨m', hm, w7⟩ := hN ys' σ7 H7 n7
          exact seg_again rfl (ih m' hm (i + 1) n' ys' s₀' s7 σ7 H7 hn' w7 b1 b2 b3)
        | brk =>
          obtain ⟨σ7, H7, g7, n7⟩ := hs
          exact seg_leaf (.ok .next) (k.ok n' ys' s₀' s7 .next hn' ⟨σ7, H7, (back g7).1, n7⟩)
        | ret v =>
          obtain ⟨v7, σ7, H7, g7, r7, n7⟩ := hs
          exact seg_leaf (.ok (.ret v)) (k.ok n' ys' s₀' s7 (.ret v) hn' ⟨v7, σ7, H7, (back g7).1, r7, n7⟩)
  exact loop m0 0 n ys s₀ s2 σ H2 hn w0 ⟨acc, cc, r, I2⟩ st2 fun b hb => (f2 b hb).1
end
end TW

namespace TW
open PySem PySem.Spec PyProof.Rows L2
/-! ### two lists item by item -/
inductive All2 {α β : Type} (R : α → β → Prop) : List α → List β → Prop
  | nil : All2 R [] []
  | cons {a : α} {b : β} {as : List α} {bs : List β} : R a b → All2 R as bs → All2 R (a :: as) (b :: bs)
theorem All2.imp {α β : Type} {R R' : α → β → Prop} (h : ∀ a b, R a b → R' a b) : ∀ {as : List α} {bs : List β}, All2 R as bs → All2 R' as bs
  | _, _, .nil => .nil
  | _, _, .cons r t => .cons (h _ _ r) (All2.imp h t)
theorem All2.app {α β : Type} {R : α → β → Prop} : ∀ {as cs : List α} {bs ds : List β}, All2 R as bs → All2 R cs ds → All2 R (as ++ cs) (bs ++ ds)
  | _, _, _, _, .nil, h => h
  | _, _, _, _, .cons r t, h => .cons r (All2.app t h)
theorem All2.len {α β : Type} {R : α → β → Prop} : ∀ {as : List α} {bs : List β}, All2 R as bs → as.length = bs.length
  | _, _, .nil => rfl
  | _, _, .cons _ t => congrArg Nat.succ (All2.len t)
theorem All2.get {α β : Type} {R : α → β → Prop} : ∀ {as : List α} {bs : List β} {i : Nat} {a : α}, All2 R as bs → as[i]? = some a → ∃ b, bs[i]? = some b ∧ R a b
  | _, _, _, _, .nil, e => by simp at e
  | _, _, 0, _, .cons r _, e => by
    have := Option.some.inj e
    subst this
    exact ⟨_, rfl, r⟩
  | _, _, i + 1, _, .cons _ t, e => All2.get (i := i) t e
theorem All2.last {α β : Type} {R : α → β → Prop} : ∀ {as : List α} {bs : List β} {b : β}, All2 R as (bs ++ [b]) → ∃ as' a, as = as' ++ [a] ∧ All2 R as' bs ∧ R a b
  | _, [], _, .cons r .nil => ⟨[], _, rfl, .nil, r⟩
  | _, x :: bs, b, .cons r t => by
    obtain ⟨as', a, e, h1, h2⟩ := All2.last (bs := bs) t
    exact ⟨_ :: as', a, by rw [e]; rfl, .cons r h1, h2⟩
/-! ### the places of a tree -/
mutual
def wk : Tr → List Nat → List (List Nat × Tr)
  | .nd n ks, p => (p, .nd n ks) :: wks ks p 0
def wks : List Tr → List Nat → Nat → List (List Nat × Tr)
  | [], _, _ => []
  | t :: r, p, i => wk t (p ++ [i]) ++ wks r p (i + 1)
end
/-- the parts with their paths -/
def kd : List Tr → List Nat → Nat → List (List Nat × Tr)
  | [], _, _ => []
  | t :: r, p, i => (p ++ [i], t) :: kd r p (i + 1)
theorem wks_kd : ∀ (ks : List Tr) (p : List Nat) (i : Nat), wks ks p i = (kd ks p i).flatMap fun x => wk x.2 x.1
  | [], _, _ => rfl
  | t :: r, p, i => by rw [wks, wks_kd r p (i + 1)]; rfl
theorem kd_len : ∀ (ks : List Tr) (p : List Nat) (i : Nat), (kd ks p i).length = ks.length
  | [], _, _ => rfl
  | t :: r, p, i => congrArg Nat.succ (kd_len r p (i + 1))
theorem kd_get : ∀ (ks : List Tr) (p : List Nat) (i j : Nat) (t : Tr), ks[j]? = some t → (kd ks p i)[j]? = some (p ++ [i + j], t)
  | [], _, _, j, t, h => by simp at h
  | x :: r, p, i, 0, t, h => by
    have := Option.some.inj h
    subst this
    rfl
  | x :: r, p, i, j + 1, t, h => by
    have := kd_get r p (i + 1) j t h
    rw [show i + 1 + j = i + (j + 1) by omega] at this
    exact this
theorem wks_snoc (t : Tr) (p : List Nat) : ∀ (ks : List Tr) (i : Nat), wks (ks ++ [t]) p i = wks ks p i ++ wk t (p ++ [i + ks.length])
  | [], i => by
    show wks [t] p i = wks [] p i ++ wk t (p ++ [i + 0])
    rw [wks, wks, wks, List.append_nil]
    rfl
  | x :: r, i => by
    show wks (x :: (r ++ [t])) p i = wks (x :: r) p i ++ wk t (p ++ [i + (r.length + 1)])
    rw [wks, wks, wks_snoc t p r (i + 1), List.append_assoc, show i + 1 + r.length = i + (r.length + 1) by omega]
mutual
theorem wk_len : ∀ (t : Tr) (p : List Nat), (wk t p).length = sz t
  | .nd n ks, p => by
    rw [wk, sz, List.length_cons, wks_len ks p 0]
    omega
theorem wks_len : ∀ (ks : List Tr) (p : List Nat) (i : Nat), (wks ks p i).length = szs ks
  | [], _, _ => rfl
  | t :: r, p, i => by rw [wks, szs, List.length_append, wk_len t, wks_len r]
end
/-! ### paths as tuples -/
abbrev pathV (p : List Nat) : List V := p.map fun (n : Nat) => V.int (n : Int)
theorem rd_path {K : PySem.W.Frag} {σ : L2.St} {H : Hp} {Q : VK} {i j : Nat} {q : Addr} {p : List Nat} {k : Int} {kn : Nat} (hi : σ[i]? = some (some (.ref q))) (hj : σ[j]? = some (some (.int k))) (ek : k = (kn : Int)) (hq : H q = some (.tup (pathV p))) (hl : p.length ≤ 1000)
    (c : ∀ H' q', Same H H' → H' q' = some (.tup (pathV (p ++ [kn]))) → Q (.ref q') H') : tOp (rCatA K) (tVar i) (tTup (tCons (tVar j) tNil)) σ H Q := by
  subst ek
  refine ⟨.ref q, hi, .int kn, hj, szle, fun z nz => ?_⟩
  have s1 : Same H (upd H z (.tup [.int kn])) := Same.new nz
  refine ⟨q, z, pathV p, [.int kn], rfl, rfl, SqT.of (s1 _ _ hq), SqT.of upd_same, ?_, fun e => ?_, fun _ e => absurd e (List.cons_ne_nil _ _), fun _ _ y ny => ?_⟩
  · rw [List.length_map]
    exact Nat.le_trans (show p.length + 1 ≤ 1001 by omega) (by decide)
  · have e0 : p = [] := List.map_eq_nil_iff.mp e
    subst e0
    exact c _ z s1 upd_same
  · refine c _ y (s1.trans (Same.new ny)) ?_
    rw [upd_same, show pathV (p ++ [kn]) = pathV p ++ [.int kn] from List.map_append]
/-! ### the law's own walk -/
def WD (ok : Addr → Prop) (H : Hp) (v : V) (x : List Nat × Tr) : Prop := ∃ a q d, v = .ref a ∧ H a = some (.tup [.ref q, d]) ∧ H q = some (.tup (pathV x.1)) ∧ DU ok H d x.2
theorem WD.same {ok : Addr → Prop} {H H' : Hp} (s : Same H H') {v : V} {x : List Nat × Tr} (h : WD ok H v x) : WD ok H' v x := by
  obtain ⟨a, q, d, e, h1, h2, h3⟩ := h
  exact ⟨a, q, d, e, s _ _ h1, s _ _ h2, DU.same s h3⟩
end TW

namespace TW
open PySem PySem.Spec PyProof.Rows L2
theorem Kp.lst {H : Hp} {g : Addr} {xs ys : List V} (e : H g = some (.lst xs)) : Kp H (upd H g (.lst ys)) := fun b o h n => by
  have : b ≠ g := fun z => by
    rw [z, e] at h
    cases h
    exact n _ rfl
  rw [upd_ne this]
  exact h
def WO (C : Addr) (H : Hp) (v : V) (x : List Nat × Tr) : Prop := ∃ a q d, v = .ref a ∧ H a = some (.tup [.ref q, d]) ∧ H q = some (.tup (pathV x.1)) ∧ TO C H d x.2
theorem WO.kp {C : Addr} {H H' : Hp} (k : Kp H H') {v : V} {x : List Nat × Tr} (h : WO C H v x) : WO C H' v x := by
  obtain ⟨a, q, d, e, h1, h2, h3⟩ := h
  exact ⟨a, q, d, e, k _ _ h1 (fun _ z => nomatch z), k _ _ h2 (fun _ z => nomatch z), TO.kp k _ _ h3⟩
theorem All2.kp {C : Addr} {H H' : Hp} (k : Kp H H') {vs : List V} {xs : List (List Nat × Tr)} (h : All2 (WO C H) vs xs) : All2 (WO C H') vs xs := h.imp fun _ _ z => z.kp k
abbrev wkAll (W : List (List Nat × Tr)) : List (List Nat × Tr) := W.reverse.flatMap fun x => wk x.2 x.1
theorem wkAll_pop (W : List (List Nat × Tr)) (p : List Nat) (n : List Nat) (ks : List Tr) : wkAll (W ++ [(p, .nd n ks)]) = (p, .nd n ks) :: wkAll (W ++ (kd ks p 0).reverse) := by
  unfold wkAll
  rw [List.reverse_append, List.reverse_append, List.reverse_reverse, List.flatMap_append, List.flatMap_append, ← wks_kd]
  show wk (.nd n ks) p ++ [] ++ _ = _
  rw [wk, List.append_nil]
  rfl
abbrev szA (W : List (List Nat × Tr)) : Nat := szs (W.map (·.2))
theorem szA_app (W V : List (List Nat × Tr)) : szA (W ++ V) = szA W + szA V := by
  unfold szA
  rw [List.map_append, szs_app]
theorem kd_snd : ∀ (ks : List Tr) (p : List Nat) (i : Nat), (kd ks p i).map (·.2) = ks
  | [], _, _ => rfl
  | t :: r, p, i => congrArg (t :: ·) (kd_snd r p (i + 1))
theorem kd_rev (ks : List Tr) (p : List Nat) : szA (kd ks p 0).reverse = szs ks := by
  unfold szA
  rw [List.map_reverse, szs_rev, kd_snd]
theorem kd_mem : ∀ {ks : List Tr} {p : List Nat} {i : Nat} {x : List Nat × Tr}, x ∈ kd ks p i → x.2 ∈ ks ∧ x.1.length = p.length + 1
  | [], _, _, _, h => by cases h
  | t :: r, p, i, x, h => by
    rcases List.mem_cons.mp (show x ∈ (p ++ [i], t) :: kd r p (i + 1) from h) with e | e
    · rw [e]
      exact ⟨List.mem_cons_self, by simp⟩
    · obtain ⟨a, b⟩ := kd_mem e
      exact ⟨List.mem_cons_of_mem _ a, b⟩
def sp_walked (C : Addr) : Sp := fun vs H Q _ => ∃ v t, vs = [v] ∧ TO C H v t ∧ sz t ≤ 900 ∧ ∀ H' a us, Same H H' → H a = none → H' a = some (.lst us) → All2 (WO C H') us (wk t []) → Q (.ref a) H'
section
variable {P : Program} {w : World} {K : PySem.W.Frag} {mg : Str → Option Value} {base : Heap}
end
end TW

/-! an own error over an own class over ValueError: super().__init__(text), then one field -/
namespace PySem
namespace TWX
open PySem.W PySem.Calls PyProof.Rows PySem.HandSPX
def eA (f : Str) (p1 p2 : Pos) : Arguments := { posonlyargs := [], args := [{ arg := "self", annotation := none, pos := p1 }, { arg := f, annotation := none, pos := p2 }], vararg := none, kwonlyargs := [], kw_defaults := [], kwarg := none, defaults := [] }
def eB (f msg : Str) (j : Nat) (p0 p1 p2 p3 p4 p5 q1 q2 q3 q4 : Pos) : List Stmt :=
  [.Expr (.Call (.Attribute (.Call (.Name "super" p0) [] [] p1) "__init__" p2) [.Constant (.str msg) j p3] [] p4) p5, .Assign [.Attribute (.Name "self" q1) f q2] (.Name f q3) q4]
def eS (f : Str) : Scope := { kind := .function, names := [(PySem.Str.ofString "self", .local), (f, .local), (PySem.Str.ofString "__class__", .free), (PySem.Str.ofString "super", .globalImplicit)], isGenerator := false, isCoroutine := false, more := [] }
/-- the field's name is none of the def's other names -/
structure Fld (f : Str) : Prop where
  l1 : (eS f).names.lookup f = some .local
  l2 : (eS f).names.lookup ("super" : Str) = some .globalImplicit
  l3 : (eS f).names.lookup ("__class__" : Str) = some .free
  ns : f ≠ "self"
  nd : (f == ("__debug__" : Str)) = false
  bd : ∀ (p1 p2 : Pos) (q : Str) (bo : List Stmt) (doc pm : Value) (an : Option Addr) (cdv ct : Value) (cc : Addr) (a b : Value), bindArgs (ksFn "__init__" q (eA f p1 p2) bo (eS f) .none .none doc pm an cdv ct cc) ⟨[a, b], []⟩ = pure [(("self" : Str), a), (f, b)]
/-- what the written part says of the class at C, of its __init__ at fI, of the program -/
structure Err (prog : Program) (K : Frag) (mg : Str → Option Value) (C fI : Addr) (q f msg : Str) : Prop where
  cls : ∃ nm q N bs bm sn sub ab col dd k0 k1 k2 k3 k5, K.lookup C = some (excClassObj nm q C N bs bm true sn sub ab col dd k0 k1 k2 k3 k5 "ValueError.__new__") ∧ refsVE bm = true
  sa : findIn K (.ref C) "__setattr__" = some (some (.builtin "object.__setattr__"))
  no : findIn K (.ref C) f = some none
  iC : findIn K (.ref C) "__init__" = some (some (.ref fI))
  tC : typeIn K (.ref fI) = some (.type "function")
  kC : keepIn K (.ref C) = true
  exC : subIn K (.ref C) (.type "BaseException") = some true
  veC : subIn K (.ref C) (.type "ValueError") = some true
  tyC : typeIn K (.ref C) = some (.type "type")
  sup : ks_superIn K C C "__init__" = some (some (.builtin "ValueError.__init__"))
  me : mroIn K C (.ref C) = some true
  opq : nsIn K cStatics "thirdparty.any" = some none
  nosup : mg "super" = none
  top : (prog.main.scope.names.lookup ("super" : Str)).isSome = false
  fn : ∃ (oc : Value) (od : Option Addr) (doc pm : Value) (an : Option Addr) (ct : Value) (osl : Array (Option Value)) (cda cc : Addr) (j : Nat) (p1 p2 o0 o1 o2 o3 o4 o5 q1 q2 q3 q4 : Pos),
    K.lookup fI = some ⟨oc, od, .func (ksFn "__init__" q (eA f p1 p2) (eB f msg j o0 o1 o2 o3 o4 o5 q1 q2 q3 q4) (eS f) .none .none doc pm an (.ref cda) ct cc), osl⟩ ∧ codeIn K (.ref cda) q = true ∧
    (∃ cl cld csl, K.lookup cc = some ⟨cl, cld, .cell (some (.ref C)), csl⟩) ∧ ∃ ccl cdd vs ccs file tf, K.lookup cda = some ⟨ccl, cdd, .fields vs, ccs⟩ ∧ vs[2]? = some (.str file tf) ∧ ((prog.main.file : Str) == file) = true ∧ (o2.endLine == o4.line) = true
/-- what __init__ leaves of a fresh exception at x -/
structure End (h h' : Heap) (x C dx t1 : Addr) (f : Str) (v : Value) : Prop where
  keep : ∀ b o, b ≠ x → h.get? b = some o → h'.get? b = some o
  obj : h'.get? x = some { cls := .ref C, dict := some dx, data := .fields #[.ref t1, .none, .none, .none, .bool false, .none] }
  dbig : h.objs.size ≤ dx
  dne : dx ≠ x
  ns : h'.Ns1 dx (fun y => if y = f then some v else none)
structure Made (h h' : Heap) (e C d : Addr) (f : Str) (v : Value) : Prop where
  keep : ∀ b o, h.get? b = some o → h'.get? b = some o
  new : h.objs.size ≤ e
  obj : ∃ oe vs, h'.get? e = some oe ∧ oe.cls = .ref C ∧ oe.dict = some d ∧ oe.data = .fields vs ∧ vs[1]? = some .none
  dbig : h.objs.size ≤ d
  dne : d ≠ e
  ns : h'.Ns1 d (fun y => if y = f then some v else none)
theorem mc_line {o : Expr} {name : Str} {apos pos : Pos} {e : Expr} {env : Env} (hl : (apos.endLine == pos.line) = true) (hs : starEach [e] env = [(false, eval e env)]) :
    eval (.Call (.Attribute o name apos) [e] [] pos) env = (do
      let ov ← attributeBase o name env (eval o env)
      standAt apos.atName
      let (f, first) ← holding [ov] (getMethod ov name (do return (← importBound o env).getD true))
      callWith pos f first (backTo pos (starEach [e] env)) []) := by
  show (do
    let ov ← attributeBase o name env (eval o env)
    standAt apos.atName
    methodCall o name apos pos env ov 1 (backTo pos (starEach [e] env)) []) = _
  unfold methodCall methodCallPos
  rw [hl, hs]
  rfl
section
variable {prog : Program} {w : World} {A : Around} {E : Value → Shared → Prop} {R : Result → Shared → Prop} {s : Shared} {K : Frag} {mg : Str → Option Value} {base : Heap} {C fI : Addr} {q f msg : Str}
/-- super().__init__ called, bound -/
theorem call_mw {h : Heap} {g : Array GenState} {d : Drawn} {t : Nat} {os : OsState} {nm q : Str} {N u x t0 : Addr} {bs bm : List Value} {hdct : Bool} {sn : List Str} {sub : List Value} {ab : Bool} {col : Option Bool} {dd : Option Addr} {k0 k1 k2 k3 k5 : Option Value} {rest : List Value} {Q : Value → Shared → Prop}
    (hC : h.get? C = some (excClassObj nm q C N bs bm hdct sn sub ab col dd k0 k1 k2 k3 k5 "ValueError.__new__")) (hx : h.get? x = some (excO C t0)) (hu : h.get? u = some (kxs_mw "ValueError.__init__" x)) (hz : rest.length ≤ sizeLine)
    (hq : ∀ h' t1, (∀ b o, b ≠ x → h.get? b = some o → h'.get? b = some o) → h'.get? x = some (excO C t1) → Q .none ⟨h', g, d, t, os⟩) : wpAny (model prog w) A (call (.ref u) rest) Q E ⟨h, g, d, t, os⟩ := by
  refine wpAny_call (codeAny_of_tree ?_)
  show wpAny _ A.in1 (callAny (.ref u) ⟨rest, []⟩) _ _ _
  simp only [callAny]
  refine wpAny_bind (wpAny_load hu ?_)
  simp only [kxs_mw, show (Value.type "method-wrapper" == Value.type "method" || Value.type "method-wrapper" == Value.type "builtin_function_or_method" || Value.type "method-wrapper" == Value.type "method-wrapper") = true by decide, if_true]
  refine KFB.if_so (by decide) ?_
  refine wpAny_bind (check_bound_init F.excBase_ValueError.toExcCallFacts hC hx rfl ?_)
  refine wpAny_bind (wpAny_pure (wpAny_pure ?_))
  refine ⟨plainId_quiet F.excBase_ValueError.init.plain _, codeAny_builtin F.excBase_ValueError.initEntry ?_⟩
  exact exc_init_tree (cls := .ref C) (t0 := t0) (dv := none) (c2 := .none) (c3 := .none) (b4 := .bool false) hx hz fun h' k e' _ => hq h' _ k e'
theorem err_init (T : Err prog K mg C fI q f msg) (G : Fld f) (MB : L2.Mod K mg base) (bk : ∀ b o, base.get? b = some o → s.heap.get? b = some o) {x t0 : Addr} {v : Value} (hx : s.heap.get? x = some (excO C t0)) (hnx : base.get? x = none) (hroom : A.depth < recursionLimit)
    (hq : ∀ h' tk dx t1, End s.heap h' x C dx t1 f v → R (.ok (.ret .none)) { s with heap := h', toks := tk }) :
    codeAny (model prog w) A (.call (.ref fI) ⟨[.ref x, v], []⟩) R s := by
  obtain ⟨oc, od, doc, pm, an, ct, osl, cda, cc, j, p1, p2, o0, o1, o2, o3, o4, o5, q1, q2, q3, q4, ho, hcd, ⟨cl, cld, csl, hcell⟩, ccl, cdd, vs, ccs, file, tf, hcode, hvs, hfile, hline⟩ := T.fn
  obtain ⟨nm, q', N, bs, bm, sn, sub, ab, col, dd, k0, k1, k2, k3, k5, hC, hbm⟩ := T.cls
  have hcl : clsIn K C = some { name := nm, bases := bs, mro := .ref C :: bm, ns := N, qualname := q', hasDict := true, slotNames := sn, subclasses := sub, abstract := ab, collection := col, hasDel := false } := by unfold clsIn; rw [hC] <;> rfl
  have X : K.In s.heap := MB.kin.keeps bk
  refine ks_codeAny_call_defAt (fd := ksFn "__init__" q (eA f p1 p2) (eB f msg j o0 o1 o2 o3 o4 o5 q1 q2 q3 q4) (eS f) .none .none doc pm an (.ref cda) ct cc) (body := eB f msg j o0 o1 o2 o3 o4 o5 q1 q2 q3 q4) (binds := [(("self" : Str), .ref x), (f, v)])
    hroom (X _ _ ho) rfl (MB.nolimit.keeps bk) (codeRec_of X hcd) rfl (BindsTo.of_eq (G.bd ..)) ?_ ?_ (fun h₁ hn k => ?_) rfl rfl rfl
  · intro y hy
    rcases List.mem_cons.mp hy with rfl | hy
    · intro z; cases z
    rcases List.mem_cons.mp hy with rfl | hy
    · intro z; cases z
    rcases List.mem_cons.mp hy with rfl | hy
    · intro z; cases z
    rcases List.mem_cons.mp hy with rfl | hy
    · intro z; cases z
    cases hy
  · intro y hy
    rcases List.mem_cons.mp hy with rfl | hy
    · rfl
    rcases List.mem_cons.mp hy with rfl | hy
    · exact G.l1
    cases hy
  have m1 : List.lookup ("self" : Str) ([("self", Value.ref x), (f, v)] : List (Str × Value)).reverse = some (.ref x) := by
    show List.lookup ("self" : Str) ([(f, v), ("self", .ref x)] : List (Str × Value)) = _
    have : (("self" : Str) == f) = false := by simpa using (Ne.symm G.ns)
    simp [List.lookup, this]
  have m2 : List.lookup f ([("self", Value.ref x), (f, v)] : List (Str × Value)).reverse = some v := by
    show List.lookup f ([(f, v), ("self", .ref x)] : List (Str × Value)) = _
    simp [List.lookup]
  obtain ⟨mm, emm⟩ : ∃ mm : Str → Option Value, mm = fun y => List.lookup y ([("self", Value.ref x), (f, v)] : List (Str × Value)).reverse := ⟨_, rfl⟩
  have hn : h₁.Ns s.heap.objs.size mm := by rw [emm]; exact hn
  have m1 : mm "self" = some (.ref x) := by rw [emm]; exact m1
  have m2 : mm f = some v := by rw [emm]; exact m2
  have bk₁ : ∀ b o, base.get? b = some o → h₁.get? b = some o := fun b o e => k b o (bk b o e)
  have X₁ : K.In h₁ := MB.kin.keeps bk₁
  have hx₁ := k _ _ hx
  obtain ⟨s_h, s_g, s_d, s_t, s_o⟩ := s
  obtain ⟨mb, hb1, hb2⟩ := MB.blt
  have hz : s_h.objs.size < h₁.objs.size := hn.lt
  -- super().__init__(text)
  refine ks_wpAt_execs_cons (ks_wpAt_Expr_any (ks_wpAt_MethodCall (ks_wpAt_super_base (fd := ksFn "__init__" q (eA f p1 p2) (eB f msg j o0 o1 o2 o3 o4 o5 q1 q2 q3 q4) (eS f) .none .none doc pm an (.ref cda) ct cc) (ar := { arg := "self", annotation := none, pos := p1 }) G.l2 G.l3 (by decide) rfl (X₁ _ _ ho) rfl rfl rfl (X₁ _ _ hcode) rfl hvs hfile T.top ?_) (mc_line hline rfl)))
  refine ks_loadName_global rfl G.l2 (loadGlobal_builtin (MB.glob.keeps bk₁) T.nosup (hb1.keeps bk₁) ((hb2 _ (by decide)).trans (by first | boot_by_name | rfl | kernel_rfl)) ⟨rfl, ?_⟩)
  refine wpAny_loadName_free rfl G.l3 rfl ⟨_, X₁ _ _ hcell, rfl⟩ ?_
  refine wpAny_loadName_local rfl rfl hn m1 ?_
  refine ks_wpAny_isType_cls (X₁ _ _ hC) rfl ⟨rfl, ?_⟩
  refine ks_wpAny_call_super (X₁ _ _ hC) rfl hx₁ rfl (fun c e => by cases e) (looks_mroIn X₁ T.me) (fun h₂ e₂ kk₂ => ?_)
  have X₂ : K.In h₂ := X₁.keeps kk₂
  have hx₂ := kk₂ _ _ hx₁
  have I₂ : InstAt h₂ x (excO C t0) C none := ⟨hx₂, rfl, rfl, trivial⟩
  have hm : alongIn K "__init__" (((Value.ref C :: bm).dropWhile (· != .ref C)).drop 1) = some (some (.builtin "ValueError.__init__")) := by
    have z := T.sup
    unfold ks_superIn at z
    rw [hcl] at z
    exact z
  refine kxs_getMethod kxs_ValueError e₂ (looks_opaque X₂ T.opq) (l₀ := .ref C :: bm) (fun A Q E s k q => wpAny_bind ((looks_clsIn X₂ hcl) A _ E s k (wpAny_pure q))) rfl X₂ hm (I₂.type.andThen (looks_subIn X₂ T.veC)) (ks_ne X₂ I₂ hcl) (by decide) ?_
  refine kxs_callWith (i := "ValueError.__init__") (x := x) rfl (evalArgs_plain ?_)
  refine wpAny_mono (Q := fun vs s' => ∃ tk, vs = [.str msg tk] ∧ s' = ⟨h₂.push (kxs_mw "ValueError.__init__" x), s_g, s_d, tk + 1, s_o⟩) (E := fun _ _ => False) ?_ (fun vs s' z => ?_) fun _ _ z => z.elim
  · exact fun Γ p hΓ => ⟨_, rfl, rfl⟩
  obtain ⟨tk, rfl, rfl⟩ := z
  refine ⟨by show (h₂.push _).get? _ = _; heap_get, ?_⟩
  refine call_mw (Heap.get?_push_of_some _ (X₂ _ _ hC)) (Heap.get?_push_of_some _ hx₂) (by heap_get) (by show 1 ≤ sizeLine; rw [sizeLine_eq]; decide) (fun h₃ t1 k₃ hx₃ => ?_)
  -- self.f = f
  have k₁₃ : ∀ b o, b ≠ x → h₁.get? b = some o → h₃.get? b = some o := fun b o hb e => k₃ b o hb (Heap.get?_push_of_some _ (kk₂ b o e))
  have hn₃ : h₃.Ns s_h.objs.size mm := by
    obtain ⟨oL, es, ep, hL, r⟩ := hn
    exact ⟨oL, es, ep, k₁₃ _ _ (Nat.ne_of_gt (Heap.lt_size hx)) hL, r⟩
  have X₃ : K.In h₃ := fun a o e => k₁₃ a o (fun z => by rw [z] at e; have := MB.kin _ _ e; rw [hnx] at this; cases this) (X₁ a o e)
  refine ks_wpAt_execs_cons (ks_wpAt_Assign_Attr ?_)
  refine wpAt_of_wpAny (wpAny_Name (wpAny_loadName_local rfl G.l1 hn₃ m2 (wpAny_Name (wpAny_loadName_local rfl rfl hn₃ m1 ?_) (by decide))) G.nd)
  refine set_plain X₃ (ox := excO C t1) (od := none) ⟨hx₃, rfl, rfl, trivial⟩ T.sa ?_
  refine exc_osa X₃ hx₃ hcl (show refsVE (.ref C :: bm) = true from hbm) rfl T.no (fun h₄ tk₄ dx k₄ dn dne hx₄ hn₄ => ?_)
  have sz : s_h.objs.size ≤ dx := Nat.le_trans (Nat.le_of_lt (Nat.lt_of_lt_of_le hn₃.lt dn)) (Nat.le_refl _)
  exact wpAt_of_wpAny (wpAny_execs_nil (hq h₄ tk₄ dx t1 ⟨fun b o hb e => k₄ b o hb (k₁₃ b o hb (k b o e)), hx₄, sz, dne, hn₄⟩))
theorem err_made (T : Err prog K mg C fI q f msg) (G : Fld f) (MB : L2.Mod K mg base) (bk : ∀ b o, base.get? b = some o → s.heap.get? b = some o) {v : Value} (hroom : A.depth + 1 < recursionLimit)
    (hq : ∀ h' tk e d, Made s.heap h' e C d f v → R (.ok (.ret (.ref e))) { s with heap := h', toks := tk }) :
    codeAny (model prog w) A (.call (.ref C) ⟨[v], []⟩) R s := by
  obtain ⟨nm, q, N, bs, bm, sn, sub, ab, col, dd, k0, k1, k2, k3, k5, hC, hbm⟩ := T.cls
  have X : K.In s.heap := MB.kin.keeps bk
  obtain ⟨hp, g, dr, tk, os⟩ := s
  have k : ∀ b o, hp.get? b = some o → ((hp.push (kdv_tup [v])).push (excO C hp.objs.size)).get? b = some o := fun b o e => Heap.get?_push_of_some _ (Heap.get?_push_of_some _ e)
  have hget : ((hp.push (kdv_tup [v])).push (excO C hp.objs.size)).get? (hp.objs.size + 1) = some (excO C hp.objs.size) := by heap_get
  have hnx : base.get? (hp.objs.size + 1) = none := by
    cases e : base.get? (hp.objs.size + 1) with
    | none => rfl
    | some o => exact absurd (Nat.lt_of_succ_lt (Heap.lt_size (bk _ _ e))) (Nat.lt_irrefl _)
  refine call_own F.excBase_ValueError (fun X => refsVE_contains X bm hbm) (X _ _ hC) (looks_findIn X T.iC) (fun self => bind_fn X self T.tC) (by show 1 ≤ sizeLine; rw [sizeLine_eq]; decide) ?_
  refine err_init (s := ⟨(hp.push (kdv_tup [v])).push (excO C hp.objs.size), g, dr, tk, os⟩) T G MB (fun b o e => k b o (bk b o e)) hget hnx hroom fun h' tk' dx t1 ⟨k', hx, dn, dne, hns⟩ => ?_
  have old : ∀ b o, hp.get? b = some o → h'.get? b = some o := fun b o e => k' b o (Nat.ne_of_lt (Nat.lt_succ_of_lt (Heap.lt_size e))) (k b o e)
  have z : hp.objs.size + 1 + 1 ≤ dx := by
    have q := dn
    rw [Heap.size_push, Heap.size_push] at q
    exact q
  exact ⟨rfl, hq h' tk' (hp.objs.size + 1) dx ⟨old, Nat.le_succ _, ⟨_, _, hx, rfl, rfl, rfl, rfl⟩, Nat.le_trans (Nat.le_trans (Nat.le_succ _) (Nat.le_succ _)) z, dne, hns⟩⟩
end
end TWX
end PySem
namespace TW
open PySem PySem.Spec PyProof.Rows L2
theorem fld_term : PySem.TWX.Fld "term" := ⟨rfl, rfl, rfl, by decide, by decide, fun _ _ _ _ _ _ _ _ _ _ _ _ => by with_unfolding_all rfl⟩
theorem fld_path : PySem.TWX.Fld "path" := ⟨rfl, rfl, rfl, by decide, by decide, fun _ _ _ _ _ _ _ _ _ _ _ _ => by with_unfolding_all rfl⟩
end TW

namespace TW
open PySem PySem.Spec PyProof.Rows L2
theorem relO_one {v : V} {v' : Value} {n : Str} (r : RelV v v') (f : Str) : RelO (List.lookup f [(n, v)]) (if f = n then some v' else none) := by
  by_cases hw : f = n
  · subst hw
    rw [if_pos rfl]
    have q : List.lookup f [(f, v)] = some v := by simp [List.lookup]
    rw [q]
    exact r
  · rw [if_neg hw]
    have qw : (f == n) = false := by simpa using hw
    have q2 : List.lookup f [(n, v)] = none := by simp [List.lookup, qw]
    rw [q2]
    trivial
section
variable {X : Cx} {C fI : Addr} {q f msg : Str}
/-- C(e): the error's dict is laid, the error itself is let go -/
def tMkE (C : Addr) (f : Str) (ta : TA) : L2.St → Hp → XK → Prop := fun σ H Q => ta σ H fun vs H1 => ∃ v, vs = [v] ∧ ∀ d, H1 d = none → Q (.ref C) (some d) (upd H1 d (.xd [(f, v)]))
theorem pmk_err {a : Expr} {ta : TA} {x : Str} {p pos : Pos} (T : PySem.TWX.Err X.prog X.K X.mg C fI q f msg) (G : PySem.TWX.Fld f) (hr : Room 1 X.A) (hm : X.mg x = some (.ref C)) (ha : PA X [a] ta) (hg : Gl X x)
    (hdb : (x == ("__debug__" : Str)) = false := by decide) (he : starEach (a :: []) X.env = (false, eval a X.env) :: starEach [] X.env := by rfl) (hpl : (backTo pos (starEach [] X.env)).any (·.1) = false := by rfl) :
    PMk X (.Call (.Name x p) [a] [] pos) (tMkE C f ta) := by
  intro pins s σ H Q I h
  refine wpAny_Call_Name_kw (ld_glob I hg hm ?_ hdb)
  refine PySem.W.callWith_K (h₀ := X.base) I.ok.mod.kin T.kC (thn (ha.run pos pins s σ H _ I h) fun us s1 hh => ?_) he hpl
  obtain ⟨vs, H1, I1, r1, v, ev, q1⟩ := hh
  subst ev
  refine ⟨I1.kIn, ?_⟩
  cases r1 with
  | cons rv rn =>
    rename_i v' us'
    cases rn
    show wpAny _ _ (call (.ref C) [v']) _ _ _
    have bk := I1.bk
    obtain ⟨hp, g, dr, tk, os⟩ := s1
    refine wpAny_call (PySem.TWX.err_made T G I1.mod bk (by have := hr.dp; omega) fun h' tk' e d M => ?_)
    show MkP X pins σ Q (.ref e) ⟨h', g, dr, tk', os⟩
    obtain ⟨oe, fv, hoe, hc, hd, hdat, h1⟩ := M.obj
    have hns := M.ns
    obtain ⟨G', g1, g2⟩ := restrict h' fun b => decide (b ≠ e)
    have gk : ∀ b, b ≠ e → G'.get? b = h'.get? b := fun b hb => g1 b (decide_eq_true hb)
    have ge : G'.get? e = none := g2 e (by simp)
    have old : ∀ b o, hp.get? b = some o → G'.get? b = some o := fun b o q => (gk b (Nat.ne_of_lt (Nat.lt_of_lt_of_le (Heap.lt_size q) M.new))).trans (M.keep b o q)
    have ob : ObjOk X.prog X.w (upd H1 d (.xd [(f, v)])) G' d (.xd [(f, v)]) :=
      ⟨_, hns.at (fun o q => (gk d M.dne).trans q), fun g => relO_one rv g⟩
    have J : Inv X pins σ (upd H1 d (.xd [(f, v)])) ⟨G', g, dr, tk', os⟩ := I1.laid (t' := tk') old M.dbig ob
    refine ⟨e, oe, fv, ⟨G', g, dr, tk', os⟩, _, .ref C, some d, rfl, J, fun b o q => ?_, ge, hoe, ⟨hc, hd⟩, hdat, h1, ?_, rfl, I1.bare, raises_own T.exC T.tyC, q1 d (I1.hok.fresh M.dbig)⟩
    · by_cases hb : b = e
      · have q' : G'.get? b = some o := q
        rw [hb, ge] at q'; cases q'
      · exact (gk b hb).symm.trans q
    · rw [upd_ne (Ne.symm M.dne)]
      exact I1.hok.fresh M.new
/-- raise C(e) -/
def tRaiseE (C : Addr) (f : Str) (W : WX) (ta : TA) : TS := fun _ σ H => tMkE C f ta σ H fun cls d H' => W cls d σ H'
theorem ps_raiseE {a : Expr} {ta : TA} {W : WX} {x : Str} {p pos pos2 : Pos} (T : PySem.TWX.Err X.prog X.K X.mg C fI q f msg) (G : PySem.TWX.Fld f) (hr : Room 1 X.A) (hm : X.mg x = some (.ref C)) (hc : X.calm = true) (tk : Takes X W) (ha : PA X [a] ta) (hg : Gl X x)
    (hdb : (x == ("__debug__" : Str)) = false := by decide) (he : starEach (a :: []) X.env = (false, eval a X.env) :: starEach [] X.env := by rfl) (hpl : (backTo pos (starEach [] X.env)).any (·.1) = false := by rfl) :
    PS X (.Raise (some (.Call (.Name x p) [a] [] pos)) none pos2) (tRaiseE C f W ta) := ps_raise hc tk (pmk_err T G hr hm ha hg hdb he hpl)
end
/-- isinstance(e, c), e the error with a dict that the suite holds -/
def rIsX (K : PySem.W.Frag) (a : Addr) (cls : Value) (d : Option Addr) (D : Addr) : List V → Hp → VK → Prop := fun xs H Q => ∃ (c : V) (cv : Value) (b : Bool) (dd : Addr) (fs : List (Str × V)), xs = [.ref a, c] ∧ (∀ u, RelV c u → u = cv) ∧ cls = .ref D ∧ d = some dd ∧ H dd = some (.xd fs) ∧
  PySem.W.kitOne K (.ref D) cv = some b ∧ Q (.bl b) H
theorem call_isX {X : Cx} {a D : Addr} {oe : Obj} {cls : Value} {d : Option Addr} {pn : List (Addr × Obj)} (C : ExcC X.K D) (hz : Zc cls d oe) (hf : ∃ vs, oe.data = .fields vs) : CallR (X.suite a ((a, oe) :: pn)) (.builtin "isinstance") (rIsX X.K a cls d D) := by
  intro pins s σ H xs us Q I r h
  obtain ⟨c, cv, b, dd, fs, rfl, hcv, rfl, rfl, ha, e, q⟩ := h
  cases r with
  | cons rx rr =>
    cases rr with
    | cons rt rr =>
      cases rr
      cases rx
      have ec := hcv _ rt
      subst ec
      obtain ⟨hget, _⟩ := I.pin (a, oe) (List.mem_append.mpr (.inl List.mem_cons_self))
      obtain ⟨vs, hv⟩ := hf
      have hx : ObjOk X.prog X.w H s.heap dd (.xd fs) := I.hok dd _ ha
      obtain ⟨mA, hns, hr⟩ := hx
      obtain ⟨od, ho, hl⟩ := lookIn_ns hns
      have J : PySem.W.InstAt s.heap a oe D (some od) := ⟨hget, hz.1, by unfold PySem.W.notCls; rw [hv] <;> rfl, by rw [hz.2]; exact ho⟩
      have hcl : (PySem.W.clsIn X.K D).isSome = true := by
        obtain ⟨cd, hc, _⟩ := PySem.W.any_some C.hd
        rw [hc]
        rfl
      exact PySem.W.kia_one (PySem.W.kitx_exc hcl C.hg C.hk C.hs C.ha C.hn C.ht C.hm) I.kIn J e (fun z => nomatch z) fun tk => ⟨.bl b, H, I.kept (t' := tk) fun _ _ z => z, rfl, q⟩
end TW

namespace TW
open PySem PySem.Spec PyProof.Rows L2
abbrev capS : Str := "ABCDEFGHIJKLMNOPQRSTUVWXYZ"
abbrev lowS : Str := "abcdefghijklmnopqrstuvwxyz"
abbrev fsS : Str := "abcdefghijklmnopqrstuvwxyz()[]<>+-*/.,;:!?=&|^~@#"
structure Tg (mg : Str → Option Value) : Prop where
  c_CAPITALS : ∃ u, mg "CAPITALS" = some u ∧ RelV (.str capS) u
  c_DIGITS : ∃ u, mg "DIGITS" = some u ∧ RelV (.str digS) u
  c_NAME_CHARACTERS : ∃ u, mg "NAME_CHARACTERS" = some u ∧ RelV (.str sgnS) u
  c_LONGEST_NAME : ∃ u, mg "LONGEST_NAME" = some u ∧ RelV (.int 8) u
  c_MOST_PARTS : ∃ u, mg "MOST_PARTS" = some u ∧ RelV (.int 3) u
  c_SMALL_LETTERS : ∃ u, mg "SMALL_LETTERS" = some u ∧ RelV (.str lowS) u
  c_SIGNS : ∃ u, mg "SIGNS" = some u ∧ RelV (.str fsS) u
  c_MOST_WANTS : ∃ u, mg "MOST_WANTS" = some u ∧ RelV (.int 3) u
  c_MOST_TREE_WANTS : ∃ u, mg "MOST_TREE_WANTS" = some u ∧ RelV (.int 2) u
  c_LONGEST_FORM : ∃ u, mg "LONGEST_FORM" = some u ∧ RelV (.int 8) u
theorem cap_in : ∀ c, c < 128 → decide (c ∈ capS.cps.toList) = capC c := by decide +kernel
theorem aln_in : ∀ c, c < 128 → decide (c ∈ sgnS.cps.toList) = alnC c := by decide +kernel
theorem dig_in : ∀ c, c < 128 → decide (c ∈ digS.cps.toList) = digC c := by decide +kernel
theorem aln_in2 : ∀ c, c < 128 → decide (c ∈ (capS ++ ("abcdefghijklmnopqrstuvwxyz0123456789" : Str)).cps.toList) = alnC c := by decide +kernel
/-- bigN, as both programs ask for it -/
theorem bigN_eq (n : List Nat) : bigN n = (decide (1 ≤ n.length) && decide (n.length ≤ 8) && ((n.head?.map capC).getD false && n.all alnC)) := by
  cases n with
  | nil => rfl
  | cons c r =>
    show (capC c && r.all alnC && Nat.ble (r.length + 1) 8) = (decide (1 ≤ r.length + 1) && decide (r.length + 1 ≤ 8) && (capC c && (alnC c && r.all alnC)))
    rw [decide_eq_true (show 1 ≤ r.length + 1 by omega)]
    cases e : capC c with
    | false => simp
    | true =>
      rw [aln_cap e]
      have : Nat.ble (r.length + 1) 8 = decide (r.length + 1 ≤ 8) := by
        by_cases h : r.length + 1 ≤ 8
        · rw [decide_eq_true h]
          exact Nat.ble_eq_true_of_le h
        · rw [decide_eq_false h]
          cases z : Nat.ble (r.length + 1) 8 with
          | false => rfl
          | true => exact absurd (Nat.le_of_ble_eq_true z) h
      rw [this]
      cases r.all alnC <;> cases decide (r.length + 1 ≤ 8) <;> rfl
def sp_big : Sp := fun vs H Q _ => ∃ n, vs = [.str (mk n)] ∧ (∀ c ∈ n, c < 128) ∧ n.length ≤ 5000 ∧ ∀ H', Same H H' → Q (.bl (bigN n)) H'
section
variable {P : Program} {w : World} {K : PySem.W.Frag} {mg : Str → Option Value} {base : Heap}
theorem ok_isbig (T : Tx K mg) (CC : Tg mg) : FnR P w K mg base CX0 1 (He.ga K "is_big") sp_big := by
  refine fnR0 T.d_is_big sc_is_big (fun _ _ _ _ _ _ us hl => match us, hl with | [_], _ => rfl) (fun vs H Q E h => ?_) (fun cdv A outer s H vs Q E hr h => ?_)
  · obtain ⟨n, rfl, _⟩ := h
    rfl
  · obtain ⟨n, rfl, ha, hl, c⟩ := h
    refine ⟨_, (pss_cons (ps_if (PW.pt (pw_or (pt_not (pt_chain op_le op_le pe_int (pe_callB call_len (by rfl) T.z_len (by decide +kernel) (pa_cons (pv 0) pa_nil)) (pe_gv (by rfl) CC.c_LONGEST_NAME))) (pw_or1 (pt_cmpR op_notIn_sign (pe_ix ix_str (pv 0) pe_int (fun _ _ => rfl)) (pe_gv (by rfl) CC.c_CAPITALS) (by rfl)))))
(pss_one (ps_ret pe_bl))
pss_nil)
(pss_one (ps_ret (pe_callB (cr_all rfl) (by rfl) T.z_all (by decide +kernel) (pa_cons (pe_lc (own := [("char", 1)]) (g := gName 1) rfl sc_is_big.nd (pi_str (pv 0)) (blkOk_by (own := [("char", 1)]) (N := N_is_big) (sc := defScope s_is_big) (by decide +kernel)) (fun _ _ _ _ _ => pg_name (i := 1) sc_is_big.nd rfl (.inl rfl)) (fun _ _ _ _ _ => pts_nil) (fun _ _ _ _ _ => (pe_cmpR op_in_sign (pv 1) (pe_gv (by rfl) CC.c_NAME_CHARACTERS) (by rfl)))) pa_nil))))), ?_⟩
    have lz : (mk n).length ≤ sizeLine := by
      rw [mk_len]
      exact Nat.le_trans hl (by decide)
    have qs : ∀ b H', bigN n = b → Same H H' → Q (.bl b) H' := fun b H' e s => by
      rw [← e]
      exact c H' s
    rw [bigN_eq] at qs
    refine ⟨.str (mk n), rfl, .str (mk n), n.length, rfl, ⟨lz, (mk_len n).symm⟩, 1, n.length, rfl, rfl, _, rfl, ite2 (fun e => ?_) (fun e => ?_)⟩
    · have h1 : 1 ≤ n.length := by
        have := of_decide_eq_true e
        omega
      refine ⟨n.length, 8, rfl, rfl, _, rfl, ite2 (fun e2 => ?_) (fun e2 => ?_)⟩
      · have h8 : ¬ n.length ≤ 8 := fun z => by
          rw [decide_eq_true (show (n.length : Int) ≤ 8 by omega)] at e2
          cases e2
        exact iteT (qs false H (by rw [decide_eq_false h8, Bool.and_false]; rfl) (Same.refl _))
      have h8 : n.length ≤ 8 := by
        refine Decidable.byContradiction fun z => ?_
        rw [decide_eq_false (show ¬ (n.length : Int) ≤ 8 by omega)] at e2
        exact e2 rfl
      rw [decide_eq_true h1, decide_eq_true h8] at qs
      cases n with
      | nil => exact absurd h1 (Nat.not_succ_le_zero _)
      | cons c0 r =>
        refine ⟨.str (mk (c0 :: r)), rfl, mk (c0 :: r), 0, c0, rfl, rfl, lz, atI_nat (j := 0) rfl, c0, capS, rfl, rfl, _, rfl, ?_⟩
        rw [cap_in c0 (ha c0 List.mem_cons_self)]
        refine ite2 (fun e3 => ?_) (fun e3 => ?_)
        · exact qs false H (by
            show (true && true && (capC c0 && _)) = false
            cases z : capC c0 with
            | false => rfl
            | true => rw [z] at e3; cases e3) (Same.refl _)
        have hc : capC c0 = true := by
          cases z : capC c0 with
          | true => rfl
          | false => rw [z] at e3; exact absurd rfl e3
        refine ⟨.str (mk (c0 :: r)), rfl, mk (c0 :: r), rfl, fun D nD => ?_⟩
        have full : bigN (c0 :: r) = (c0 :: r).all alnC := by
          rw [bigN_eq, decide_eq_true h1, decide_eq_true h8]
          show (true && true && (capC c0 && _)) = _
          rw [hc]
          rfl
        generalize c0 :: r = n at *
        have g : ∀ (i : Nat) (x : Nat), (mk n).cps[i]? = some x → n[i]? = some x := fun i x h => by
          rw [← List.getElem?_toArray]
          exact h
        refine lc_it walk_str (fun i H3 => i ≤ n.length ∧ H3 = upd H D (.lst ((n.take i).map fun c => V.bl (alnC c)))) ⟨Nat.zero_le _, rfl⟩ (fun _ _ _ _ => trivial) ?_ ?_
        · rintro i x H3 H4 hi ⟨_, rfl⟩ ⟨rfl, c1, hc1, rfl⟩
          have gi := g i c1 hc1
          have hlt : i < n.length := (List.getElem?_eq_some_iff.mp gi).1
          refine ⟨rfl, ?_⟩
          unfold tYes
          dsimp only
          rw [if_pos rfl]
          refine ⟨_, rfl, c1, sgnS, rfl, rfl, _, upd_same, ?_, hlt, ?_⟩
          · rw [List.length_map, List.length_take]
            exact small1000 (by omega)
          · rw [upd_upd, aln_in c1 (ha c1 (List.mem_of_getElem? gi)), List.take_add_one, gi, List.map_append]
            rfl
        · rintro H3 ⟨_, rfl⟩
          rw [show (mk n).cps.size = n.length from rfl, List.take_length]
          refine ⟨D, n.map alnC, rfl, SqL.of (by rw [upd_same, List.map_map]; rfl), ?_⟩
          have e5 : (n.map alnC).all id = n.all alnC := by rw [List.all_map]; rfl
          rw [e5, ← full]
          exact c _ (Same.new nD)
    · have h1 : ¬ 1 ≤ n.length := fun z => e (decide_eq_true (by omega))
      exact ⟨false, rfl, iteT (qs false H (by rw [decide_eq_false h1]; rfl) (Same.refl _))⟩
end
end TW

namespace TW
open PySem PySem.Spec PyProof.Rows L2
/-! ### what is not reached -/
def tDead : TE := fun _ _ _ => False
theorem pe_dead {X : Cx} {e : Expr} : PE X e tDead := ⟨fun _ _ _ _ _ _ h => h.elim⟩
def tDeadS : TS := fun _ _ _ => False
theorem ps_dead {X : Cx} {st : Stmt} : PS X st tDeadS := ⟨fun _ _ _ _ _ _ h => h.elim⟩
theorem TO.same {C : Addr} {H H' : Hp} (s : Same H H') {v : V} {t : Tr} (h : TO C H v t) : TO C H' v t := TO.kp (Same.kp s) v t h
/-! ### a table's rows -/
abbrev digW : List Nat := [100, 105, 103, 105, 116]
structure Rw where
  kd : List Nat
  nm : List Nat
  ws : List (List Nat)
  fm : List Nat
abbrev CM (K : PySem.W.Frag) : Addr := He.ga K "Maker"
structure Tk (K : PySem.W.Frag) (mg : Str → Option Value) : Prop where
  v_Maker : mg "Maker" = some (.ref (CM K))
  cl : Cls K (CM K)
  a_kind : NoAttr K (CM K) "kind"
  a_name : NoAttr K (CM K) "name"
  a_wants : NoAttr K (CM K) "wants"
  a_form : NoAttr K (CM K) "form"
  mk_ : Mk K (CM K) (He.ma K (CM K) "__init__")
  d_init : DefAt K "__init__" "Maker.__init__" s_Maker_init (He.ma K (CM K) "__init__")
abbrev mfs (r : Rw) (p : Addr) : List (Str × V) := [("kind", .str (mk r.kd)), ("name", .str (mk r.nm)), ("wants", .ref p), ("form", .str (mk r.fm))]
/-- v is an instance of the class at C that is the row r -/
def MO (C : Addr) (H : Hp) (v : V) (r : Rw) : Prop := ∃ a dx p, v = .ref a ∧ H a = some (.ins C dx (mfs r p)) ∧ H p = some (.tup (strL r.ws))
theorem MO.kp {C : Addr} {H H' : Hp} (k : Kp H H') {v : V} {r : Rw} (h : MO C H v r) : MO C H' v r := by
  obtain ⟨a, dx, p, e, h1, h2⟩ := h
  exact ⟨a, dx, p, e, k _ _ h1 (fun _ z => nomatch z), k _ _ h2 (fun _ z => nomatch z)⟩
theorem MO.same {C : Addr} {H H' : Hp} (s : Same H H') {v : V} {r : Rw} (h : MO C H v r) : MO C H' v r := h.kp (Same.kp s)
theorem MOs.kp {C : Addr} {H H' : Hp} (k : Kp H H') {vs : List V} {rs : List Rw} (h : All2 (MO C H) vs rs) : All2 (MO C H') vs rs := h.imp fun _ _ z => z.kp k
theorem MOs.same {C : Addr} {H H' : Hp} (s : Same H H') {vs : List V} {rs : List Rw} (h : All2 (MO C H) vs rs) : All2 (MO C H') vs rs := MOs.kp (Same.kp s) h
def sp_minit (C : Addr) : Sp := fun vs H Q _ => ∃ (x dx p : Addr) (r : Rw), vs = [.ref x, .str (mk r.kd), .str (mk r.nm), .ref p, .str (mk r.fm)] ∧ H x = some (.ins C dx []) ∧
  ∀ H', (∀ b o, b ≠ x → H b = some o → H' b = some o) → H' x = some (.ins C dx (mfs r p)) → Q .non H'
/-! ### the first sign, the kinds -/
def stW (r : Rw) : List Nat := match r.fm with
  | [] => []
  | c :: _ => if digC c then digW else [c]
def sp_start (C : Addr) : Sp := fun vs H Q _ => ∃ v r, vs = [v] ∧ MO C H v r ∧ r.fm ≠ [] ∧ r.fm.length ≤ 1000 ∧ (∀ c ∈ r.fm, c < 128) ∧ Q (.str (mk (stW r))) H
/-- the kinds, each once, in order -/
def kdsF (acc : List (List Nat)) : List Rw → List (List Nat)
  | [] => acc
  | r :: rs => kdsF (if r.kd ∈ acc then acc else acc ++ [r.kd]) rs
abbrev kds (rs : List Rw) : List (List Nat) := kdsF [] rs
theorem kdsF_snoc (r : Rw) : ∀ (rs : List Rw) (acc : List (List Nat)), kdsF acc (rs ++ [r]) = if r.kd ∈ kdsF acc rs then kdsF acc rs else kdsF acc rs ++ [r.kd]
  | [], _ => rfl
  | x :: rs, acc => kdsF_snoc r rs _
theorem kdsF_len : ∀ (rs : List Rw) (acc : List (List Nat)), (kdsF acc rs).length ≤ acc.length + rs.length
  | [], acc => Nat.le_refl _
  | r :: rs, acc => by
    have h := kdsF_len rs (if r.kd ∈ acc then acc else acc ++ [r.kd])
    show (kdsF _ rs).length ≤ _
    have : (if r.kd ∈ acc then acc else acc ++ [r.kd]).length ≤ acc.length + 1 := by
      split
      · omega
      · rw [List.length_append]
        exact Nat.le_refl _
    rw [List.length_cons]
    omega
theorem in_strL (n : List Nat) (ws : List (List Nat)) : inV (.str (mk n)) (strL ws) = decide (n ∈ ws) := by
  induction ws with
  | nil => rfl
  | cons x r ih =>
    show ((mk x == mk n) || inV (.str (mk n)) (strL r)) = _
    rw [ih]
    by_cases h : x = n
    · subst h
      simp
    · have : (mk x == mk n) = false := by
        rw [beq_eq_false_iff_ne]
        exact fun z => h (mk_inj z)
      rw [this, Bool.false_or]
      have e : (n ∈ x :: r) ↔ n ∈ r := by
        constructor
        · intro z
          rcases List.mem_cons.mp z with z | z
          · exact absurd z.symm h
          · exact z
        · exact List.mem_cons_of_mem _
      simp [h, e, Ne.symm h]
theorem flat_strL (ws : List (List Nat)) : (strL ws).all flatV = true := by
  induction ws with
  | nil => rfl
  | cons x r ih => exact ih
def sp_kinds (C : Addr) : Sp := fun vs H Q _ => ∃ (a : Addr) (us : List V) (rs : List Rw), vs = [.ref a] ∧ H a = some (.lst us) ∧ All2 (MO C H) us rs ∧ rs.length ≤ 100 ∧ ∀ H' l, Same H H' → H l = none → H' l = some (.lst (strL (kds rs))) → Q (.ref l) H'
section
variable {P : Program} {w : World} {K : PySem.W.Frag} {mg : Str → Option Value} {base : Heap}
theorem ok_minit (T : Tx K mg) (M : Tk K mg) : FnR P w K mg base CX0 1 (He.ma K (CM K) "__init__") (sp_minit (CM K)) := by
  refine fnR0 M.d_init sc_Maker_init (fun _ _ _ _ _ _ us hl => match us, hl with | [_, _, _, _, _], _ => rfl) (fun vs H Q E h => ?_) (fun cdv A outer s H vs Q E hr h => ?_)
  · obtain ⟨x, dx, p, r, rfl, _⟩ := h
    rfl
  · obtain ⟨x, dx, p, r, rfl, hx, q⟩ := h
    refine ⟨_, (pss_cons (ps_fld (pv 0) (pv 1) rfl)
(pss_cons (ps_fld (pv 0) (pv 2) rfl)
(pss_cons (ps_fld (pv 0) (pv 3) rfl)
(pss_one (ps_fld (pv 0) (pv 4) rfl))))), ?_⟩
    have CL := M.cl
    refine ⟨_, rfl, .ref x, rfl, x, _, dx, _, rfl, hx, CL, M.a_kind, Nat.le_of_ble_eq_true rfl, ?_⟩
    refine ⟨_, rfl, .ref x, rfl, x, _, dx, _, rfl, upd_same, CL, M.a_name, Nat.le_of_ble_eq_true rfl, ?_⟩
    rw [upd_upd]
    refine ⟨_, rfl, .ref x, rfl, x, _, dx, _, rfl, upd_same, CL, M.a_wants, Nat.le_of_ble_eq_true rfl, ?_⟩
    rw [upd_upd]
    refine ⟨_, rfl, .ref x, rfl, x, _, dx, _, rfl, upd_same, CL, M.a_form, Nat.le_of_ble_eq_true rfl, ?_⟩
    rw [upd_upd]
    exact q _ (fun b o nb e => by rw [upd_ne nb]; exact e) (by rw [upd_same]; rfl)
theorem ok_start (T : Tx K mg) (M : Tk K mg) (CC : Tg mg) : FnR P w K mg base CX0 1 (He.ga K "start_of") (sp_start (CM K)) := by
  refine fnR0 T.d_start_of sc_start_of (fun _ _ _ _ _ _ us hl => match us, hl with | [_], _ => rfl) (fun vs H Q E h => ?_) (fun cdv A outer s H vs Q E hr h => ?_)
  · obtain ⟨v, r, rfl, _⟩ := h
    rfl
  · obtain ⟨v, r, rfl, hm, hne, hl, hc, q⟩ := h
    refine ⟨_, (pss_one (ps_ret (pe_ifExp (pt_cmpR op_in_sign (pe_ix ix_str (pe_fldK K (pv 0) rfl) pe_int (fun _ _ => rfl)) (pe_gv (by rfl) CC.c_DIGITS) (by rfl)) pe_str (pe_ix ix_str (pe_fldK K (pv 0) rfl) pe_int (fun _ _ => rfl))))), ?_⟩
    obtain ⟨a, dx, p, rfl, ha, hp⟩ := hm
    obtain ⟨kd, nm, ws, fm⟩ := r
    cases fm with
    | nil => exact absurd rfl hne
    | cons c f =>
      have lz : (mk (c :: f)).length ≤ sizeLine := by
        rw [mk_len]
        exact Nat.le_trans hl szle
      have c1 := hc c List.mem_cons_self
      have ed := dig_in c c1
      refine ⟨.ref a, rfl, a, _, dx, _, _, rfl, ha, M.cl, M.a_form, rfl, mk (c :: f), 0, c, rfl, rfl, lz, atI_nat (j := 0) rfl, c, digS, rfl, rfl, _, rfl, ?_⟩
      rw [ed]
      replace q : Q (.str (mk (if digC c then digW else [c]))) H := q
      refine ite2 (fun e => ?_) (fun e => ?_)
      · rw [if_pos e] at q
        exact q
      · rw [if_neg e] at q
        exact ⟨.ref a, rfl, a, _, dx, _, _, rfl, ha, M.cl, M.a_form, rfl, mk (c :: f), 0, c, rfl, rfl, lz, atI_nat (j := 0) rfl, q⟩
theorem ok_kinds (T : Tx K mg) (M : Tk K mg) : FnR P w K mg base CX0 1 (He.ga K "kinds_of") (sp_kinds (CM K)) := by
  refine fnR0 T.d_kinds_of sc_kinds_of (fun _ _ _ _ _ _ us hl => match us, hl with | [_], _ => rfl) (fun vs H Q E h => ?_) (fun cdv A outer s H vs Q E hr h => ?_)
  · obtain ⟨a, us, rs, rfl, _⟩ := h
    rfl
  · obtain ⟨a, us, rs, rfl, ha, hm, hl, q⟩ := h
    refine ⟨_, (pss_cons (ps_set (i := 1) sc_kinds_of.nd rfl (.inl rfl) (pe_lst pa_nil))
(pss_cons (ps_for PassesOwn.never rfl (pi_list (pv 0)) (pg_name (i := 2) sc_kinds_of.nd rfl (.inl rfl))
(pss_one (ps_if (pt_cmpR op_notIn_seq (pe_fldK K (pv 2) rfl) (pv 1) (by rfl))
(pss_one (ps_expr (pe_bm PySem.F.plainAttrs_list PySem.F.slot_list_append PySem.F.type_list_append mt_append (pv 1) (pa_cons (pe_fldK K (pv 2) rfl) pa_nil))))
pss_nil)))
(pss_one (ps_ret (pv 1))))), ?_⟩
    have ul : us.length = rs.length := hm.len
    refine ⟨szle, fun l nl => ?_⟩
    have s1 : Same H (upd H l (.lst [])) := Same.new nl
    refine ⟨.ref a, rfl, a, rfl, ⟨_, SqL.of (s1 _ _ ha)⟩, for_list (xs := us) (fun i σ H1 => ∃ y2, σ = [some (.ref a), some (.ref l), y2] ∧ Same H H1 ∧ H1 l = some (.lst (strL (kds (rs.take i))))) ⟨none, rfl, s1, upd_same⟩ ?_ ?_ ?_⟩
    · rintro i σ H1 _ ⟨y2, _, s2, _⟩
      exact SqL.of (s2 _ _ ha)
    · rintro i x σ H1 hx ⟨y2, rfl, s2, el⟩
      obtain ⟨r, er, hr1⟩ := hm.get hx
      have hr2 := hr1.same s2
      obtain ⟨b, dx, p, rfl, hb, hp⟩ := hr2
      refine ⟨.ref b, rfl, b, _, dx, _, _, rfl, hb, M.cl, M.a_kind, rfl, .ref l, rfl, l, _, rfl, .inl (SqL.of el), rfl, flat_strL _, _, rfl, ?_⟩
      rw [in_strL]
      have et : kds (rs.take (i + 1)) = if r.kd ∈ kds (rs.take i) then kds (rs.take i) else kds (rs.take i) ++ [r.kd] := by
        rw [take_get er]
        exact kdsF_snoc r _ _
      have kl := kdsF_len (rs.take i) []
      rw [List.length_take] at kl
      refine ite2 (fun e => ?_) (fun e => ?_)
      · have hn : ¬ r.kd ∈ kds (rs.take i) := fun z => by
          rw [decide_eq_true z] at e
          cases e
        rw [if_neg hn] at et
        refine ⟨.ref l, rfl, .inl ⟨rfl, _, SqL.of el⟩, .ref b, rfl, b, _, dx, _, _, rfl, hb, M.cl, M.a_kind, rfl, l, _, _, rfl, rfl, el, small1000 ?_, _, rfl, ?_, ?_⟩
        · rw [List.length_map]
          exact Nat.le_trans kl (by show 0 + _ ≤ 1000; omega)
        · intro b' o e'
          rw [upd_ne (ne_of_none e' nl)]
          exact s2 _ _ e'
        · rw [upd_same, et]
          show some (HO.lst (strL _ ++ strL [r.kd])) = _
          rw [← List.map_append]
      · have hy : r.kd ∈ kds (rs.take i) := by
          refine Decidable.byContradiction fun z => e ?_
          rw [decide_eq_false z]
          rfl
        rw [if_pos hy] at et
        exact ⟨_, rfl, s2, by rw [et]; exact el⟩
    · rintro σ H1 ⟨y2, rfl, s2, el⟩
      rw [ul, List.take_length] at el
      exact ⟨.ref l, rfl, q _ l s2 nl el⟩
end
end TW

namespace TW
open PySem PySem.Spec PyProof.Rows L2
/-- [f(c) for c in text], f pure -/
theorem szle14 {n : Nat} (h : Nat.ble n 1400 = true := by rfl) : n ≤ sizeLine := Nat.le_trans (Nat.le_of_ble_eq_true h) (by decide)
theorem small14 {n : Nat} (h : n ≤ 1400) : n < sizeLine := Nat.lt_of_le_of_lt h (by decide)
theorem lc_pureS {n : List Nat} {te : TE} {s : Nat} {σ : L2.St} {H1 : Hp} {D : Addr} {Qd : Hp → Prop} (g : Nat → V) (nD : H1 D = none) (small : n.length ≤ 1400)
    (h2 : ∀ x : V, wipe ((wipe σ [s]).set s (some x)) [s] = wipe σ [s]) (ht : ∀ (c : Nat) (H' : Hp) (Q : VK), c ∈ n → Same H1 H' → Q (g c) H' → te ((wipe σ [s]).set s (some (.str (mk [c])))) H' Q) (q : Qd (upd H1 D (.lst (n.map g)))) :
    LcGoal (Its (mk n)) (gName s) tYes te [s] σ H1 D Qd := by
  have sm : ∀ l : List V, Same H1 (upd H1 D (.lst l)) := fun l => Same.new nD
  have ge : ∀ (i : Nat) (x : Nat), (mk n).cps[i]? = some x → n[i]? = some x := fun i x h => by
    rw [← List.getElem?_toArray]
    exact h
  refine lc_it walk_str (fun i H3 => i ≤ n.length ∧ H3 = upd H1 D (.lst ((n.take i).map g))) ⟨Nat.zero_le _, rfl⟩ (fun _ _ _ _ => trivial) ?_ ?_
  · rintro i x H3 H4 hi ⟨_, rfl⟩ ⟨rfl, c1, hc1, rfl⟩
    have gi := ge i c1 hc1
    have hlt : i < n.length := (List.getElem?_eq_some_iff.mp gi).1
    refine ⟨h2 _, ?_⟩
    unfold tYes
    dsimp only
    rw [if_pos rfl]
    refine ht c1 _ _ (List.mem_of_getElem? gi) (sm _) ⟨_, upd_same, ?_, hlt, ?_⟩
    · rw [List.length_map, List.length_take]
      exact small14 (by omega)
    · rw [upd_upd, take_get gi, List.map_append]
      rfl
  · rintro H3 ⟨_, rfl⟩
    rw [show (mk n).cps.size = n.length from rfl, List.take_length]
    exact q
/-! ### small names -/
def lowC (c : Nat) : Bool := Nat.ble 97 c && Nat.ble c 122
def smallN : List Nat → Bool
  | [] => false
  | c :: r => lowC c && r.all (fun c => lowC c || digC c) && Nat.ble (r.length + 1) 8 && decide (c :: r ≠ digW)
theorem low_in : ∀ c, c < 128 → decide (c ∈ lowS.cps.toList) = lowC c := by decide +kernel
theorem lod_in : ∀ c, c < 128 → decide (c ∈ (lowS ++ digS).cps.toList) = (lowC c || digC c) := by decide +kernel
theorem lod_lt {c : Nat} (h : (lowC c || digC c) = true) : c < 128 := by
  unfold lowC digC at h
  simp only [Bool.or_eq_true, Bool.and_eq_true, Nat.ble_eq] at h
  omega
theorem smallN_of {n : List Nat} (h : smallN n = true) : n ≠ [] ∧ n.length ≤ 8 ∧ n ≠ digW ∧ (∀ c r, n = c :: r → lowC c = true) ∧ ∀ c ∈ n, (lowC c || digC c) = true := by
  cases n with
  | nil => cases h
  | cons c r =>
    rw [smallN] at h
    obtain ⟨h1, h2⟩ := Bool.and_eq_true_iff.mp h
    obtain ⟨h3, h4⟩ := Bool.and_eq_true_iff.mp h1
    obtain ⟨h5, h6⟩ := Bool.and_eq_true_iff.mp h3
    refine ⟨List.cons_ne_nil _ _, Nat.le_of_ble_eq_true h4, of_decide_eq_true h2, fun c' r' e => ?_, fun x hx => ?_⟩
    · rw [← (List.cons.inj e).1]
      exact h5
    · rcases List.mem_cons.mp hx with rfl | hx
      · rw [h5]
        rfl
      · exact List.all_eq_true.mp h6 x hx
theorem smallN_mk {n : List Nat} (h0 : 1 ≤ n.length) (h8 : n.length ≤ 8) (hd : n ≠ digW) (h1 : ∀ c r, n = c :: r → lowC c = true) (ha : ∀ c ∈ n, (lowC c || digC c) = true) : smallN n = true := by
  cases n with
  | nil => cases h0
  | cons c r =>
    rw [smallN, h1 c r rfl, List.all_eq_true.mpr fun x hx => ha x (List.mem_cons_of_mem _ hx), decide_eq_true hd]
    have e : Nat.ble (r.length + 1) 8 = true := Nat.ble_eq_true_of_le h8
    rw [e]
    rfl
def sp_small : Sp := fun vs H Q _ => ∃ n, vs = [.str (mk n)] ∧ (∀ c ∈ n, c < 128) ∧ n.length ≤ 1400 ∧ ∀ H', Same H H' → Q (.bl (smallN n)) H'
/-! ### forms -/
abbrev plc (n : Nat) : List Nat := [49, 50, 51].take n
structure FmOk (f : List Nat) (ws : List (List Nat)) : Prop where
  wl : ws.length ≤ 3
  lo : 1 ≤ f.length
  hi : f.length ≤ 8
  signs : ∀ c ∈ f, c ∈ fsS.cps.toList ∨ c ∈ plc ws.length
  once : ∀ p ∈ plc ws.length, cnt p f = 1
  first : ∀ c r, f = c :: r → c ∈ plc ws.length → ws[c - 49]? = some digW
theorem fs_lt : ∀ c ∈ fsS.cps.toList, c < 128 := by decide +kernel
theorem plc_sub {n c : Nat} (h : c ∈ plc n) : c = 49 ∨ c = 50 ∨ c = 51 := by
  have := List.mem_of_mem_take h
  simp at this
  exact this
theorem fm_lt {f : List Nat} {ws : List (List Nat)} (h : FmOk f ws) : ∀ c ∈ f, c < 128 := fun c hc => by
  rcases h.signs c hc with z | z
  · exact fs_lt c z
  · rcases plc_sub z with e | e | e <;> omega
theorem plc_idx {n c : Nat} (hn : n ≤ 3) (h : c ∈ plc n) : 49 ≤ c ∧ c - 49 < n := by
  have : n = 0 ∨ n = 1 ∨ n = 2 ∨ n = 3 := by omega
  rcases this with rfl | rfl | rfl | rfl
  · cases h
  · rcases List.mem_cons.mp (show c ∈ [49] from h) with rfl | h
    · decide
    · cases h
  · rcases List.mem_cons.mp (show c ∈ [49, 50] from h) with rfl | h
    · decide
    rcases List.mem_cons.mp h with rfl | h
    · decide
    · cases h
  · rcases List.mem_cons.mp (show c ∈ [49, 50, 51] from h) with rfl | h
    · decide
    rcases List.mem_cons.mp h with rfl | h
    · decide
    rcases List.mem_cons.mp h with rfl | h
    · decide
    · cases h
theorem cut_plc : ∀ n : Nat, n ≤ 3 → cutS digS (some 1) (some ((n : Int) + 1)) = mk (plc n) := by
  intro n hn
  have : n = 0 ∨ n = 1 ∨ n = 2 ∨ n = 3 := by omega
  rcases this with rfl | rfl | rfl | rfl <;> decide +kernel
theorem int_dig : ∀ c, c < 58 → 48 ≤ c → intText? (mk [c]) = some (((c - 48 : Nat) : Nat) : Int) := by decide +kernel
/-- is it a form? -/
def fmB (f : List Nat) (ws : List (List Nat)) : Bool := Nat.ble 1 f.length && (Nat.ble f.length 8 && (f.all (fun c => decide (c ∈ fsS.cps.toList ++ plc ws.length)) && ((plc ws.length).all (fun p => decide (cnt p f = 1)) && (match f with
  | [] => false
  | c :: _ => !decide (c ∈ plc ws.length) || decide (ws[c - 49]? = some digW)))))
theorem fmB_ok {f : List Nat} {ws : List (List Nat)} (wl : ws.length ≤ 3) (h : fmB f ws = true) : FmOk f ws := by
  unfold fmB at h
  obtain ⟨h1, h⟩ := Bool.and_eq_true_iff.mp h
  obtain ⟨h2, h⟩ := Bool.and_eq_true_iff.mp h
  obtain ⟨h3, h⟩ := Bool.and_eq_true_iff.mp h
  obtain ⟨h4, h5⟩ := Bool.and_eq_true_iff.mp h
  refine ⟨wl, Nat.le_of_ble_eq_true h1, Nat.le_of_ble_eq_true h2, fun c hc => List.mem_append.mp (of_decide_eq_true (List.all_eq_true.mp h3 c hc)), fun p hp => of_decide_eq_true (List.all_eq_true.mp h4 p hp), fun c r e hc => ?_⟩
  rw [e] at h5
  have h6 : (!decide (c ∈ plc ws.length) || decide (ws[c - 49]? = some digW)) = true := h5
  rw [decide_eq_true hc] at h6
  exact of_decide_eq_true h6
def sp_form : Sp := fun vs H Q _ => ∃ (f : List Nat) (ws : List (List Nat)) (p : Addr), vs = [.str (mk f), .ref p] ∧ H p = some (.tup (strL ws)) ∧ ws.length ≤ 3 ∧ (∀ c ∈ f, c < 128) ∧ f.length ≤ 1400 ∧ ∀ H', Same H H' → Q (.bl (fmB f ws)) H'
section
variable {P : Program} {w : World} {K : PySem.W.Frag} {mg : Str → Option Value} {base : Heap}
theorem ok_small (T : Tx K mg) (CC : Tg mg) : FnR P w K mg base CX0 1 (He.ga K "is_small") sp_small := by
  refine fnR0 T.d_is_small sc_is_small (fun _ _ _ _ _ _ us hl => match us, hl with | [_], _ => rfl) (fun vs H Q E h => ?_) (fun cdv A outer s H vs Q E hr h => ?_)
  · obtain ⟨n, rfl, _⟩ := h
    rfl
  · obtain ⟨n, rfl, hn, n1000, c⟩ := h
    refine ⟨_, (pss_cons (ps_if (PW.pt (pw_or (pt_not (pt_chain op_le op_le pe_int (pe_callB call_len (by rfl) T.z_len (by decide +kernel) (pa_cons (pv 0) pa_nil)) (pe_gv (by rfl) CC.c_LONGEST_NAME))) (pw_or (pt_cmpR op_notIn_sign (pe_ix ix_str (pv 0) pe_int (fun _ _ => rfl)) (pe_gv (by rfl) CC.c_SMALL_LETTERS) (by rfl)) (pw_or1 (pt_cmpR op_eq (pv 0) pe_str (nomark _))))))
(pss_one (ps_ret pe_bl))
pss_nil)
(pss_one (ps_ret (pe_callB (cr_all rfl) (by rfl) T.z_all (by decide +kernel) (pa_cons (pe_lc (own := [("char", 1)]) (g := gName 1) rfl sc_is_small.nd (pi_str (pv 0)) (blkOk_by (own := [("char", 1)]) (N := N_is_small) (sc := defScope s_is_small) (by decide +kernel)) (fun _ _ _ _ _ => pg_name (i := 1) sc_is_small.nd rfl (.inl rfl)) (fun _ _ _ _ _ => pts_nil) (fun _ _ _ _ _ => (pe_cmpR op_in_sign (pv 1) (pe_op op_add_str (pe_gv (by rfl) CC.c_SMALL_LETTERS) (pe_gv (by rfl) CC.c_DIGITS)) (by rfl)))) pa_nil))))), ?_⟩
    have lz : (mk n).length ≤ sizeLine := by
      rw [mk_len]
      exact Nat.le_trans n1000 szle14
    have no : (smallN n = true → False) → Q (.bl false) H := fun h => by
      have := c H (Same.refl _)
      rw [Bool.eq_false_iff.mpr h] at this
      exact this
    refine ⟨.str (mk n), rfl, .str (mk n), n.length, rfl, ⟨lz, (mk_len n).symm⟩, 1, n.length, rfl, rfl, _, rfl, ite2 (fun e1 => ?_) (fun e1 => ?_)⟩
    case refine_2 =>
      refine ⟨false, rfl, iteT (no fun h => e1 (decide_eq_true ?_))⟩
      have := List.length_pos_iff.mpr (smallN_of h).1
      omega
    have l1 : 1 ≤ n.length := by have := of_decide_eq_true e1; omega
    refine ⟨n.length, 8, rfl, rfl, _, rfl, ite2 (fun e2 => ?_) (fun e2 => ?_)⟩
    · refine no fun h => ?_
      have h8 := (smallN_of h).2.1
      rw [decide_eq_true (show (n.length : Int) ≤ 8 by omega)] at e2
      cases e2
    have l8 : n.length ≤ 8 := by
      refine Nat.le_of_not_lt fun z => e2 ?_
      rw [decide_eq_false (by omega)]
      rfl
    obtain ⟨c0, r, rfl⟩ : ∃ c0 r, n = c0 :: r := by
      cases n with
      | nil => cases l1
      | cons a b => exact ⟨a, b, rfl⟩
    refine ⟨.str (mk (c0 :: r)), rfl, mk (c0 :: r), 0, c0, rfl, rfl, lz, atI_nat (j := 0) rfl, c0, lowS, rfl, rfl, _, rfl, ?_⟩
    rw [low_in c0 (hn c0 List.mem_cons_self)]
    by_cases hl : lowC c0 = true
    case neg =>
      rw [Bool.eq_false_iff.mpr hl]
      exact iteT (no fun h => hl ((smallN_of h).2.2.2.1 c0 r rfl))
    rw [hl]
    refine iteF ?_
    refine ⟨.str (mk (c0 :: r)), rfl, rfl, _, rfl, ?_⟩
    by_cases hd : c0 :: r = digW
    · rw [show decide (V.str (mk (c0 :: r)) = V.str (Str.ofString "digit")) = true from by rw [hd]; decide +kernel]
      exact iteT (no fun h => (smallN_of h).2.2.1 hd)
    rw [show decide (V.str (mk (c0 :: r)) = V.str (Str.ofString "digit")) = false from decide_eq_false fun z => hd (mk_inj (V.str.inj z))]
    refine iteF ?_
    refine ⟨.str (mk (c0 :: r)), rfl, mk (c0 :: r), rfl, fun D nD => ?_⟩
    refine lc_pureS (n := c0 :: r) (fun x => .bl (lowC x || digC x)) nD n1000 (fun _ => rfl) (fun x H' Q' hx s' q' => ?_) ?_
    · refine ⟨_, rfl, lowS, digS, rfl, rfl, szle, x, lowS ++ digS, rfl, rfl, ?_⟩
      rw [lod_in x (hn x hx)]
      exact q'
    · refine ⟨D, (c0 :: r).map fun x => lowC x || digC x, rfl, SqL.of (by rw [upd_same, List.map_map]; rfl), ?_⟩
      have e : ((c0 :: r).map fun x => lowC x || digC x).all id = smallN (c0 :: r) := by
        cases h : smallN (c0 :: r) with
        | true =>
          refine List.all_eq_true.mpr fun b hb => ?_
          obtain ⟨x, hx, eb⟩ := List.mem_map.mp hb
          rw [← eb]
          exact (smallN_of h).2.2.2.2 x hx
        | false =>
          refine Bool.eq_false_iff.mpr fun z => ?_
          have : smallN (c0 :: r) = true := smallN_mk l1 l8 hd (fun c' r' e => by rw [← (List.cons.inj e).1]; exact hl) fun x hx => List.all_eq_true.mp z _ (List.mem_map_of_mem hx)
          rw [h] at this
          cases this
      rw [e]
      exact c _ (Same.new nD)
theorem ok_form (T : Tx K mg) (CC : Tg mg) : FnR P w K mg base CX0 1 (He.ga K "is_form") sp_form := by
  refine fnR0 T.d_is_form sc_is_form (fun _ _ _ _ _ _ us hl => match us, hl with | [_, _], _ => rfl) (fun vs H Q E h => ?_) (fun cdv A outer s H vs Q E hr h => ?_)
  · obtain ⟨f, ws, p, rfl, _⟩ := h
    rfl
  · obtain ⟨f, ws, p, rfl, hp, wl, hf, f1000, c⟩ := h
    refine ⟨_, (pss_cons (ps_set (i := 2) sc_is_form.nd rfl (.inr rfl) (pe_slice sl_str (pe_gv (by rfl) CC.c_DIGITS) (po_some pe_int) (po_some (pe_op op_add (pe_callB call_len (by rfl) T.z_len (by decide +kernel) (pa_cons (pv 1) pa_nil)) pe_int))))
(pss_cons (ps_if (PW.pt (pw_or (pt_not (pt_chain op_le op_le pe_int (pe_callB call_len (by rfl) T.z_len (by decide +kernel) (pa_cons (pv 0) pa_nil)) (pe_gv (by rfl) CC.c_LONGEST_FORM))) (pw_or1 (pt_not (pt_val (pe_callB (cr_all rfl) (by rfl) T.z_all (by decide +kernel) (pa_cons (pe_lc (own := [("char", 4)]) (g := gName 4) rfl sc_is_form.nd (pi_str (pv 0)) (blkOk_by (own := [("char", 4)]) (N := N_is_form) (sc := defScope s_is_form) (by decide +kernel)) (fun _ _ _ _ _ => pg_name (i := 4) sc_is_form.nd rfl (.inl rfl)) (fun _ _ _ _ _ => pts_nil) (fun _ _ _ _ _ => (pe_cmpR op_in_sign (pv 4) (pe_op op_add_str (pe_gv (by rfl) CC.c_SIGNS) (pv 2)) (by rfl)))) pa_nil)))))))
(pss_one (ps_ret pe_bl))
pss_nil)
(pss_cons (ps_if (pt_not (pt_val (pe_callB (cr_all rfl) (by rfl) T.z_all (by decide +kernel) (pa_cons (pe_lc (own := [("place", 3)]) (g := gName 3) rfl sc_is_form.nd (pi_str (pv 2)) (blkOk_by (own := [("place", 3)]) (N := N_is_form) (sc := defScope s_is_form) (by decide +kernel)) (fun _ _ _ _ _ => pg_name (i := 3) sc_is_form.nd rfl (.inl rfl)) (fun _ _ _ _ _ => pts_nil) (fun _ _ _ _ _ => (pe_cmpR op_eq (pe_m1 PySem.F.slot_str_count PySem.F.type_str_count mt_count (pv 0) (pv 3)) pe_int (nomark _)))) pa_nil))))
(pss_one (ps_ret pe_bl))
pss_nil)
(pss_one (ps_ret (pe_or (pe_cmpR op_notIn_sign (pe_ix ix_str (pv 0) pe_int (fun _ _ => rfl)) (pv 2) (by rfl)) (pe_one (pe_cmpR op_eq (pe_ix (r := rIxT K) ix_tup (pv 1) (pe_op op_sub (pe_callTy call_int_str (by rfl) T.z_int (by decide +kernel) (pa_cons (pe_ix ix_str (pv 0) pe_int (fun _ _ => rfl)) pa_nil)) pe_int) (fun _ _ => rfl)) pe_str (nomark _))))))))), ?_⟩
    have sl : (strL ws).length = ws.length := List.length_map _
    have lz : (mk f).length ≤ sizeLine := by
      rw [mk_len]
      exact Nat.le_trans f1000 szle14
    have f49 : fsS.length = 49 := by decide +kernel
    have pl : (plc ws.length).length ≤ 3 := by
      rw [List.length_take]
      show min _ 3 ≤ 3
      omega
    refine ⟨1, rfl, .ref p, rfl, .ref p, ws.length, rfl, .inr ⟨_, SqT.of hp, sl.symm⟩, ws.length, 1, rfl, rfl, _, rfl, digS, rfl, szle, ?_⟩
    rw [cut_plc ws.length wl]
    have no : ∀ H', Same H H' → fmB f ws = false → Q (.bl false) H' := fun H' s e => by
      have := c H' s
      rw [e] at this
      exact this
    refine ⟨.str (mk f), rfl, .str (mk f), f.length, rfl, ⟨lz, (mk_len f).symm⟩, 1, f.length, rfl, rfl, _, rfl, ite2 (fun e1 => ?_) (fun e1 => ?_)⟩
    case refine_2 =>
      refine ⟨false, rfl, iteT (no H (Same.refl _) ?_)⟩
      unfold fmB
      rw [show Nat.ble 1 f.length = false from Bool.eq_false_iff.mpr fun z => e1 (decide_eq_true (by have := Nat.le_of_ble_eq_true z; omega))]
      rfl
    have l1 : 1 ≤ f.length := by have := of_decide_eq_true e1; omega
    have b1 : Nat.ble 1 f.length = true := Nat.ble_eq_true_of_le l1
    refine ⟨f.length, 8, rfl, rfl, _, rfl, ite2 (fun e2 => ?_) (fun e2 => ?_)⟩
    · refine no H (Same.refl _) ?_
      unfold fmB
      rw [b1, show Nat.ble f.length 8 = false from Bool.eq_false_iff.mpr fun z => ?_]
      · rfl
      · have := Nat.le_of_ble_eq_true z
        rw [decide_eq_true (show (f.length : Int) ≤ 8 by omega)] at e2
        cases e2
    have l8 : f.length ≤ 8 := by
      refine Nat.le_of_not_lt fun z => e2 ?_
      rw [decide_eq_false (by omega)]
      rfl
    have b8 : Nat.ble f.length 8 = true := Nat.ble_eq_true_of_le l8
    have sel : ∀ c0 : Nat, decide (V.int (cnt c0 f) = V.int 1) = decide (cnt c0 f = 1) := fun c0 => by
      by_cases h : cnt c0 f = 1
      · rw [h, decide_eq_true rfl, decide_eq_true rfl]
      · rw [decide_eq_false h, decide_eq_false fun z => h (V.int.inj z)]
    refine ⟨.str (mk f), rfl, mk f, rfl, fun D nD => ?_⟩
    refine lc_pureS (n := f) (fun x => .bl (decide (x ∈ fsS.cps.toList ++ plc ws.length))) nD f1000 (fun _ => rfl) (fun x H' Q' hx s' q' => ?_) ?_
    · refine ⟨_, rfl, .str (mk (plc ws.length)), rfl, fsS, mk (plc ws.length), rfl, rfl, ?_, x, _, rfl, rfl, ?_⟩
      · rw [mk_len]
        exact Nat.le_trans (show fsS.length + (plc ws.length).length ≤ 1400 by omega) szle14
      · have e : (fsS ++ mk (plc ws.length)).cps.toList = fsS.cps.toList ++ plc ws.length := by
          rw [← mk_of fsS, mk_app]
          rfl
        rw [e]
        exact q'
    have nD1 := Same.new (o := .lst (f.map fun x => V.bl (decide (x ∈ fsS.cps.toList ++ plc ws.length)))) nD
    have al : ∀ (l : List Nat) (g : Nat → Bool), (l.map g).all id = l.all g := fun l g => by
      induction l with
      | nil => rfl
      | cons a l ih =>
        show (g a && (l.map g).all id) = (g a && l.all g)
        rw [ih]
    by_cases h3 : f.all (fun c => decide (c ∈ fsS.cps.toList ++ plc ws.length)) = true
    case neg =>
      refine ⟨D, f.map fun x => decide (x ∈ fsS.cps.toList ++ plc ws.length), rfl, SqL.of (by rw [upd_same, List.map_map]; rfl), false, by rw [al, Bool.eq_false_iff.mpr h3], iteT (no _ nD1 ?_)⟩
      unfold fmB
      rw [b1, b8, Bool.eq_false_iff.mpr h3]
      rfl
    refine ⟨D, f.map fun x => decide (x ∈ fsS.cps.toList ++ plc ws.length), rfl, SqL.of (by rw [upd_same, List.map_map]; rfl), true, by rw [al, h3], iteF ?_⟩
    refine ⟨.str (mk (plc ws.length)), rfl, mk (plc ws.length), rfl, fun D2 nD2 => ?_⟩
    refine lc_pureS (n := plc ws.length) (fun x => .bl (decide (cnt x f = 1))) nD2 (by omega) (fun _ => rfl) (fun x H' Q' hx s' q' => ?_) ?_
    · refine ⟨.str (mk f), rfl, ⟨_, rfl⟩, _, rfl, mk f, mk [x], rfl, rfl, rfl, ?_⟩
      rw [show Txt.count (mk f) (mk [x]) = cnt x f from count_cnt (mk f) x, sel]
      exact q'
    have s2 := nD1.trans (Same.new (o := .lst ((plc ws.length).map fun x => V.bl (decide (cnt x f = 1)))) nD2)
    by_cases h4 : (plc ws.length).all (fun p => decide (cnt p f = 1)) = true
    case neg =>
      refine ⟨D2, (plc ws.length).map fun x => decide (cnt x f = 1), rfl, SqL.of (by rw [upd_same, List.map_map]; rfl), false, by rw [al, Bool.eq_false_iff.mpr h4], iteT (no _ s2 ?_)⟩
      unfold fmB
      rw [b1, b8, h3, Bool.eq_false_iff.mpr h4]
      rfl
    refine ⟨D2, (plc ws.length).map fun x => decide (cnt x f = 1), rfl, SqL.of (by rw [upd_same, List.map_map]; rfl), true, by rw [al, h4], iteF ?_⟩
    obtain ⟨c0, r, rfl⟩ : ∃ c0 r, f = c0 :: r := by
      cases f with
      | nil => cases l1
      | cons a b => exact ⟨a, b, rfl⟩
    have fin : fmB (c0 :: r) ws = (!decide (c0 ∈ plc ws.length) || decide (ws[c0 - 49]? = some digW)) := by
      unfold fmB
      rw [b1, b8, h3, h4]
      rfl
    have q2 := c _ s2
    rw [fin] at q2
    refine ⟨.str (mk (c0 :: r)), rfl, mk (c0 :: r), 0, c0, rfl, rfl, lz, atI_nat (j := 0) rfl, .str (mk (plc ws.length)), rfl, c0, mk (plc ws.length), rfl, rfl, _, rfl, ?_⟩
    rw [show (mk (plc ws.length)).cps.toList = plc ws.length from rfl]
    by_cases hc : c0 ∈ plc ws.length
    · rw [decide_eq_true hc] at q2 ⊢
      refine iteF ?_
      have h1 := plc_idx wl hc
      have h5 := plc_sub hc
      obtain ⟨w0, ew0⟩ : ∃ w0, ws[c0 - 49]? = some w0 := ⟨_, List.getElem?_eq_getElem h1.2⟩
      refine ⟨.ref p, rfl, .str (mk (c0 :: r)), rfl, mk (c0 :: r), 0, c0, rfl, rfl, lz, atI_nat (j := 0) rfl, mk [c0], _, rfl, int_dig c0 (by omega) (by omega), (by rw [mk_len]; show 1 ≤ 640; decide), _, 1, rfl, rfl, p, strL ws, _, .str (mk w0), rfl, rfl, SqT.of (s2 _ _ hp), ?_, rfl, ?_⟩
      · rw [show (((c0 - 48 : Nat) : Nat) : Int) - 1 = ((c0 - 49 : Nat) : Int) by omega]
        refine atI_nat ?_
        rw [List.getElem?_map, ew0]
        rfl
      · rw [show decide (V.str (mk w0) = V.str (Str.ofString "digit")) = decide (ws[c0 - 49]? = some digW) from ?_]
        · exact q2
        · rw [ew0]
          by_cases e : w0 = digW
          · rw [e, decide_eq_true rfl]
            decide +kernel
          · rw [decide_eq_false (fun z => e (Option.some.inj z))]
            exact decide_eq_false (p := V.str (mk w0) = V.str (Str.ofString "digit")) fun z => e (mk_inj (V.str.inj z))
    · rw [decide_eq_false hc] at q2 ⊢
      exact iteT q2
end
end TW

namespace TW
open PySem PySem.Spec PyProof.Rows L2
abbrev CTb (K : PySem.W.Frag) : Addr := He.ga K "Table"
structure Tn (K : PySem.W.Frag) (mg : Str → Option Value) : Prop where
  v_Table : mg "Table" = some (.ref (CTb K))
  rd : ClX.CRead K (CTb K) (.type "type")
  most_kinds : ∃ u, ClX.CVal K (CTb K) (.type "type") "MOST_KINDS" (.int 3) u
/-- the wants that are kinds -/
abbrev trW (ws : List (List Nat)) : List (List Nat) := ws.filter fun w => decide (w ≠ digW)
/-- a row that is right behind those ahead of it -/
structure RwOk (bs : List Rw) (r : Rw) : Prop where
  kd : bigN r.kd = true
  nm : bigN r.nm = true
  ws : ∀ w ∈ r.ws, w ≠ digW → bigN w = true
  few : r.kd ∈ kds bs ∨ (kds bs).length ≠ 3
  new : r.nm ∉ bs.map (·.nm)
  trees : (trW r.ws).length ≤ 2
  fm : FmOk r.fm r.ws
theorem bigN_big {n : List Nat} (h : bigN n = true) : (∀ c ∈ n, c < 128) ∧ n.length ≤ 8 := ⟨name_ascii (.inl h), bigN_len h⟩
theorem dec_strW (a : List Nat) : decide (V.str (mk a) = V.str (Str.ofString "digit")) = decide (a = digW) := by
  by_cases h : a = digW
  · subst h
    decide +kernel
  · rw [decide_eq_false h]
    exact decide_eq_false (p := V.str (mk a) = V.str (Str.ofString "digit")) fun z => h (mk_inj (V.str.inj z))
theorem strL_app (as bs : List (List Nat)) : strL (as ++ bs) = strL as ++ strL bs := List.map_append
/-- why a row is not allowed behind those ahead of it -/
def namW : List Nat := [110, 97, 109, 101]
def kinW : List Nat := [107, 105, 110, 100, 115]
def repW : List Nat := [114, 101, 112, 101, 97, 116, 101, 100]
def parW : List Nat := [112, 97, 114, 116, 115]
def forW : List Nat := [102, 111, 114, 109]
def fltA (bs : List Rw) (r : Rw) : List Nat :=
  if (r.kd :: r.nm :: trW r.ws).all bigN = true then
    if r.kd ∉ kds bs ∧ (kds bs).length = 3 then kinW
    else if r.nm ∈ bs.map (·.nm) then repW
    else if 3 < r.ws.length ∨ 2 < (trW r.ws).length then parW
    else if fmB r.fm r.ws = true then [] else forW
  else namW
/-- a row of plain signs, of any words -/
structure RwS (r : Rw) : Prop where
  kd : (∀ c ∈ r.kd, c < 128) ∧ r.kd.length ≤ 1400
  nm : (∀ c ∈ r.nm, c < 128) ∧ r.nm.length ≤ 1400
  fm : (∀ c ∈ r.fm, c < 128) ∧ r.fm.length ≤ 1400
  ws : ∀ w ∈ r.ws, (∀ c ∈ w, c < 128) ∧ w.length ≤ 1400
  wl : r.ws.length ≤ 1390
theorem fltA_ok {bs : List Rw} {r : Rw} (h : fltA bs r = []) : RwOk bs r := by
  unfold fltA at h
  split at h
  case isFalse => cases h
  rename_i h1
  split at h
  · cases h
  rename_i h2
  split at h
  · cases h
  rename_i h3
  split at h
  · cases h
  rename_i h4
  split at h
  case isFalse => cases h
  rename_i h5
  have wl : r.ws.length ≤ 3 := Nat.le_of_not_lt fun z => h4 (.inl z)
  have a := List.all_eq_true.mp h1
  refine ⟨a _ List.mem_cons_self, a _ (List.mem_cons_of_mem _ List.mem_cons_self), fun w hw e => a w (List.mem_cons_of_mem _ (List.mem_cons_of_mem _ (List.mem_filter.mpr ⟨hw, decide_eq_true e⟩))), ?_, h3, Nat.le_of_not_lt fun z => h4 (.inr z), fmB_ok wl h5⟩
  by_cases k : r.kd ∈ kds bs
  · exact .inl k
  · exact .inr fun z => h2 ⟨k, z⟩
def sp_fault (C : Addr) : Sp := fun vs H Q _ => ∃ (a : Addr) (us : List V) (rs : List Rw) (i : Nat) (r : Rw), vs = [.ref a, .int i] ∧ H a = some (.lst us) ∧ All2 (MO C H) us rs ∧ rs.length ≤ 100 ∧ rs[i]? = some r ∧ RwS r ∧ ∀ H', Same H H' → Q (.str (mk (fltA (rs.take i) r))) H'
theorem All2.take {α β : Type} {R : α → β → Prop} : ∀ {as : List α} {bs : List β} (i : Nat), All2 R as bs → All2 R (as.take i) (bs.take i)
  | _, _, 0, _ => by rw [List.take_zero, List.take_zero]; exact .nil
  | _, _, i + 1, .nil => .nil
  | _, _, i + 1, .cons r t => .cons r (All2.take i t)
theorem cutV_to (xs : List V) (i : Nat) : cutV xs none (some (i : Int)) = xs.take i := by
  unfold cutV
  rw [HT.sIx_nat, HT.sIx_none, List.drop_zero, Nat.sub_zero]
  by_cases h : i ≤ xs.length
  · rw [Nat.min_eq_left h]
  · rw [Nat.min_eq_right (by omega), List.take_length, List.take_of_length_le (by omega)]
section
variable {P : Program} {w : World} {K : PySem.W.Frag} {mg : Str → Option Value} {base : Heap}
theorem ok_fault (T : Tx K mg) (M : Tk K mg) (N : Tn K mg) (CC : Tg mg) : FnR P w K mg base CX0 2 (He.ga K "fault_alone") (sp_fault (CM K)) := by
  have G_kinds_of : FnR P w K mg base CX0 1 (He.ga K "kinds_of") (sp_kinds (CM K)) := ok_kinds T M
  have G_is_big : FnR P w K mg base CX0 1 (He.ga K "is_big") sp_big := ok_isbig T CC
  have G_is_form : FnR P w K mg base CX0 1 (He.ga K "is_form") sp_form := ok_form T CC
  refine fnR0 T.d_fault_alone sc_fault_alone (fun _ _ _ _ _ _ us hl => match us, hl with | [_, _], _ => rfl) (fun vs H Q E h => ?_) (fun cdv A outer s H vs Q E hr h => ?_)
  · obtain ⟨a, us, rs, i, r, rfl, _⟩ := h
    rfl
  · obtain ⟨a, us, rs, i, r, rfl, ha, hm, hl, er, sn, q⟩ := h
    refine ⟨_, (pss_cons (ps_set (i := 2) sc_fault_alone.nd rfl (.inl rfl) (pe_ix (r := rIxL K) ix_list (pv 0) (pv 1) (fun _ _ => rfl)))
(pss_cons (ps_set (i := 3) sc_fault_alone.nd rfl (.inl rfl) (pe_slice sl_list (pv 0) po_none (po_some (pv 1))))
(pss_cons (ps_set (i := 4) sc_fault_alone.nd rfl (.inl rfl) (pe_cr G_kinds_of (hr.mono (by omega)) (by rfl) T.v_kinds_of T.k_kinds_of pass0 (pa_cons (pv 3) pa_nil)))
(pss_cons (ps_setLc (i := 5) (own := [("want", 6)]) (g := gName 6) rfl sc_fault_alone.nd rfl rfl (sw_true rfl rfl rfl (by decide +kernel)) (pi_tup (pe_fldK K (pv 2) rfl)) (blkOk_by (own := [("want", 6)]) (N := N_fault_alone) (sc := defScope s_fault_alone) (by decide +kernel)) (fun _ _ _ _ _ => pg_name (i := 6) sc_fault_alone.nd rfl (.inl rfl)) (fun _ _ _ _ _ => (pts_one (pt_cmpR op_ne (pv 6) pe_str (nomark _)))) (fun _ _ _ _ _ => (pv 6)))
(pss_cons (ps_if (pt_not (pt_val (pe_callB (cr_all rfl) (by rfl) T.z_all (by decide +kernel) (pa_cons (pe_lc (own := [("name", 8)]) (g := gName 8) rfl sc_fault_alone.nd (pi_list (pe_lst (pa_cons (pe_fldK K (pv 2) rfl) (pa_cons (pe_fldK K (pv 2) rfl) (StX.pa_star (pv 5) pa_nil))))) (blkOk_by (own := [("name", 8)]) (N := N_fault_alone) (sc := defScope s_fault_alone) (by decide +kernel)) (fun _ _ _ _ _ => pg_name (i := 8) sc_fault_alone.nd rfl (.inl rfl)) (fun _ _ _ _ _ => pts_nil) (fun _ _ _ _ _ => (pe_cr G_is_big (hr.mono (by omega)) (by rfl) T.v_is_big T.k_is_big pass0 (pa_cons (pv 8) pa_nil)))) pa_nil))))
(pss_one (ps_ret pe_str))
pss_nil)
(pss_mid (ps_if (PW.pt (pw_and (pt_cmpR op_notIn_seq (pe_fldK K (pv 2) rfl) (pv 4) (by rfl)) (pw_and1 (pt_cmpR op_eq (pe_callB call_len (by rfl) T.z_len (by decide +kernel) (pa_cons (pv 4) pa_nil)) (ClX.pe_cval (pe_glob (v := .ref (CTb K)) (by rfl) N.v_Table rfl)) (nomark _)))))
(pss_one (ps_ret pe_str))
pss_nil)
(pss_cons (ps_if (pt_cmpR op_in_seq (pe_fldK K (pv 2) rfl) (pe_lc (own := [("other", 7)]) (g := gName 7) rfl sc_fault_alone.nd (pi_list (pv 3)) (blkOk_by (own := [("other", 7)]) (N := N_fault_alone) (sc := defScope s_fault_alone) (by decide +kernel)) (fun _ _ _ _ _ => pg_name (i := 7) sc_fault_alone.nd rfl (.inl rfl)) (fun _ _ _ _ _ => pts_nil) (fun _ _ _ _ _ => (pe_fldK K (pv 7) rfl))) (by rfl))
(pss_one (ps_ret pe_str))
pss_nil)
(pss_cons (ps_if (PW.pt (pw_or (pt_cmpR op_gt (pe_callB call_len (by rfl) T.z_len (by decide +kernel) (pa_cons (pe_fldK K (pv 2) rfl) pa_nil)) (pe_gv (by rfl) CC.c_MOST_WANTS) (nomark _)) (pw_or1 (pt_cmpR op_gt (pe_callB call_len (by rfl) T.z_len (by decide +kernel) (pa_cons (pv 5) pa_nil)) (pe_gv (by rfl) CC.c_MOST_TREE_WANTS) (nomark _)))))
(pss_one (ps_ret pe_str))
pss_nil)
(pss_one (ps_ret (pe_ifExp (pt_val (pe_cr G_is_form (hr.mono (by omega)) (by rfl) T.v_is_form T.k_is_form pass0 (pa_cons (pe_fldK K (pv 2) rfl) (pa_cons (pe_fldK K (pv 2) rfl) pa_nil)))) pe_str pe_str))))))))))), ?_⟩
    have ul : us.length = rs.length := hm.len
    have il : i < rs.length := (List.getElem?_eq_some_iff.mp er).1
    obtain ⟨v, ev⟩ : ∃ v, us[i]? = some v := ⟨us[i], List.getElem?_eq_getElem (by omega)⟩
    obtain ⟨r', er', mo⟩ := hm.get ev
    rw [er] at er'
    have := Option.some.inj er'
    subst this
    obtain ⟨b, dx, p, rfl, hb, hp⟩ := mo
    -- maker, before, kinds
    refine ⟨.ref a, rfl, .int i, rfl, a, us, i, _, rfl, rfl, SqL.of ha, atI_nat ev, ?_⟩
    refine ⟨.ref a, rfl, .int i, rfl, i, rfl, a, us, rfl, SqL.of ha, fun c nc => ?_⟩
    rw [cutV_to]
    have s1 := Same.new (o := .lst (us.take i)) nc
    have c1 : upd H c (.lst (us.take i)) c = some (.lst (us.take i)) := upd_same
    generalize upd H c (.lst (us.take i)) = H1 at s1 c1
    have mb : All2 (MO (CM K) H1) (us.take i) (rs.take i) := (MOs.same s1 hm).take i
    have bl : (rs.take i).length = i := by
      rw [List.length_take]
      omega
    refine ⟨.ref c, rfl, c, _, _, rfl, c1, mb, by omega, fun H2 l s2 nl el => ?_⟩
    have s12 := s1.trans s2
    -- the trees among the wants
    have wl := sn.wl
    refine ⟨.ref b, rfl, b, _, dx, _, _, rfl, s12 _ _ hb, M.cl, M.a_wants, rfl, p, rfl, ⟨_, SqT.of (s12 _ _ hp)⟩, fun D nD => ?_⟩
    refine lc_tup (xs := strL r.ws) (fun k H3 => ∃ ys, H3 D = some (.lst ys) ∧ Same H2 H3 ∧ ys = strL (trW (r.ws.take k))) ?_ ?_ ?_ ?_
    · exact ⟨[], upd_same, Same.new nD, rfl⟩
    · rintro k H3 _ ⟨ys, _, s3, _⟩
      exact SqT.of (s3 _ _ (s12 _ _ hp))
    · rintro k x H3 hx ⟨ys, eD, s3, rfl⟩
      rw [List.getElem?_map] at hx
      cases ew : r.ws[k]? with
      | none => rw [ew] at hx; cases hx
      | some w0 =>
        rw [ew] at hx
        have := Option.some.inj hx
        subst this
        refine ⟨rfl, _, rfl, rfl, _, rfl, ?_⟩
        rw [dec_strW]
        have et : trW (r.ws.take (k + 1)) = trW (r.ws.take k) ++ (if w0 = digW then [] else [w0]) := by
          rw [take_get ew]
          show List.filter _ _ = _
          rw [List.filter_append, List.filter_cons]
          by_cases h : w0 = digW
          · rw [if_pos h, decide_eq_false (fun z => z h)]
            rfl
          · rw [if_neg h, decide_eq_true h]
            rfl
        have kl : (strL (trW (r.ws.take k))).length ≤ 1400 := by
          rw [List.length_map]
          have h1 := List.length_filter_le (fun w => decide (w ≠ digW)) (r.ws.take k)
          have h2 : (r.ws.take k).length ≤ r.ws.length := by rw [List.length_take]; omega
          exact Nat.le_trans h1 (by omega)
        by_cases h : w0 = digW
        · rw [decide_eq_true h]
          rw [if_pos h, List.append_nil] at et
          exact iteF ⟨_, eD, s3, by rw [et]⟩
        · rw [decide_eq_false h]
          rw [if_neg h] at et
          refine iteT ⟨_, rfl, _, eD, small14 kl, _, upd_same, ?_, ?_⟩
          · intro b' o e
            rw [upd_ne (ne_of_none e nD)]
            exact s3 _ _ e
          · rw [et, strL_app]
            rfl
    rintro H3 ⟨ys, eD, s3, rfl⟩
    rw [show (strL r.ws).length = r.ws.length from List.length_map _, List.take_length] at eD
    have s13 := s12.trans s3
    -- the names
    have wsl : (trW r.ws).length ≤ r.ws.length := List.length_filter_le _ _
    have asc : ∀ w ∈ r.kd :: r.nm :: trW r.ws, (∀ c ∈ w, c < 128) ∧ w.length ≤ 1400 := fun w hw => by
      rcases List.mem_cons.mp hw with rfl | hw
      · exact sn.kd
      rcases List.mem_cons.mp hw with rfl | hw
      · exact sn.nm
      · exact sn.ws w (List.mem_filter.mp hw).1
    refine ⟨.ref b, rfl, b, _, dx, _, _, rfl, s13 _ _ hb, M.cl, M.a_kind, rfl, .ref b, rfl, b, _, dx, _, _, rfl, s13 _ _ hb, M.cl, M.a_name, rfl, .ref D, rfl, D, _, rfl, .inr (SqL.of eD), ?_⟩
    have el0 : V.str (mk r.kd) :: V.str (mk r.nm) :: (strL (trW r.ws) ++ []) = strL (r.kd :: r.nm :: trW r.ws) := by rw [List.append_nil]; rfl
    have nl0 : (strL (r.kd :: r.nm :: trW r.ws)).length ≤ 1392 := by
      rw [List.length_map]
      show (trW r.ws).length + 1 + 1 ≤ 1392
      omega
    refine ⟨?_, fun N1 nN1 => ?_⟩
    · refine Nat.le_trans (m := 1392) ?_ szle14
      rw [← el0] at nl0
      exact nl0
    have e5 : upd H3 N1 (.lst (V.str (mk r.kd) :: V.str (mk r.nm) :: (strL (trW r.ws) ++ []))) N1 = some (.lst (strL (r.kd :: r.nm :: trW r.ws))) := by rw [upd_same, el0]
    have s5 := Same.new (o := .lst (V.str (mk r.kd) :: V.str (mk r.nm) :: (strL (trW r.ws) ++ []))) nN1
    refine ⟨N1, rfl, ⟨_, SqL.of e5⟩, fun D2 nD2 => ?_⟩
    generalize upd H3 N1 (.lst (V.str (mk r.kd) :: V.str (mk r.nm) :: (strL (trW r.ws) ++ []))) = H5 at e5 s5 nD2
    refine lc_list (xs := strL (r.kd :: r.nm :: trW r.ws)) (fun k H6 => k ≤ 1392 ∧ H6 D2 = some (.lst ((((r.kd :: r.nm :: trW r.ws).take k).map bigN).map V.bl)) ∧ Same H5 H6) ?_ ?_ ?_ ?_
    · exact ⟨Nat.zero_le _, upd_same, Same.new nD2⟩
    · rintro k H6 _ ⟨_, _, s6⟩
      exact SqL.of (s6 _ _ e5)
    · rintro k x H6 hx ⟨kl, eD2, s6⟩
      have klt : k < 1392 := Nat.lt_of_lt_of_le (List.getElem?_eq_some_iff.mp hx).1 nl0
      rw [List.getElem?_map] at hx
      cases ew : (r.kd :: r.nm :: trW r.ws)[k]? with
      | none => rw [ew] at hx; cases hx
      | some w0 =>
        rw [ew] at hx
        have := Option.some.inj hx
        subst this
        obtain ⟨as7, l8⟩ := asc w0 (List.mem_of_getElem? ew)
        refine ⟨rfl, _, rfl, w0, rfl, as7, by omega, fun H7 s7 => ?_⟩
        have eD7 := s7 _ _ eD2
        refine ⟨_, eD7, small14 (by rw [List.length_map, List.length_map, List.length_take]; omega), klt, ?_, ?_⟩
        · rw [upd_same, take_get ew, List.map_append, List.map_append]
          rfl
        · intro b' o e
          rw [upd_ne (ne_of_none e nD2)]
          exact s7 _ _ (s6 _ _ e)
    rintro H6 ⟨_, eD2, s6⟩
    have s16 := s13.trans (s5.trans s6)
    have el6 := s6 _ _ (s5 _ _ (s3 _ _ el))
    have al : ∀ l : List (List Nat), (l.map bigN).all id = l.all bigN := fun l => by
      induction l with
      | nil => rfl
      | cons a l ih =>
        show (bigN a && (l.map bigN).all id) = (bigN a && l.all bigN)
        rw [ih]
    rw [show (strL (r.kd :: r.nm :: trW r.ws)).length = (r.kd :: r.nm :: trW r.ws).length from List.length_map _, List.take_length] at eD2
    refine ⟨D2, (r.kd :: r.nm :: trW r.ws).map bigN, rfl, SqL.of eD2, (r.kd :: r.nm :: trW r.ws).all bigN, by rw [al], ?_⟩
    cases hb1 : (r.kd :: r.nm :: trW r.ws).all bigN with
    | false =>
      have q2 := q _ s16
      unfold fltA at q2
      rw [hb1, if_neg Bool.false_ne_true] at q2
      exact iteT q2
    | true => 
    refine iteF ?_
    -- the rest of the names and kinds
    have kdl : (strL (kds (rs.take i))).length = (kds (rs.take i)).length := List.length_map _
    obtain ⟨u3, cv⟩ := N.most_kinds
    have q1 : ∀ H', Same H H' → Q (.str (mk (if r.kd ∉ kds (rs.take i) ∧ (kds (rs.take i)).length = 3 then kinW else if r.nm ∈ (rs.take i).map (·.nm) then repW else if 3 < r.ws.length ∨ 2 < (trW r.ws).length then parW else if fmB r.fm r.ws = true then [] else forW))) H' := fun H' s => by
      have q2 := q H' s
      unfold fltA at q2
      rw [hb1, if_pos rfl] at q2
      exact q2
    refine ⟨fun σ H7 => σ = [some (.ref a), some (.int i), some (.ref b), some (.ref c), some (.ref l), some (.ref D), none, none, none] ∧ H7 = H6 ∧ ¬ (r.kd ∉ kds (rs.take i) ∧ (kds (rs.take i)).length = 3), ?_, ?_⟩
    · refine ⟨.ref b, rfl, b, _, dx, _, _, rfl, s16 _ _ hb, M.cl, M.a_kind, rfl, .ref l, rfl, l, _, rfl, .inl (SqL.of el6), rfl, flat_strL _, _, rfl, ite2 (fun e => ?_) (fun e => ⟨rfl, rfl, fun z => e ?_⟩)⟩
      case refine_2 =>
        rw [if_pos rfl, in_strL, decide_eq_false z.1]
        rfl
      have hk : ¬ r.kd ∈ kds (rs.take i) := fun z => by
        rw [if_pos rfl, in_strL, decide_eq_true z] at e
        cases e
      refine ⟨.ref l, rfl, .ref l, _, rfl, .inl ⟨_, SqL.of el6, kdl.symm⟩, CTb K, .type "type", .int 3, u3, rfl, N.rd, cv, rfl, _, rfl, ?_⟩
      by_cases h3 : (kds (rs.take i)).length = 3
      · rw [decide_eq_true (show V.int ((kds (rs.take i)).length : Nat) = V.int 3 by rw [h3]; rfl)]
        have q2 := q1 H6 s16
        rw [if_pos ⟨hk, h3⟩] at q2
        exact iteT q2
      · rw [decide_eq_false (fun z => h3 (by have := V.int.inj z; omega))]
        exact iteF ⟨rfl, rfl, fun z => h3 z.2⟩
    rintro σ' H7 ⟨rfl, rfl, nk⟩
    rw [if_neg nk] at q1
    -- repeated
    have c6 := s6 _ _ (s5 _ _ (s3 _ _ (s2 _ _ c1)))
    have m6 : All2 (MO (CM K) H7) (us.take i) (rs.take i) := MOs.same (s2.trans (s3.trans (s5.trans s6))) mb
    have tl2 : (us.take i).length = (rs.take i).length := m6.len
    refine ⟨.ref b, rfl, b, _, dx, _, _, rfl, s16 _ _ hb, M.cl, M.a_name, rfl, .ref c, rfl, c, rfl, ⟨_, SqL.of c6⟩, fun D3 nD3 => ?_⟩
    refine lc_pureL (fs := strL ((rs.take i).map (·.nm))) (SqL.of c6) nD3 (by rw [List.length_map, List.length_map]; exact tl2.symm) (by omega) (fun _ => rfl) ?_ ?_
    · intro k x y H' Q' hx hy s' q'
      obtain ⟨r1, e1, mo1⟩ := m6.get hx
      obtain ⟨b1, dx1, p1, rfl, hb1, _⟩ := mo1.same s'
      rw [List.getElem?_map, List.getElem?_map, e1] at hy
      have := Option.some.inj hy
      subst this
      exact ⟨.ref b1, rfl, b1, _, dx1, _, _, rfl, hb1, M.cl, M.a_name, rfl, q'⟩
    have s7 := s16.trans (Same.new (o := .lst (strL ((rs.take i).map (·.nm)))) nD3)
    refine ⟨D3, _, rfl, .inl (SqL.of upd_same), rfl, flat_strL _, _, rfl, ?_⟩
    rw [if_neg Bool.false_ne_true, in_strL]
    by_cases hrep : r.nm ∈ (rs.take i).map (·.nm)
    · rw [decide_eq_true hrep]
      rw [if_pos hrep] at q1
      exact iteT (q1 _ s7)
    rw [decide_eq_false hrep]
    rw [if_neg hrep] at q1
    refine iteF ?_
    have eD7 := Same.new (o := .lst (strL ((rs.take i).map (·.nm)))) nD3 _ _ (s6 _ _ (s5 _ _ eD))
    -- the parts, the form
    refine ⟨.ref b, rfl, b, _, dx, _, _, rfl, s7 _ _ hb, M.cl, M.a_wants, rfl, .ref p, r.ws.length, rfl, .inr ⟨_, SqT.of (s7 _ _ hp), (List.length_map _).symm⟩, _, 3, rfl, rfl, _, rfl, ?_⟩
    by_cases w3 : 3 < r.ws.length
    · rw [decide_eq_true (show (3 : Int) < (r.ws.length : Int) by omega)]
      rw [if_pos (.inl w3)] at q1
      exact iteT (q1 _ s7)
    rw [decide_eq_false (show ¬ (3 : Int) < (r.ws.length : Int) by omega)]
    refine iteF ?_
    refine ⟨.ref D, rfl, .ref D, (trW r.ws).length, rfl, .inl ⟨_, SqL.of eD7, (List.length_map _).symm⟩, _, 2, rfl, rfl, _, rfl, ?_⟩
    by_cases t2 : 2 < (trW r.ws).length
    · rw [decide_eq_true (show (2 : Int) < ((trW r.ws).length : Int) by omega)]
      rw [if_pos (.inr t2)] at q1
      exact iteT (q1 _ s7)
    rw [decide_eq_false (show ¬ (2 : Int) < ((trW r.ws).length : Int) by omega)]
    rw [if_neg (fun z => z.elim w3 t2)] at q1
    refine iteF ?_
    refine ⟨.ref b, rfl, b, _, dx, _, _, rfl, s7 _ _ hb, M.cl, M.a_form, rfl, .ref b, rfl, b, _, dx, _, _, rfl, s7 _ _ hb, M.cl, M.a_wants, rfl, r.fm, r.ws, p, rfl, s7 _ _ hp, by omega, sn.fm.1, sn.fm.2, fun H8 s8 => ⟨fmB r.fm r.ws, rfl, ?_⟩⟩
    have q2 := q1 _ (s7.trans s8)
    cases hf : fmB r.fm r.ws with
    | true =>
      rw [hf, if_pos rfl] at q2
      exact iteT q2
    | false =>
      rw [hf, if_neg Bool.false_ne_true] at q2
      exact iteF q2
end
end TW

namespace TW
/-! ## least trees: plain Lean -/
/-- a number that tells the order of texts of at most n signs -/
def sc : Nat → List Nat → Nat
  | 0, _ => 0
  | _ + 1, [] => 0
  | n + 1, c :: r => (c + 1) * 129 ^ n + sc n r
theorem sc_lt : ∀ (n : Nat) (l : List Nat), (∀ c ∈ l, c < 128) → sc n l < 129 ^ n
  | 0, _, _ => by rw [sc]; exact Nat.one_pos
  | n + 1, [], _ => by rw [sc]; exact Nat.pow_pos (by decide)
  | n + 1, c :: r, h => by
    have h1 := sc_lt n r fun x hx => h x (List.mem_cons_of_mem _ hx)
    have h2 := h c List.mem_cons_self
    rw [sc, Nat.pow_succ]
    generalize 129 ^ n = B at h1
    have : (c + 1) * B ≤ 128 * B := Nat.mul_le_mul_right B (by omega)
    omega
theorem sc_mono : ∀ (n : Nat) (a b : List Nat), a.length ≤ n → b.length ≤ n → (∀ c ∈ a, c < 128) → a < b → sc n a < sc n b
  | n, a, [], _, _, _, h => absurd h (List.not_lt_nil a)
  | 0, _, d :: s, _, hb, _, _ => absurd hb (Nat.not_succ_le_zero _)
  | n + 1, [], d :: s, _, _, _, _ => by
    rw [sc, sc]
    have : 0 < 129 ^ n := Nat.pow_pos (by decide)
    generalize 129 ^ n = B at this
    have h2 : 1 * B ≤ (d + 1) * B := Nat.mul_le_mul_right B (by omega)
    omega
  | n + 1, c :: r, d :: s, ha, hb, h, hl => by
    rw [sc, sc]
    have h1 := sc_lt n r fun x hx => h x (List.mem_cons_of_mem _ hx)
    rcases List.cons_lt_cons_iff.mp hl with z | ⟨z, y⟩
    · generalize 129 ^ n = B at h1
      have h2 : (c + 2) * B ≤ (d + 1) * B := Nat.mul_le_mul_right B (by omega)
      have h3 : (c + 2) * B = (c + 1) * B + B := by rw [show c + 2 = (c + 1) + 1 from rfl, Nat.succ_mul]
      omega
    · subst z
      have := sc_mono n r s (Nat.le_of_succ_le_succ ha) (Nat.le_of_succ_le_succ hb) (fun x hx => h x (List.mem_cons_of_mem _ hx)) y
      omega
/-- the order by size and term -/
def ltT (t u : Tr) : Prop := sz t < sz u ∨ (sz t = sz u ∧ tm t < tm u)
abbrev LM := List Nat → Option Tr
def cL (n : Nat) : Option Tr → Nat
  | none => 42 * 129 ^ n
  | some t => sz t * 129 ^ n + sc n (tm t)
theorem cL_lt {n : Nat} {t u : Tr} (ht : wf t = true) (hu : wf u = true) (l1 : (tm t).length ≤ n) (l2 : (tm u).length ≤ n) (h : ltT t u) : cL n (some t) < cL n (some u) := by
  show sz t * 129 ^ n + sc n (tm t) < sz u * 129 ^ n + sc n (tm u)
  have a := sc_lt n (tm t) (tm_ascii t ht)
  rcases h with z | ⟨z, y⟩
  · generalize 129 ^ n = B at a
    have h2 : (sz t + 1) * B ≤ sz u * B := Nat.mul_le_mul_right B (by omega)
    rw [Nat.succ_mul] at h2
    omega
  · rw [z]
    have := sc_mono n (tm t) (tm u) l1 l2 (tm_ascii t ht) y
    omega
theorem cL_none {n : Nat} {t : Tr} (ht : wf t = true) (hz : sz t ≤ 41) : cL n (some t) < cL n none := by
  show sz t * 129 ^ n + sc n (tm t) < 42 * 129 ^ n
  have a := sc_lt n (tm t) (tm_ascii t ht)
  generalize 129 ^ n = B at a
  have h2 : (sz t + 1) * B ≤ 42 * B := Nat.mul_le_mul_right B (by omega)
  rw [Nat.succ_mul] at h2
  omega
def up (L : LM) (k : List Nat) (t : Tr) : LM := fun w => if w = k then some t else L w
def Phi (n : Nat) (L : LM) : List (List Nat) → Nat
  | [] => 0
  | k :: r => cL n (L k) + Phi n L r
theorem Phi_le {n : Nat} {L : LM} {k : List Nat} {t : Tr} (h : cL n (some t) ≤ cL n (L k)) : ∀ ks : List (List Nat), Phi n (up L k t) ks ≤ Phi n L ks
  | [] => Nat.le_refl _
  | x :: r => by
    have ih := Phi_le h r
    rw [Phi, Phi]
    have : cL n (up L k t x) ≤ cL n (L x) := by
      unfold up
      by_cases e : x = k
      · rw [if_pos e, e]
        exact h
      · rw [if_neg e]
        exact Nat.le_refl _
    omega
theorem Phi_lt {n : Nat} {L : LM} {k : List Nat} {t : Tr} (h : cL n (some t) < cL n (L k)) : ∀ ks : List (List Nat), k ∈ ks → Phi n (up L k t) ks < Phi n L ks
  | [], m => by cases m
  | x :: r, m => by
    rw [Phi, Phi]
    by_cases e : x = k
    · have ih := Phi_le (Nat.le_of_lt h) r
      have : cL n (up L k t x) < cL n (L x) := by
        unfold up
        rw [if_pos e, e]
        exact h
      omega
    · have ih := Phi_lt h r ((List.mem_cons.mp m).resolve_left fun z => e z.symm)
      have : cL n (up L k t x) = cL n (L x) := by
        unfold up
        rw [if_neg e]
      omega
/-! ### sizes -/
def Sb : Nat → Nat
  | 0 => 1
  | m + 1 => 1 + 3 * Sb m
theorem Sb_mono : ∀ {m k : Nat}, m ≤ k → Sb m ≤ Sb k := by
  intro m k h
  induction h with
  | refl => exact Nat.le_refl _
  | step _ ih =>
    rw [Sb]
    omega
theorem Sb_le {m : Nat} (h : m ≤ 3) : Sb m ≤ 40 := Nat.le_trans (Sb_mono h) (by decide)
abbrev nK (L : LM) (ks : List (List Nat)) : Nat := ks.countP fun k => (L k).isSome
/-- what holds of the least trees met so far -/
structure LOk (L : LM) (ks : List (List Nat)) : Prop where
  dig : L digW = some (.nd [48] [])
  only : ∀ w, (L w).isSome = true → w = digW ∨ w ∈ ks
  wf : ∀ w t, L w = some t → TW.wf t = true
  sz : ∀ w t, L w = some t → TW.sz t ≤ Sb (nK L ks)
theorem nK_le (L : LM) (ks : List (List Nat)) : nK L ks ≤ ks.length := List.countP_le_length
theorem LOk.up {L : LM} {ks : List (List Nat)} {k : List Nat} {t : Tr} (h : LOk L ks) (nd : ks.Nodup) (hk : k ∈ ks) (kd : k ≠ digW) (wt : TW.wf t = true) (hs : TW.sz t ≤ 1 + 3 * Sb (nK L ks)) (hl : ∀ u, L k = some u → TW.sz t ≤ TW.sz u) : LOk (up L k t) ks := by
  have cnt : (L k).isSome = true → nK (TW.up L k t) ks = nK L ks := fun hi => by
    refine List.countP_congr fun w hw => ?_
    unfold TW.up
    by_cases e : w = k
    · rw [if_pos e, e]
      exact ⟨fun _ => hi, fun _ => rfl⟩
    · rw [if_neg e]
  have cnt2 : (L k).isSome = false → nK (TW.up L k t) ks = nK L ks + 1 := fun hi => by
    clear h hl hs cnt
    induction ks with
    | nil => cases hk
    | cons x r ih =>
      obtain ⟨n1, n2⟩ := List.nodup_cons.mp nd
      show List.countP _ (x :: r) = List.countP _ (x :: r) + 1
      rw [List.countP_cons, List.countP_cons]
      by_cases e : x = k
      · subst e
        have same : List.countP (fun k' => (TW.up L x t k').isSome) r = List.countP (fun k' => (L k').isSome) r := by
          refine List.countP_congr fun w hw => ?_
          have ne : w ≠ x := fun z => n1 (z ▸ hw)
          unfold TW.up
          rw [if_neg ne]
        rw [same, hi]
        have : (TW.up L x t x).isSome = true := by
          unfold TW.up
          rw [if_pos rfl]
          rfl
        rw [this]
        rfl
      · have ih' := ih n2 ((List.mem_cons.mp hk).resolve_left fun z => e z.symm)
        have ex : TW.up L k t x = L x := by
          unfold TW.up
          rw [if_neg e]
        rw [ex]
        have ih2 : List.countP (fun k' => (TW.up L k t k').isSome) r = List.countP (fun k' => (L k').isSome) r + 1 := ih'
        rw [ih2]
        omega
  have mono : Sb (nK L ks) ≤ Sb (nK (TW.up L k t) ks) := by
    cases e : (L k).isSome with
    | true => rw [cnt e]; exact Nat.le_refl _
    | false => rw [cnt2 e]; exact Sb_mono (Nat.le_succ _)
  have new : TW.sz t ≤ Sb (nK (TW.up L k t) ks) := by
    cases e : (L k).isSome with
    | true =>
      rw [cnt e]
      obtain ⟨u, hu⟩ := Option.isSome_iff_exists.mp e
      exact Nat.le_trans (hl u hu) (h.sz k u hu)
    | false =>
      rw [cnt2 e, Sb]
      exact hs
  refine ⟨?_, fun w hw => ?_, fun w u hw => ?_, fun w u hw => ?_⟩
  · unfold TW.up
    rw [if_neg (fun z => kd z.symm)]
    exact h.dig
  · unfold TW.up at hw
    by_cases e : w = k
    · exact .inr (e ▸ hk)
    · rw [if_neg e] at hw
      exact h.only w hw
  · unfold TW.up at hw
    by_cases e : w = k
    · rw [if_pos e] at hw
      rw [← Option.some.inj hw]
      exact wt
    · rw [if_neg e] at hw
      exact h.wf w u hw
  · unfold TW.up at hw
    by_cases e : w = k
    · rw [if_pos e] at hw
      rw [← Option.some.inj hw]
      exact new
    · rw [if_neg e] at hw
      exact Nat.le_trans (h.sz w u hw) mono
/-! ### closed under the rows -/
def Cl (L : LM) (r : Rw) : Prop := (∀ w ∈ r.ws, (L w).isSome = true) → ∃ t, L r.kd = some t ∧ ¬ ltT (.nd r.nm (r.ws.filterMap L)) t
/-- each kind has a row over kinds of a lower rank -/
def Gr (rs : List Rw) : Prop := ∃ rank : List Nat → Nat, ∀ k ∈ kds rs, ∃ r ∈ rs, r.kd = k ∧ ∀ w ∈ r.ws, w = digW ∨ (w ∈ kds rs ∧ rank w < rank k)
theorem all_in {L : LM} {rs : List Rw} (h : L digW = some (.nd [48] [])) (cl : ∀ r ∈ rs, Cl L r) (g : Gr rs) : ∀ k ∈ kds rs, (L k).isSome = true := by
  obtain ⟨rank, g⟩ := g
  have key : ∀ n k, rank k < n → k ∈ kds rs → (L k).isSome = true := by
    intro n
    induction n with
    | zero => intro k h0; cases h0
    | succ n ih =>
      intro k hk hm
      obtain ⟨r, hr, rfl, hw⟩ := g k hm
      obtain ⟨t, ht, _⟩ := cl r hr fun w hww => by
        rcases hw w hww with e | ⟨m, l⟩
        · rw [e, h]
          rfl
        · exact ih w (by omega) m
      rw [ht]
      rfl
  exact fun k hk => key (rank k + 1) k (Nat.lt_succ_self _) hk
/-! ### the parts of a row -/
theorem fm_len {L : LM} : ∀ {ws : List (List Nat)}, (∀ w ∈ ws, (L w).isSome = true) → (ws.filterMap L).length = ws.length
  | [], _ => rfl
  | w :: r, h => by
    obtain ⟨t, ht⟩ := Option.isSome_iff_exists.mp (h w List.mem_cons_self)
    rw [List.filterMap_cons, ht]
    exact congrArg Nat.succ (fm_len fun x hx => h x (List.mem_cons_of_mem _ hx))
theorem fm_wf {L : LM} : ∀ {ws : List (List Nat)}, (∀ w t, L w = some t → wf t = true) → wfs (ws.filterMap L) = true
  | [], _ => by rw [List.filterMap_nil, wfs]
  | w :: r, h => by
    rw [List.filterMap_cons]
    cases e : L w with
    | none => exact fm_wf h
    | some t =>
      show wfs (t :: r.filterMap L) = true
      rw [wfs, h w t e, fm_wf h]
      rfl
theorem fm_sz {L : LM} {B : Nat} : ∀ {ws : List (List Nat)}, (∀ w t, L w = some t → sz t ≤ B) → szs (ws.filterMap L) ≤ ws.length * B
  | [], _ => by rw [List.filterMap_nil, szs]; exact Nat.zero_le _
  | w :: r, h => by
    have ih := fm_sz (ws := r) h
    rw [List.filterMap_cons, List.length_cons, Nat.succ_mul]
    cases e : L w with
    | none =>
      show szs (r.filterMap L) ≤ _
      omega
    | some t =>
      show szs (t :: r.filterMap L) ≤ _
      have := h w t e
      rw [szs]
      omega
theorem kdsF_sub : ∀ (rs : List Rw) (acc : List (List Nat)), acc.Nodup → (kdsF acc rs).Nodup ∧ (∀ k ∈ acc, k ∈ kdsF acc rs) ∧ (∀ r ∈ rs, r.kd ∈ kdsF acc rs) ∧ (∀ k ∈ kdsF acc rs, k ∈ acc ∨ ∃ r ∈ rs, r.kd = k)
  | [], acc, h => ⟨h, fun k hk => hk, (fun r hr => nomatch hr), fun k hk => .inl hk⟩
  | r :: rs, acc, h => by
    have h' : (if r.kd ∈ acc then acc else acc ++ [r.kd]).Nodup := by
      split
      · exact h
      · rename_i hn
        refine List.nodup_append.mpr ⟨h, (by simp), fun a ha b hb => ?_⟩
        rw [List.mem_singleton.mp hb]
        exact fun z => hn (z ▸ ha)
    have sub : ∀ k ∈ acc, k ∈ (if r.kd ∈ acc then acc else acc ++ [r.kd]) := fun k hk => by
      split
      · exact hk
      · exact List.mem_append_left _ hk
    have own : r.kd ∈ (if r.kd ∈ acc then acc else acc ++ [r.kd]) := by
      split
      · assumption
      · exact List.mem_append_right _ List.mem_cons_self
    obtain ⟨i1, i2, i3, i4⟩ := kdsF_sub rs _ h'
    refine ⟨i1, fun k hk => i2 k (sub k hk), fun x hx => ?_, fun k hk => ?_⟩
    · rcases List.mem_cons.mp hx with rfl | hx
      · exact i2 _ own
      · exact i3 x hx
    · rcases i4 k hk with z | ⟨x, hx, e⟩
      · split at z
        · exact .inl z
        · rcases List.mem_append.mp z with z | z
          · exact .inl z
          · exact .inr ⟨r, List.mem_cons_self, (List.mem_singleton.mp z).symm⟩
      · exact .inr ⟨x, List.mem_cons_of_mem _ hx, e⟩
theorem kds_nodup (rs : List Rw) : (kds rs).Nodup := (kdsF_sub rs [] List.nodup_nil).1
theorem kds_mem {rs : List Rw} {r : Rw} (h : r ∈ rs) : r.kd ∈ kds rs := (kdsF_sub rs [] List.nodup_nil).2.2.1 r h
end TW

namespace TW
open PySem PySem.Spec PyProof.Rows L2
def isD : Tr → Bool
  | .nd n ks => (match n with
    | [c] => digC c
    | _ => false) && ks.isEmpty
def sp_digit (C : Addr) : Sp := fun vs H Q _ => ∃ i : Nat, vs = [.int i] ∧ i ≤ 9 ∧ ∀ H' v, Same H H' → TO C H' v (.nd [48 + i] []) → Q v H'
def sp_isdigit (C : Addr) : Sp := fun vs H Q _ => ∃ v t, vs = [v] ∧ TO C H v t ∧ wf t = true ∧ Q (.bl (isD t)) H
theorem str_mk : ∀ i : Nat, i ≤ 9 → Str.ofString (toString (i : Int)) = mk [48 + i] := by decide +kernel
section
variable {P : Program} {w : World} {K : PySem.W.Frag} {mg : Str → Option Value} {base : Heap}
theorem ok_digit (T : Tx K mg) (Z : Tc K mg) : FnR P w K mg base CX0 3 (He.ga K "digit") (sp_digit (CT K)) := by
  have G_init : FnR P w K mg base CX0 1 (mT K "__init__") (sp_star (CT K)) := ok_init T Z
  refine fnR0 T.d_digit sc_digit (fun _ _ _ _ _ _ us hl => match us, hl with | [_], _ => rfl) (fun vs H Q E h => ?_) (fun cdv A outer s H vs Q E hr h => ?_)
  · obtain ⟨i, rfl, _⟩ := h
    rfl
  · obtain ⟨i, rfl, hi, q⟩ := h
    refine ⟨_, (pss_one (ps_ret (StX.pe_makeR Z.mk_ G_init (hr.mono (by omega)) (by rfl) Z.v_Tree pass0 (pa_cons (pe_callTy call_str_int (by rfl) T.z_str (by decide +kernel) (pa_cons (pv 0) pa_nil)) pa_nil)))), ?_⟩
    refine ⟨.int i, rfl, i, rfl, ?_, ?_⟩
    · have : ∀ i : Nat, i ≤ 9 → (i : Int).natAbs.log2 < 1920 := by decide +kernel
      exact this i hi
    have e : Str.ofString (toString (i : Int)) = mk [48 + i] := str_mk i hi
    have wd : wf (.nd [48 + i] []) = true := by
      have : ∀ i : Nat, i ≤ 9 → wf (.nd [48 + i] []) = true := by decide +kernel
      exact this i hi
    rw [e]
    exact mk_tree (C := CT K) (H := H) (Q := Q) (n := [48 + i]) (us := []) (ks := []) (by rw [TOs]; trivial) wd (by rw [sz, szs]; decide) fun H' a' s5 _ to5 => q H' _ s5 to5
end
end TW

namespace TW
open PySem PySem.Spec PyProof.Rows L2
/-- an expression that is not reached -/
structure To (K : PySem.W.Frag) : Prop where
  at_lt : PySem.W.findIn K (.ref (CT K)) "__lt__" = some (some (.ref (mT K "__lt__")))
  fn_lt : PySem.W.isFn K (.ref (mT K "__lt__")) = true
  d_lt : DefAt K "__lt__" "Tree.__lt__" s_Tree_lt (mT K "__lt__")
  at_le : PySem.W.findIn K (.ref (CT K)) "__le__" = some (some (.ref (mT K "__le__")))
  fn_le : PySem.W.isFn K (.ref (mT K "__le__")) = true
  d_le : DefAt K "__le__" "Tree.__le__" s_Tree_le (mT K "__le__")
  at_eq : PySem.W.findIn K (.ref (CT K)) "__eq__" = some (some (.ref (mT K "__eq__")))
  fn_eq : PySem.W.isFn K (.ref (mT K "__eq__")) = true
  d_eq : DefAt K "__eq__" "Tree.__eq__" s_Tree_eq (mT K "__eq__")
  m_place : Meth K (CT K) "place" (mT K "place")
  d_place : DefAt K "place" "Tree.place" s_Tree_place (mT K "place")
/-! ### x op y by the class's own def -/
def rCmpT (C : Addr) (sp : Sp) (E : XK) : R2 := fun x y H Q => ∃ a dx fs b dy gs, x = .ref a ∧ y = .ref b ∧ H a = some (.ins C dx fs) ∧ H b = some (.ins C dy gs) ∧ sp [x, y] H Q E
theorem op_cmpT {X : Cx} {CX : CXT} {k : Nat} {sp : Sp} {E : XK} {C g : Addr} {op : CmpOp} (hop : ∀ a b, compareOp op a b = richCompare op a b) (hs : PySem.W.findIn X.K (.ref C) (cmpInfo op).2.1 = some (some (.ref g))) (hf : PySem.W.isFn X.K (.ref g) = true)
    (G : FnR X.prog X.w X.K X.mg X.base CX k g sp) (hr : Room k X.A) (hx : Passes CX X E) : OpR X (compareOp op) (rCmpT C sp E) := by
  intro pins s σ H x y v u Q I rx ry h
  obtain ⟨a, dx, fs, b, dy, gs, rfl, rfl, ha, hb, q⟩ := h
  cases (show v = Value.ref a from rx)
  cases (show u = Value.ref b from ry)
  obtain ⟨m, F⟩ := I.fr
  obtain ⟨mA, O, _⟩ := ins_get I.hok ha
  obtain ⟨od, J, _⟩ := O.look
  obtain ⟨mB, O2, _⟩ := ins_get I.hok hb
  obtain ⟨od2, J2, _⟩ := O2.look
  rw [hop]
  refine PySem.W.cmp_K (op := op) (tb := .ref C) hr.units0 F I.ok.mod.kin J J2.type (by unfold PySem.W.notFirst; rw [beq_self_eq_true]; rfl) hs hf ?_
  refine wpAny_mono (wpAny_call (run_fnR (us := [.ref a, .ref b]) (vs := [.ref a, .ref b]) G hr hx I (.cons rfl (.cons rfl .nil)) q)) (fun w s' z => ?_) fun _ _ x => x
  obtain ⟨z', H', I', rz, qz⟩ := z
  exact SlX.cmpback rz ⟨z', H', I', rz, qz⟩
/-! ### place, and what is decided by it -/
abbrev nt (t : Tr) : NT := ((sz t : Int), mk (tm t))
def sp_place (C : Addr) : Sp := fun vs H Q _ => ∃ v t, vs = [v] ∧ TO C H v t ∧ ∀ a, H a = none → Q (.ref a) (upd H a (.tup [.int (sz t : Int), .str (mk (tm t))]))
def sp_cmp (C : Addr) (f : NT → NT → Bool) : Sp := fun vs H Q _ => ∃ x y t u, vs = [x, y] ∧ TO C H x t ∧ TO C H y u ∧ ∀ H', Same H H' → Q (.bl (f (nt t) (nt u))) H'
theorem dp_nt {K : PySem.W.Frag} {H : Hp} {a : Addr} {t : Tr} (h : H a = some (.tup [.int (sz t : Int), .str (mk (tm t))])) : Dp K H (.ref a) (ntD (nt t)) := .tup (SqT.of h) (.cons (.int _) (.cons (.str _) .nil))
section
variable {P : Program} {w : World} {K : PySem.W.Frag} {mg : Str → Option Value} {base : Heap}
theorem ok_place (Z : Tc K mg) (O : To K) : ∃ fd, FnOk P w K mg base CX0 1 (mT K "place") fd ["self"] (sp_place (CT K)) ∧ Binds K fd ["self"] [] := by
  refine fnO0 O.d_place sc_Tree_place (fun _ _ _ _ _ _ us hl => match us, hl with | [_], _ => rfl) (fun vs H Q E h => ?_) (fun cdv A outer s H vs Q E hr h => ?_)
  · obtain ⟨a, t, rfl, _⟩ := h
    rfl
  · obtain ⟨v, t, rfl, ht, q⟩ := h
    refine ⟨_, (pss_one (ps_ret (pe_tup (pa_cons (pe_fldK K (pv 0) rfl) (pa_cons (pe_fldK K (pv 0) rfl) pa_nil))))), ?_⟩
    obtain ⟨a, dx, p, rfl, ha⟩ := ht.at
    obtain ⟨n, ks⟩ := t
    exact ⟨.ref a, rfl, a, _, dx, _, _, rfl, ha, Z.cl, Z.a_size, rfl, .ref a, rfl, a, _, dx, _, _, rfl, ha, Z.cl, Z.a_term, rfl, szle, q⟩
theorem ok_lt (T : Tx K mg) (Z : Tc K mg) (W : Tw K) (O : To K) : FnR P w K mg base CX0 2 (mT K "__lt__") (sp_cmp (CT K) fun p q => PySem.W.DatumOrd.lt p q) := by
  obtain ⟨fdp, G_place, B_place⟩ := ok_place (P := P) (w := w) (base := base) Z O
  refine fnR0 O.d_lt sc_Tree_lt (fun _ _ _ _ _ _ us hl => match us, hl with | [_, _], _ => rfl) (fun vs H Q E h => ?_) (fun cdv A outer s H vs Q E hr h => ?_)
  · obtain ⟨x, y, t, u, rfl, _⟩ := h
    rfl
  · obtain ⟨x, y, t, u, rfl, ht, hu, q⟩ := h
    refine ⟨_, (pss_cons (ps_if (pt_not (pt_val (pe_callB call_isi (by rfl) T.z_isinstance (by decide +kernel) (pa_cons (pv 1) (pa_cons (pe_glob (v := .ref (CT K)) (by rfl) Z.v_Tree rfl) pa_nil)))))
(pss_one (ps_ret pe_dead))
pss_nil)
(pss_one (ps_ret (pe_cmpR (op_ltN hr.units) (pe_meth0 (pv 0) Z.cl O.m_place G_place (hr.mono (by omega)) B_place .nil pass0) (pe_meth0 (pv 1) Z.cl O.m_place G_place (hr.mono (by omega)) B_place .nil pass0) (nomark _))))), ?_⟩
    obtain ⟨a, dx, p, rfl, ha⟩ := ht.at
    obtain ⟨b, dy, r, rfl, hb⟩ := hu.at
    have ins : TyX K H (.ref b) (.ref (CT K)) := .base (.ins hb Z.cl W.ic W.ig W.it W.im)
    refine ⟨.ref b, rfl, .ref b, .ref (CT K), _, _, _, rfl, .own _, ins, kit_same _, true, rfl, ?_⟩
    refine iteF ?_
    refine ⟨.ref a, rfl, a, dx, _, rfl, ha, by cases t; rfl, .ref a, t, rfl, ht, fun c nc => ?_⟩
    have s1 : Same H (upd H c (.tup [.int (sz t : Int), .str (mk (tm t))])) := Same.new nc
    refine ⟨.ref b, rfl, b, dy, _, rfl, s1 _ _ hb, by cases u; rfl, .ref b, u, rfl, TO.same s1 hu, fun e ne => ?_⟩
    have s2 := s1.trans (Same.new (o := .tup [.int (sz u : Int), .str (mk (tm u))]) ne)
    exact ⟨nt t, nt u, dp_nt (Same.new ne _ _ upd_same), dp_nt upd_same, q _ s2⟩
theorem ok_le (T : Tx K mg) (Z : Tc K mg) (W : Tw K) (O : To K) : FnR P w K mg base CX0 2 (mT K "__le__") (sp_cmp (CT K) fun p q => !PySem.W.DatumOrd.lt q p) := by
  obtain ⟨fdp, G_place, B_place⟩ := ok_place (P := P) (w := w) (base := base) Z O
  refine fnR0 O.d_le sc_Tree_le (fun _ _ _ _ _ _ us hl => match us, hl with | [_, _], _ => rfl) (fun vs H Q E h => ?_) (fun cdv A outer s H vs Q E hr h => ?_)
  · obtain ⟨x, y, t, u, rfl, _⟩ := h
    rfl
  · obtain ⟨x, y, t, u, rfl, ht, hu, q⟩ := h
    refine ⟨_, (pss_cons (ps_if (pt_not (pt_val (pe_callB call_isi (by rfl) T.z_isinstance (by decide +kernel) (pa_cons (pv 1) (pa_cons (pe_glob (v := .ref (CT K)) (by rfl) Z.v_Tree rfl) pa_nil)))))
(pss_one (ps_ret pe_dead))
pss_nil)
(pss_one (ps_ret (pe_cmpR (op_leN hr.units) (pe_meth0 (pv 0) Z.cl O.m_place G_place (hr.mono (by omega)) B_place .nil pass0) (pe_meth0 (pv 1) Z.cl O.m_place G_place (hr.mono (by omega)) B_place .nil pass0) (nomark _))))), ?_⟩
    obtain ⟨a, dx, p, rfl, ha⟩ := ht.at
    obtain ⟨b, dy, r, rfl, hb⟩ := hu.at
    have ins : TyX K H (.ref b) (.ref (CT K)) := .base (.ins hb Z.cl W.ic W.ig W.it W.im)
    refine ⟨.ref b, rfl, .ref b, .ref (CT K), _, _, _, rfl, .own _, ins, kit_same _, true, rfl, ?_⟩
    refine iteF ?_
    refine ⟨.ref a, rfl, a, dx, _, rfl, ha, by cases t; rfl, .ref a, t, rfl, ht, fun c nc => ?_⟩
    have s1 : Same H (upd H c (.tup [.int (sz t : Int), .str (mk (tm t))])) := Same.new nc
    refine ⟨.ref b, rfl, b, dy, _, rfl, s1 _ _ hb, by cases u; rfl, .ref b, u, rfl, TO.same s1 hu, fun e ne => ?_⟩
    have s2 := s1.trans (Same.new (o := .tup [.int (sz u : Int), .str (mk (tm u))]) ne)
    exact ⟨nt t, nt u, dp_nt (Same.new ne _ _ upd_same), dp_nt upd_same, q _ s2⟩
theorem ok_eq (T : Tx K mg) (Z : Tc K mg) (W : Tw K) (O : To K) : FnR P w K mg base CX0 2 (mT K "__eq__") (sp_cmp (CT K) fun p q => decide (p = q)) := by
  obtain ⟨fdp, G_place, B_place⟩ := ok_place (P := P) (w := w) (base := base) Z O
  refine fnR0 O.d_eq sc_Tree_eq (fun _ _ _ _ _ _ us hl => match us, hl with | [_, _], _ => rfl) (fun vs H Q E h => ?_) (fun cdv A outer s H vs Q E hr h => ?_)
  · obtain ⟨x, y, t, u, rfl, _⟩ := h
    rfl
  · obtain ⟨x, y, t, u, rfl, ht, hu, q⟩ := h
    refine ⟨_, (pss_cons (ps_if (pt_not (pt_val (pe_callB call_isi (by rfl) T.z_isinstance (by decide +kernel) (pa_cons (pv 1) (pa_cons (pe_glob (v := .ref (CT K)) (by rfl) Z.v_Tree rfl) pa_nil)))))
(pss_one (ps_ret pe_dead))
pss_nil)
(pss_one (ps_ret (pe_cmpR (op_eqN hr.units) (pe_meth0 (pv 0) Z.cl O.m_place G_place (hr.mono (by omega)) B_place .nil pass0) (pe_meth0 (pv 1) Z.cl O.m_place G_place (hr.mono (by omega)) B_place .nil pass0) (nomark _))))), ?_⟩
    obtain ⟨a, dx, p, rfl, ha⟩ := ht.at
    obtain ⟨b, dy, r, rfl, hb⟩ := hu.at
    have ins : TyX K H (.ref b) (.ref (CT K)) := .base (.ins hb Z.cl W.ic W.ig W.it W.im)
    refine ⟨.ref b, rfl, .ref b, .ref (CT K), _, _, _, rfl, .own _, ins, kit_same _, true, rfl, ?_⟩
    refine iteF ?_
    refine ⟨.ref a, rfl, a, dx, _, rfl, ha, by cases t; rfl, .ref a, t, rfl, ht, fun c nc => ?_⟩
    have s1 : Same H (upd H c (.tup [.int (sz t : Int), .str (mk (tm t))])) := Same.new nc
    refine ⟨.ref b, rfl, b, dy, _, rfl, s1 _ _ hb, by cases u; rfl, .ref b, u, rfl, TO.same s1 hu, fun e ne => ?_⟩
    have s2 := s1.trans (Same.new (o := .tup [.int (sz u : Int), .str (mk (tm u))]) ne)
    exact ⟨nt t, nt u, dp_nt (Same.new ne _ _ upd_same), dp_nt upd_same, q _ s2⟩
end
end TW

namespace TW
open PySem PySem.Spec PyProof.Rows L2
theorem u1 {k : Nat} {A : Around} (hr : Room k A) : A.units + 1 < cLine := by
  have := hr.units
  omega
/-! ### C(e, .., *y), C a class of the module -/
theorem pe_makeGS {X : Cx} {CX : CXT} {k : Nat} {f C : Addr} {sp : Sp} {E : XK} {x : Str} {p pos : Pos} {e : Expr} {es : List Expr} {t : TA} (M : Mk X.K C f) (F : FnR X.prog X.w X.K X.mg X.base CX k f sp) (hr : Room (k + 1) X.A) (hg : Gl X x) (hm : X.mg x = some (.ref C)) (hx : Passes CX X E) (ha : PA X (e :: es) t)
    (hdb : (x == ("__debug__" : Str)) = false := by decide) (he : starEach (e :: es) X.env = (false, eval e X.env) :: starEach es X.env := by rfl) (hpl : (backTo pos (starEach es X.env)).any (·.1) = true := by rfl) : PE X (.Call (.Name x p) (e :: es) [] pos) (StX.tMakeR C sp E t) := by
  refine ⟨fun pins s σ H Q I h => ?_⟩
  refine wpAny_Call_Name_kw (ld_glob I hg hm ?_ hdb)
  refine PySem.W.callWith_S2 (h₀ := X.base) I.ok.mod.kin M.kp (thn (ha.run pos pins s σ _ _ I h) fun us s2 ⟨vs, H2, I2, r, q⟩ => ⟨I2.kIn, ?_⟩) he hpl
  exact StX.run_makeR M F hr hx I2 r q
/-- the dict at g holds the trees of L -/
def DL (C : Addr) (ks : List (List Nat)) (H : Hp) (g : Addr) (L : LM) : Prop := ∃ kvs : List (Key × V), H g = some (.dK kvs) ∧ kvs.length ≤ 1 + nK L ks ∧ ∀ w, match L w with
  | some t => ∃ v, valV kvs (.inr (mk w)) = some v ∧ TO C H v t
  | none => valV kvs (.inr (mk w)) = none
theorem DL.hit {C : Addr} {ks : List (List Nat)} {H : Hp} {g : Addr} {L : LM} (h : DL C ks H g L) {w : List Nat} {t : Tr} (e : L w = some t) : ∃ v, DGet H g (.str (mk w)) (some v) ∧ TO C H v t := by
  obtain ⟨kvs, hg, hlen, h⟩ := h
  have := h w
  rw [e] at this
  obtain ⟨v, hv, ht⟩ := this
  exact ⟨v, by rw [← hv]; exact DGet.k (k := .inr (mk w)) hg, ht⟩
theorem DL.get {C : Addr} {ks : List (List Nat)} {H : Hp} {g : Addr} {L : LM} (h : DL C ks H g L) (w : List Nat) : ∃ o, DGet H g (.str (mk w)) o ∧ o.isSome = (L w).isSome := by
  obtain ⟨kvs, hg, hlen, h⟩ := h
  refine ⟨valV kvs (.inr (mk w)), DGet.k (k := .inr (mk w)) hg, ?_⟩
  have := h w
  cases e : L w with
  | none =>
    rw [e] at this
    rw [this]
    rfl
  | some t =>
    rw [e] at this
    obtain ⟨v, hv, _⟩ := this
    rw [hv]
    rfl
theorem DL.same {C : Addr} {ks : List (List Nat)} {H H' : Hp} {g : Addr} {L : LM} (h : DL C ks H g L) (s : Same H H') : DL C ks H' g L := by
  obtain ⟨kvs, hg, hlen, h⟩ := h
  refine ⟨kvs, s _ _ hg, hlen, fun w => ?_⟩
  have := h w
  cases e : L w with
  | none =>
    rw [e] at this
    exact this
  | some t =>
    rw [e] at this
    obtain ⟨v, hv, ht⟩ := this
    exact ⟨v, hv, TO.same s ht⟩
/-- trees stand when a dict is written -/
theorem TO.kd {C : Addr} {H : Hp} {g : Addr} {kvs : List (Key × V)} {o : HO} (e : H g = some (.dK kvs)) : ∀ {v : V} {t : Tr}, TO C H v t → TO C (upd H g o) v t := by
  have key : ∀ n (v : V) (t : Tr), sz t < n → TO C H v t → TO C (upd H g o) v t := by
    intro n
    induction n with
    | zero => intro v t h; cases h
    | succ n ih =>
      intro v t hz h
      obtain ⟨nm, ks⟩ := t
      rw [TO] at h ⊢
      obtain ⟨a, dx, p, vs, rfl, h1, h2, h3⟩ := h
      have ne1 : a ≠ g := fun z => by rw [z, e] at h1; cases h1
      have ne2 : p ≠ g := fun z => by rw [z, e] at h2; cases h2
      refine ⟨a, dx, p, vs, rfl, by rw [upd_ne ne1]; exact h1, by rw [upd_ne ne2]; exact h2, ?_⟩
      have sub : ∀ (vs : List V) (ks : List Tr), szs ks < n → TOs C H vs ks → TOs C (upd H g o) vs ks := by
        intro vs
        induction vs with
        | nil =>
          intro ks _ h
          cases ks with
          | nil => rw [TOs]; trivial
          | cons _ _ => simp [TOs] at h
        | cons v vs ihv =>
          intro ks hz h
          cases ks with
          | nil => simp [TOs] at h
          | cons k ks =>
            rw [TOs] at h ⊢
            rw [szs] at hz
            exact ⟨ih v k (by omega) h.1, ihv ks (by omega) h.2⟩
      rw [sz] at hz
      exact sub vs ks (by omega) h3
  exact fun {v t} h => key (sz t + 1) v t (Nat.lt_succ_self _) h
theorem lt_iff (t u : Tr) : PySem.W.DatumOrd.lt (nt t) (nt u) = true ↔ ltT t u := by
  show (if (sz t : Int) = (sz u : Int) then decide (tm t < tm u) else decide ((sz t : Int) < (sz u : Int))) = true ↔ _
  unfold ltT
  by_cases e : (sz t : Int) = (sz u : Int)
  · rw [if_pos e]
    constructor
    · intro h
      exact .inr ⟨by omega, of_decide_eq_true h⟩
    · rintro (h | h)
      · omega
      · exact decide_eq_true h.2
  · rw [if_neg e]
    constructor
    · intro h
      have := of_decide_eq_true h
      exact .inl (by omega)
    · rintro (h | h)
      · exact decide_eq_true (by omega)
      · omega
/-- a tree that the rows give, over the digit 0 -/
inductive Drv (rs : List Rw) : List Nat → Tr → Prop
  | dig : Drv rs digW (.nd [48] [])
  | row (r : Rw) (ts : List Tr) : r ∈ rs → ts.length = r.ws.length → (∀ (i : Nat) (w : List Nat) (t : Tr), r.ws[i]? = some w → ts[i]? = some t → Drv rs w t) → Drv rs r.kd (.nd r.nm ts)
structure LOkS (rs : List Rw) (L : LM) : Prop where
  ok : LOk L (kds rs)
  sd : ∀ w t, L w = some t → Drv rs w t
theorem LOkS.wf {rs : List Rw} {L : LM} (h : LOkS rs L) : ∀ w t, L w = some t → TW.wf t = true := h.ok.wf
theorem LOkS.sz {rs : List Rw} {L : LM} (h : LOkS rs L) : ∀ w t, L w = some t → TW.sz t ≤ Sb (nK L (kds rs)) := h.ok.sz
theorem fm_get {L : LM} : ∀ {ws : List (List Nat)} {i : Nat} {w : List Nat} {t : Tr}, (∀ w ∈ ws, (L w).isSome = true) → ws[i]? = some w → (ws.filterMap L)[i]? = some t → L w = some t
  | [], _, _, _, _, e, _ => by simp at e
  | w0 :: r, 0, w, t, h, e, e2 => by
    obtain ⟨t0, ht⟩ := Option.isSome_iff_exists.mp (h w0 List.mem_cons_self)
    cases Option.some.inj e
    rw [List.filterMap_cons, ht] at e2
    rw [ht]
    exact e2
  | w0 :: r, i + 1, w, t, h, e, e2 => by
    obtain ⟨t0, ht⟩ := Option.isSome_iff_exists.mp (h w0 List.mem_cons_self)
    rw [List.filterMap_cons, ht] at e2
    exact fm_get (fun x hx => h x (List.mem_cons_of_mem _ hx)) e e2
theorem LOkS.drv {rs : List Rw} {L : LM} (h : LOkS rs L) {r : Rw} (hr : r ∈ rs) (hall : ∀ w ∈ r.ws, (L w).isSome = true) : Drv rs r.kd (.nd r.nm (r.ws.filterMap L)) :=
  .row r _ hr (fm_len hall) fun i w t e e2 => h.sd w t (fm_get hall e e2)
theorem LOkS.up {rs : List Rw} {L : LM} {k : List Nat} {t : Tr} (h : LOkS rs L) (nd : (kds rs).Nodup) (hk : k ∈ kds rs) (kd : k ≠ digW) (wt : TW.wf t = true) (hs : TW.sz t ≤ 1 + 3 * Sb (nK L (kds rs))) (hl : ∀ u, L k = some u → TW.sz t ≤ TW.sz u) (d : Drv rs k t) : LOkS rs (TW.up L k t) := by
  refine ⟨h.ok.up nd hk kd wt hs hl, fun w u e => ?_⟩
  unfold TW.up at e
  by_cases z : w = k
  · rw [if_pos z] at e
    rw [z, ← Option.some.inj e]
    exact d
  · rw [if_neg z] at e
    exact h.sd w u e
def sp_least (C CM : Addr) : Sp := fun vs H Q _ => ∃ (a : Addr) (us : List V) (rs : List Rw), vs = [.ref a] ∧ H a = some (.lst us) ∧ All2 (MO CM H) us rs ∧ rs.length ≤ 100 ∧ (kds rs).length ≤ 3 ∧ (∀ r ∈ rs, bigN r.nm = true ∧ bigN r.kd = true ∧ r.ws.length ≤ 3 ∧ ∀ w ∈ r.ws, w = digW ∨ w ∈ kds rs) ∧
  ∀ H' g L, Same H H' → H g = none → DL C (kds rs) H' g L → LOkS rs L → (∀ r ∈ rs, Cl L r) → Q (.ref g) H'
theorem nK_old {L : LM} {k : List Nat} {t : Tr} (hi : (L k).isSome = true) (ks : List (List Nat)) : nK (up L k t) ks = nK L ks := by
  refine List.countP_congr fun w hw => ?_
  unfold up
  by_cases e : w = k
  · rw [if_pos e, e]
    exact ⟨fun _ => hi, fun _ => rfl⟩
  · rw [if_neg e]
theorem nK_new {L : LM} {k : List Nat} {t : Tr} (hi : (L k).isSome = false) : ∀ (ks : List (List Nat)), k ∈ ks → nK L ks + 1 ≤ nK (up L k t) ks
  | [], hk => by cases hk
  | x :: r, hk => by
    have le : ∀ ks : List (List Nat), nK L ks ≤ nK (up L k t) ks := fun ks => List.countP_mono_left fun w _ h => by
      unfold up
      by_cases e : w = k
      · rw [if_pos e]
        rfl
      · rw [if_neg e]
        exact h
    show List.countP _ (x :: r) + 1 ≤ List.countP _ (x :: r)
    rw [List.countP_cons, List.countP_cons]
    by_cases e : x = k
    · have l2 : List.countP (fun k' => (L k').isSome) r ≤ List.countP (fun k' => (up L k t k').isSome) r := le r
      have e1 : (up L k t x).isSome = true := by
        unfold up
        rw [if_pos e]
        rfl
      have e2 : (L x).isSome = false := by rw [e]; exact hi
      rw [e1, e2]
      simp
      omega
    · have ih : List.countP (fun k' => (L k').isSome) r + 1 ≤ List.countP (fun k' => (up L k t k').isSome) r := nK_new hi r ((List.mem_cons.mp hk).resolve_left fun z => e z.symm)
      have ex : up L k t x = L x := by
        unfold up
        rw [if_neg e]
      rw [ex]
      omega
theorem DL.put {C : Addr} {ks : List (List Nat)} {H : Hp} {g : Addr} {L : LM} {k : List Nat} {v : V} {t : Tr} (h : DL C ks H g L) (hk : k ∈ ks) (small : ks.length ≤ 3) (ht : TO C H v t) : ∃ kvs, DPut H g (.str (mk k)) v (upd H g (.dK kvs)) ∧ DL C ks (upd H g (.dK kvs)) g (up L k t) := by
  obtain ⟨kvs, hg, hlen, h⟩ := h
  have nk := nK_le L ks
  refine ⟨putK kvs (.inr (mk k)) v, DPut.k (k := .inr (mk k)) hg (Nat.lt_of_le_of_lt (show kvs.length ≤ 4 by omega) (by decide)), putK kvs (.inr (mk k)) v, upd_same, ?_, fun w => ?_⟩
  · have hkk := h k
    cases e : L k with
    | none =>
      rw [e] at hkk
      rw [putK_new v hkk, List.length_append]
      have := nK_new (t := t) (show (L k).isSome = false by rw [e]; rfl) ks hk
      show kvs.length + 1 ≤ _
      omega
    | some u =>
      rw [e] at hkk
      obtain ⟨v', hv', _⟩ := hkk
      rw [nK_old (show (L k).isSome = true by rw [e]; rfl) ks]
      unfold putK
      rw [valV_any, hv', if_pos (show (some v').isSome = true from rfl), List.length_map]
      exact hlen
  · unfold up
    rw [valV_put]
    by_cases e : w = k
    · subst e
      rw [if_pos rfl, if_pos rfl]
      exact ⟨v, rfl, TO.kd hg ht⟩
    · rw [if_neg e, if_neg (fun z => e (mk_inj (Sum.inr.inj z)))]
      have := h w
      cases e' : L w with
      | none =>
        rw [e'] at this
        exact this
      | some u =>
        rw [e'] at this
        obtain ⟨v', h1, h2⟩ := this
        exact ⟨v', h1, TO.kd hg h2⟩
section
variable {P : Program} {w : World} {K : PySem.W.Frag} {mg : Str → Option Value} {base : Heap}
theorem rd_makeM (Z : Tc K mg) (M : Tk K mg) {i j : Nat} {σ : L2.St} {H : Hp} {Q : VK} {E : XK} {ad dx p g : Addr} {r : Rw} {js : List Tr} {ys : List V} (hi : σ[i]? = some (some (.ref ad))) (had : H ad = some (.ins (CM K) dx (mfs r p))) (hj : σ[j]? = some (some (.ref g))) (eg : H g = some (.lst ys))
    (hy : TOs (CT K) H ys js) (hw : wf (.nd r.nm js) = true) (hz : sz (.nd r.nm js) ≤ 1000) (c : ∀ H' a', Same H H' → TO (CT K) H' (.ref a') (.nd r.nm js) → Q (.ref a') H') :
    StX.tMakeR (CT K) (sp_star (CT K)) E (tCons (tFld K (tVar i) "name") (StX.tStar K (tVar j) tNil)) σ H Q := by
  refine ⟨.ref ad, hi, ad, _, dx, _, _, rfl, had, M.cl, M.a_name, rfl, .ref g, hj, g, ys, rfl, .inr (SqL.of eg), ?_⟩
  exact mk_tree (C := CT K) (H := H) (Q := Q) (n := r.nm) (us := ys ++ []) (ks := js) (by rw [List.append_nil]; exact hy) hw (Nat.le_trans hz (by decide)) fun H' a' s5 _ to5 => c H' a' s5 to5
theorem ok_least (T : Tx K mg) (Z : Tc K mg) (M : Tk K mg) (W : Tw K) (O : To K) : FnR P w K mg base CX0 4 (He.ga K "least_trees") (sp_least (CT K) (CM K)) := by
  have G_digit : FnR P w K mg base CX0 3 (He.ga K "digit") (sp_digit (CT K)) := ok_digit T Z
  have G_init : FnR P w K mg base CX0 1 (mT K "__init__") (sp_star (CT K)) := ok_init T Z
  have G_lt : FnR P w K mg base CX0 2 (mT K "__lt__") (sp_cmp (CT K) fun p q => PySem.W.DatumOrd.lt p q) := ok_lt T Z W O
  refine fnR0 T.d_least_trees sc_least_trees (fun _ _ _ _ _ _ us hl => match us, hl with | [_], _ => rfl) (fun vs H Q E h => ?_) (fun cdv A outer s H vs Q E hr h => ?_)
  · obtain ⟨a, us, rs, rfl, _⟩ := h
    rfl
  · obtain ⟨a, us, rs, rfl, ha, hm, hl, k3, hw, q⟩ := h
    refine ⟨_, (pss_cons (ps_set (i := 1) sc_least_trees.nd rfl (.inr rfl) (pe_disp (pps_cons pe_str (pe_cr G_digit (hr.mono (by omega)) (by rfl) T.v_digit T.k_digit pass0 (pa_cons pe_int pa_nil)) pps_nil) (by rfl) (by rfl) (by simp) (by decide)))
(pss_cons (ps_set (i := 2) sc_least_trees.nd rfl (.inl rfl) pe_bl)
(pss_cons (ps_while PassesOwn.never (pt_val (pv 2))
(pss_cons (ps_set (i := 2) sc_least_trees.nd rfl (.inl rfl) pe_bl)
(pss_one (ps_for PassesOwn.never rfl (pi_list (pv 0)) (pg_name (i := 3) sc_least_trees.nd rfl (.inl rfl))
(pss_cons (ps_if (pt_not (pt_val (pe_callB (cr_all rfl) (by rfl) T.z_all (by decide +kernel) (pa_cons (pe_lc (own := [("want", 6)]) (g := gName 6) rfl sc_least_trees.nd (pi_tup (pe_fldK K (pv 3) rfl)) (blkOk_by (own := [("want", 6)]) (N := N_least_trees) (sc := defScope s_least_trees) (by decide +kernel)) (fun _ _ _ _ _ => pg_name (i := 6) sc_least_trees.nd rfl (.inl rfl)) (fun _ _ _ _ _ => pts_nil) (fun _ _ _ _ _ => (pe_cmp (pc_din (u1 hr) (pv 6) (pv 1))))) pa_nil))))
(pss_one ps_continue)
pss_nil)
(pss_cons (ps_setLc (i := 4) (own := [("want", 6)]) (g := gName 6) rfl sc_least_trees.nd rfl rfl (sw_true rfl rfl rfl (by decide +kernel)) (pi_tup (pe_fldK K (pv 3) rfl)) (blkOk_by (own := [("want", 6)]) (N := N_least_trees) (sc := defScope s_least_trees) (by decide +kernel)) (fun _ _ _ _ _ => pg_name (i := 6) sc_least_trees.nd rfl (.inl rfl)) (fun _ _ _ _ _ => pts_nil) (fun _ _ _ _ _ => (pe_dget (u1 hr) (pv 1) (pv 6) (fun _ _ => rfl))))
(pss_cons (ps_set (i := 5) sc_least_trees.nd rfl (.inl rfl) (pe_makeGS Z.mk_ G_init (hr.mono (by omega)) (by rfl) Z.v_Tree pass0 (pa_cons (pe_fldK K (pv 3) rfl) (StX.pa_star (pv 4) pa_nil))))
(pss_one (ps_if (PW.pt (pw_or (pt_cmp (pc_dnotin (u1 hr) (pe_fldK K (pv 3) rfl) (pv 1))) (pw_or1 (pt_cmpR (op_cmpT (op := .Lt) (fun _ _ => rfl) O.at_lt O.fn_lt G_lt (hr.mono (by omega)) (E := E0) pass0) (pv 5) (pe_dget (u1 hr) (pv 1) (pe_fldK K (pv 3) rfl) (fun _ _ => rfl)) (nomark _)))))
(pss_cons (ps_asg (pv 5) (pg_sub (pv 1) (pe_fldK K (pv 3) rfl) (set_dict (u1 hr))))
(pss_one (ps_set (i := 2) sc_least_trees.nd rfl (.inl rfl) pe_bl)))
pss_nil)))))))))
(pss_one (ps_ret (pv 1)))))), ?_⟩
    intro g ng
    refine ⟨0, rfl, by decide, fun H1 v0 s1 to1 => ⟨s1 _ _ upd_same, [(.inr (mk digW), v0)], rfl, (show 1 ≤ 15 by decide), ?_⟩⟩
    have s01 : Same H (upd H1 g (.dK (mergeK [] [(.inr (mk digW), v0)]))) := fun b o e => by
      rw [upd_ne (ne_of_none e ng)]
      exact s1 _ _ (Same.new ng _ _ e)
    obtain ⟨L0, eL0⟩ : ∃ L0 : LM, L0 = fun w => if w = digW then some (.nd [48] []) else none := ⟨_, rfl⟩
    have lok0 : LOkS rs L0 := by
      refine ⟨⟨by rw [eL0]; rfl, fun w hw' => ?_, fun w t ht => ?_, fun w t ht => ?_⟩, fun w t ht => ?_⟩
      · rw [eL0] at hw'
        dsimp only at hw'
        by_cases e : w = digW
        · exact .inl e
        · rw [if_neg e] at hw'
          cases hw'
      · rw [eL0] at ht
        dsimp only at ht
        by_cases e : w = digW
        · rw [if_pos e] at ht
          rw [← Option.some.inj ht]
          rfl
        · rw [if_neg e] at ht
          cases ht
      · rw [eL0] at ht
        dsimp only at ht
        by_cases e : w = digW
        · rw [if_pos e] at ht
          rw [← Option.some.inj ht]
          exact Nat.le_trans (show sz (.nd [48] []) ≤ Sb 0 by decide) (Sb_mono (Nat.zero_le _))
        · rw [if_neg e] at ht
          cases ht
      · rw [eL0] at ht
        dsimp only at ht
        by_cases e : w = digW
        · rw [if_pos e] at ht
          rw [e, ← Option.some.inj ht]
          exact .dig
        · rw [if_neg e] at ht
          cases ht
    have to0 : TO (CT K) (upd H1 g (.dK (mergeK [] [(.inr (mk digW), v0)]))) v0 (.nd [48] []) := TO.kd (s1 _ _ upd_same) to1
    have dl0 : DL (CT K) (kds rs) (upd H1 g (.dK (mergeK [] [(.inr (mk digW), v0)]))) g L0 := by
      refine ⟨_, upd_same, Nat.le_add_right 1 _, fun w => ?_⟩
      rw [eL0]
      dsimp only
      show match (if w = digW then some (Tr.nd [48] []) else none) with
        | some t => ∃ v, valV (putK [] (Sum.inr (mk digW) : Key) v0) (Sum.inr (mk w) : Key) = some v ∧ TO (CT K) _ v t
        | none => valV (putK [] (Sum.inr (mk digW) : Key) v0) (Sum.inr (mk w) : Key) = none
      rw [valV_put]
      by_cases e : w = digW
      · rw [if_pos e, e, if_pos rfl]
        exact ⟨v0, rfl, to0⟩
      · rw [if_neg e, if_neg (fun z => e (mk_inj (Sum.inr.inj z)))]
        rfl
    generalize upd H1 g (.dK (mergeK [] [(.inr (mk digW), v0)])) = H2 at s01 dl0
    refine ⟨fun m σ H5 => ∃ b L y3 y4 y5 y6, σ = [some (.ref a), some (.ref g), some (.bl b), y3, y4, y5, y6] ∧ Same H H5 ∧ DL (CT K) (kds rs) H5 g L ∧ LOkS rs L ∧ m = 2 * Phi 500 L (kds rs) + (if b = true then 1 else 0) ∧ (b = false → ∀ r ∈ rs, Cl L r),
      ⟨_, true, L0, none, none, none, none, rfl, s01, dl0, lok0, rfl, fun z => nomatch z⟩, ?_⟩
    rintro m σ H5 ⟨b, L, y3, y4, y5, y6, rfl, s5, dl5, lok5, rfl, hb⟩
    refine ⟨.bl b, rfl, b, rfl, ite2 (fun e => ?_) (fun e => ?_)⟩
    · subst e
      refine ⟨_, fun σ' H' h => h, ?_⟩
      refine ⟨.ref a, rfl, a, rfl, ⟨_, SqL.of (s5 _ _ ha)⟩, for_list (xs := us) (fun i σ H6 => ∃ b L1 y3 y4 y5 y6, σ = [some (.ref a), some (.ref g), some (.bl b), y3, y4, y5, y6] ∧ Same H H6 ∧ DL (CT K) (kds rs) H6 g L1 ∧ LOkS rs L1 ∧
        ((b = false ∧ L1 = L ∧ ∀ r ∈ rs.take i, Cl L r) ∨ (b = true ∧ Phi 500 L1 (kds rs) < Phi 500 L (kds rs)))) ⟨false, L, _, _, _, _, rfl, s5, dl5, lok5, .inl ⟨rfl, rfl, by rw [List.take_zero]; exact fun r hr => nomatch hr⟩⟩ ?_ ?_ ?_⟩
      · rintro i σ H6 _ ⟨b, L1, y3, y4, y5, y6, _, s6, _⟩
        exact SqL.of (s6 _ _ ha)
      · rintro i x σ H6 hx ⟨b, L1, y3, y4, y5, y6, rfl, s6, dl6, lok6, inv⟩
        obtain ⟨r, er, mo⟩ := hm.get hx
        have rm := List.mem_of_getElem? er
        obtain ⟨bn, bk, w3, wk'⟩ := hw r rm
        obtain ⟨b1, dx, p, rfl, hb1, hp⟩ := mo.same s6
        have et := take_get er
        have sl : (strL r.ws).length = r.ws.length := List.length_map _
        refine ⟨.ref b1, rfl, b1, _, dx, _, _, rfl, hb1, M.cl, M.a_wants, rfl, p, rfl, ⟨_, SqT.of hp⟩, fun D nD => ?_⟩
        refine lc_pureT (fs := r.ws.map fun w => V.bl (L1 w).isSome) hp nD (by rw [List.length_map, sl]) (by omega) (fun _ => rfl) ?_ ?_
        · intro k x y H' Q' hx' hy' s' q'
          rw [List.getElem?_map] at hx' hy'
          cases ew : r.ws[k]? with
          | none => rw [ew] at hx'; cases hx'
          | some w0 =>
            rw [ew] at hx' hy'
            have e1 := Option.some.inj hx'
            have e2 := Option.some.inj hy'
            subst e1 e2
            obtain ⟨o, dg, eo⟩ := (dl6.same s').get w0
            refine ⟨_, rfl, .ref g, rfl, g, o, rfl, dg, ?_⟩
            rw [eo]
            exact q'
        have s7 := Same.new (o := .lst (r.ws.map fun w => V.bl (L1 w).isSome)) nD
        refine ⟨D, r.ws.map fun w => (L1 w).isSome, rfl, SqL.of (by rw [upd_same, List.map_map]; rfl), _, rfl, ?_⟩
        generalize upd H6 D (.lst (r.ws.map fun w => V.bl (L1 w).isSome)) = H7 at s7
        have dl7 := dl6.same s7
        have s07 := s6.trans s7
        by_cases hall : ∀ w ∈ r.ws, (L1 w).isSome = true
        case neg =>
          have : (r.ws.map fun w => (L1 w).isSome).all id = false := by
            rw [Bool.eq_false_iff]
            intro z
            refine hall fun w hw' => ?_
            exact List.all_eq_true.mp z _ (List.mem_map.mpr ⟨w, hw', rfl⟩)
          rw [this]
          refine iteT ⟨b, L1, _, _, _, _, rfl, s07, dl7, lok6, ?_⟩
          rcases inv with ⟨e1, rfl, cl⟩ | h
          · refine .inl ⟨e1, rfl, fun r' hr' => ?_⟩
            rw [et] at hr'
            rcases List.mem_append.mp hr' with z | z
            · exact cl r' z
            · rw [List.mem_singleton.mp z]
              exact fun z => absurd z hall
          · exact .inr h
        have : (r.ws.map fun w => (L1 w).isSome).all id = true := List.all_eq_true.mpr fun x hx' => by
          obtain ⟨w, hw', e⟩ := List.mem_map.mp hx'
          rw [← e]
          exact hall w hw'
        rw [this]
        refine iteF ?_
        -- the parts
        have hb7 := s7 _ _ hb1
        have hp7 := s7 _ _ hp
        refine ⟨.ref b1, rfl, b1, _, dx, _, _, rfl, hb7, M.cl, M.a_wants, rfl, p, rfl, ⟨_, SqT.of hp7⟩, fun D2 nD2 => ?_⟩
        refine lc_tup (xs := strL r.ws) (fun k H8 => ∃ ys, H8 D2 = some (.lst ys) ∧ Same H7 H8 ∧ TOs (CT K) H8 ys ((r.ws.take k).filterMap L1) ∧ ys.length ≤ k ∧ k ≤ r.ws.length) ?_ ?_ ?_ ?_
        · exact ⟨[], upd_same, Same.new nD2, by rw [List.take_zero, List.filterMap_nil, TOs]; trivial, Nat.le_refl _, Nat.zero_le _⟩
        · rintro k H8 _ ⟨ys, _, s8, _⟩
          exact SqT.of (s8 _ _ hp7)
        · rintro k x H8 hx' ⟨ys, eD2, s8, hy, yl, kl⟩
          have klt : k < r.ws.length := by
            have := (List.getElem?_eq_some_iff.mp hx').1
            omega
          rw [List.getElem?_map] at hx'
          cases ew : r.ws[k]? with
          | none => rw [ew] at hx'; cases hx'
          | some w0 =>
            rw [ew] at hx'
            have e1 := Option.some.inj hx'
            subst e1
            obtain ⟨t0, ht0⟩ := Option.isSome_iff_exists.mp (hall w0 (List.mem_of_getElem? ew))
            obtain ⟨v, dg, to⟩ := (dl7.same s8).hit ht0
            refine ⟨rfl, ?_⟩
            unfold tYes
            dsimp only
            rw [if_pos rfl]
            have kk : Kp H8 (upd H8 D2 (.lst (ys ++ [v]))) := Kp.lst eD2
            refine ⟨.ref g, rfl, _, rfl, g, v, rfl, dg, ys, eD2, small1000 (by omega), ys ++ [v], upd_same, ?_, ?_, ?_, klt⟩
            · intro b' o e
              rw [upd_ne (ne_of_none e nD2)]
              exact s8 _ _ e
            · rw [take_get ew, List.filterMap_append, List.filterMap_cons, ht0]
              exact TOs.snoc (TO.kp kk _ _ to) (TOs.kp kk _ _ hy)
            · rw [List.length_append]
              exact Nat.succ_le_succ yl
        rintro H8 ⟨ys, eD2, s8, hy, _, _⟩
        rw [sl, List.take_length] at hy
        have s08 := s07.trans s8
        have dl8 := dl7.same s8
        have zk := nK_le L1 (kds rs)
        have dv1 := lok6.drv rm hall
        have wt : wf (.nd r.nm (r.ws.filterMap L1)) = true := bigN_wf bn (by rw [fm_len hall]; exact w3) (fm_wf lok6.wf)
        have zs := fm_sz (ws := r.ws) lok6.sz
        have zt : sz (.nd r.nm (r.ws.filterMap L1)) ≤ 1 + 3 * Sb (nK L1 (kds rs)) := by
          rw [sz]
          have : r.ws.length * Sb (nK L1 (kds rs)) ≤ 3 * Sb (nK L1 (kds rs)) := Nat.mul_le_mul_right _ w3
          omega
        have zb := Sb_le (Nat.le_trans zk k3)
        unfold gName
        dsimp only
        unfold tSeq tAsg
        refine rd_makeM (i := 3) (j := 4) (E := E0) Z M ?_ (s8 _ _ hb7) ?_ eD2 hy wt (by omega) fun H9 ta s9 to9 => ?_
        · rfl
        · rfl
        have s09 := s08.trans s9
        have dl9 := dl8.same s9
        have hb9 := s9 _ _ (s8 _ _ hb7)
        have km := kds_mem rm
        have kd : r.kd ≠ digW := fun z => by
          rw [z] at bk
          cases bk
        obtain ⟨tt, ett⟩ : ∃ tt, tt = Tr.nd r.nm (r.ws.filterMap L1) := ⟨_, rfl⟩
        rw [← ett] at to9 wt zt dv1
        have phi : Phi 500 L1 (kds rs) ≤ Phi 500 L (kds rs) := by
          rcases inv with ⟨_, e, _⟩ | ⟨_, h⟩
          · rw [e]
            exact Nat.le_refl _
          · exact Nat.le_of_lt h
        have fin : ∀ HA, Same H9 HA → cL 500 (some tt) < cL 500 (L1 r.kd) → (∀ u, L1 r.kd = some u → sz tt ≤ sz u) → ∃ HB, DPut HA g (.str (mk r.kd)) (.ref ta) HB ∧ Same H HB ∧ DL (CT K) (kds rs) HB g (up L1 r.kd tt) ∧ LOkS rs (up L1 r.kd tt) ∧ Phi 500 (up L1 r.kd tt) (kds rs) < Phi 500 L (kds rs) := fun HA sA hc hs => by
          obtain ⟨kvs, dp, dl⟩ := (dl9.same sA).put (k := r.kd) (v := .ref ta) (t := tt) km k3 (TO.same sA to9)
          refine ⟨_, dp, fun b' o e => ?_, dl, lok6.up (kds_nodup rs) km kd wt zt hs dv1, Nat.lt_of_lt_of_le (Phi_lt hc (kds rs) km) phi⟩
          rw [upd_ne (ne_of_none e ng)]
          exact sA _ _ (s09 _ _ e)
        have put : ∀ HA, Same H9 HA → cL 500 (some tt) < cL 500 (L1 r.kd) → (∀ u, L1 r.kd = some u → sz tt ≤ sz u) → ∃ HB, DPut HA g (.str (mk r.kd)) (.ref ta) HB ∧ ∃ b L1' y3' y4' y5' y6', [some (V.ref a), some (.ref g), some (.bl true), some (.ref b1), some (.ref D2), some (.ref ta), y6] = [some (.ref a), some (.ref g), some (.bl b), y3', y4', y5', y6'] ∧ Same H HB ∧ DL (CT K) (kds rs) HB g L1' ∧ LOkS rs L1' ∧
            ((b = false ∧ L1' = L ∧ ∀ r ∈ rs.take (i + 1), Cl L r) ∨ (b = true ∧ Phi 500 L1' (kds rs) < Phi 500 L (kds rs))) := fun HA sA hc hs => by
          obtain ⟨HB, h1, h2, h3, h4, h5⟩ := fin HA sA hc hs
          exact ⟨HB, h1, true, _, _, _, _, _, rfl, h2, h3, h4, .inr ⟨rfl, h5⟩⟩
        obtain ⟨o, dg, eo⟩ := dl9.get r.kd
        have z41 : sz tt ≤ 121 := by omega
        refine ⟨.ref b1, rfl, b1, _, dx, _, _, rfl, hb9, M.cl, M.a_kind, rfl, .ref g, rfl, g, o, rfl, dg, _, rfl, ?_⟩
        rw [eo]
        cases ek : L1 r.kd with
        | none =>
          have n1 := nK_new (t := tt) (show (L1 r.kd).isSome = false by rw [ek]; rfl) (kds rs) km
          have n2 := nK_le (up L1 r.kd tt) (kds rs)
          have n3 : Sb (nK L1 (kds rs)) ≤ Sb 2 := Sb_mono (by omega)
          have n4 : Sb 2 = 13 := by decide
          obtain ⟨HB, dp, fin⟩ := put H9 (Same.refl _) (by rw [ek]; exact cL_none wt (by omega)) (fun u hu => by rw [ek] at hu; cases hu)
          exact iteT (iteT ⟨.ref ta, rfl, .ref g, rfl, .ref b1, rfl, b1, _, dx, _, _, rfl, hb9, M.cl, M.a_kind, rfl, g, HB, rfl, dp, fin⟩)
        | some u =>
          obtain ⟨v, dgv, tov⟩ := dl9.hit ek
          obtain ⟨ta', dt, pt', e1, hta⟩ := to9.at
          cases e1
          obtain ⟨av, dv, pv', rfl, hav⟩ := tov.at
          have zu := lok6.sz r.kd u ek
          have wu := lok6.wf r.kd u ek
          refine iteF ⟨.ref ta, rfl, .ref g, rfl, .ref b1, rfl, b1, _, dx, _, _, rfl, hb9, M.cl, M.a_kind, rfl, g, .ref av, rfl, dgv, ta, dt, _, av, dv, _, rfl, rfl, hta, hav, .ref ta, .ref av, tt, u, rfl, to9, tov, fun HA sA => ⟨_, rfl, ite2 (fun e => ?_) (fun e => ?_)⟩⟩
          · have lt := (lt_iff tt u).mp e
            have zz : sz tt ≤ sz u := by
              rcases lt with h | h
              · omega
              · omega
            have t1 := tm_len tt wt
            have t2 := tm_len u wu
            obtain ⟨HB, dp, fin⟩ := put HA sA (by rw [ek]; exact cL_lt wt wu (by omega) (by omega) lt) (fun u' hu => by rw [ek] at hu; rw [← Option.some.inj hu]; exact zz)
            exact ⟨.ref ta, rfl, .ref g, rfl, .ref b1, rfl, b1, _, dx, _, _, rfl, sA _ _ hb9, M.cl, M.a_kind, rfl, g, HB, rfl, dp, fin⟩
          · have nlt : ¬ ltT tt u := fun h => e ((lt_iff tt u).mpr h)
            refine ⟨b, L1, _, _, _, _, rfl, s09.trans sA, dl9.same sA, lok6, ?_⟩
            rcases inv with ⟨e1, e2, cl⟩ | h
            · refine .inl ⟨e1, e2, fun r' hr' => ?_⟩
              rw [et] at hr'
              rcases List.mem_append.mp hr' with z | z
              · exact cl r' z
              · rw [List.mem_singleton.mp z, ← e2]
                exact fun _ => ⟨u, ek, by rw [← ett]; exact nlt⟩
            · exact .inr h
      · rintro σ H6 ⟨b, L1, y3, y4, y5, y6, rfl, s6, dl6, lok6, inv⟩
        have ul : us.length = rs.length := hm.len
        rw [ul, List.take_length] at inv
        rcases inv with ⟨rfl, rfl, cl⟩ | ⟨rfl, lt⟩
        · exact ⟨_, by show 2 * _ + 0 < 2 * _ + 1; omega, false, L1, _, _, _, _, rfl, s6, dl6, lok6, rfl, fun _ => cl⟩
        · exact ⟨_, by show 2 * _ + 1 < 2 * _ + 1; omega, true, L1, _, _, _, _, rfl, s6, dl6, lok6, rfl, fun z => nomatch z⟩
    · have eb : b = false := Bool.eq_false_iff.mpr e
      exact ⟨.ref g, rfl, q _ g L s5 ng dl5 lok5 (hb eb)⟩
end
end TW

/-! an own error over an own class over ValueError: super().__init__(text), then two fields -/
namespace PySem
namespace TWY
open PySem.W PySem.Calls PyProof.Rows PySem.HandSPX
def eA (f g : Str) (p1 p2 p3 : Pos) : Arguments := { posonlyargs := [], args := [{ arg := "self", annotation := none, pos := p1 }, { arg := f, annotation := none, pos := p2 }, { arg := g, annotation := none, pos := p3 }], vararg := none, kwonlyargs := [], kw_defaults := [], kwarg := none, defaults := [] }
def eB (f g msg : Str) (j : Nat) (p0 p1 p2 p3 p4 p5 q1 q2 q3 q4 r1 r2 r3 r4 : Pos) : List Stmt :=
  [.Expr (.Call (.Attribute (.Call (.Name "super" p0) [] [] p1) "__init__" p2) [.Constant (.str msg) j p3] [] p4) p5, .Assign [.Attribute (.Name "self" q1) f q2] (.Name f q3) q4, .Assign [.Attribute (.Name "self" r1) g r2] (.Name g r3) r4]
def eS (f g : Str) : Scope := { kind := .function, names := [(PySem.Str.ofString "self", .local), (f, .local), (g, .local), (PySem.Str.ofString "__class__", .free), (PySem.Str.ofString "super", .globalImplicit)], isGenerator := false, isCoroutine := false, more := [] }
/-- the fields' names are none of the def's other names -/
structure Fld (f g : Str) : Prop where
  l1 : (eS f g).names.lookup f = some .local
  l1g : (eS f g).names.lookup g = some .local
  l2 : (eS f g).names.lookup ("super" : Str) = some .globalImplicit
  l3 : (eS f g).names.lookup ("__class__" : Str) = some .free
  ns : f ≠ "self"
  nsg : g ≠ "self"
  nfg : g ≠ f
  nd : (f == ("__debug__" : Str)) = false
  ndg : (g == ("__debug__" : Str)) = false
  bd : ∀ (p1 p2 p3 : Pos) (q : Str) (bo : List Stmt) (doc pm : Value) (an : Option Addr) (cdv ct : Value) (cc : Addr) (a b c : Value), bindArgs (ksFn "__init__" q (eA f g p1 p2 p3) bo (eS f g) .none .none doc pm an cdv ct cc) ⟨[a, b, c], []⟩ = pure [(("self" : Str), a), (f, b), (g, c)]
/-- what the written part says of the class at C, of its __init__ at fI, of the program -/
structure Err (prog : Program) (K : Frag) (mg : Str → Option Value) (C fI : Addr) (q f g msg : Str) : Prop where
  cls : ∃ nm q N bs bm sn sub ab col dd k0 k1 k2 k3 k5, K.lookup C = some (excClassObj nm q C N bs bm true sn sub ab col dd k0 k1 k2 k3 k5 "ValueError.__new__") ∧ refsVE bm = true
  sa : findIn K (.ref C) "__setattr__" = some (some (.builtin "object.__setattr__"))
  no : findIn K (.ref C) f = some none
  nog : findIn K (.ref C) g = some none
  iC : findIn K (.ref C) "__init__" = some (some (.ref fI))
  tC : typeIn K (.ref fI) = some (.type "function")
  kC : keepIn K (.ref C) = true
  exC : subIn K (.ref C) (.type "BaseException") = some true
  veC : subIn K (.ref C) (.type "ValueError") = some true
  tyC : typeIn K (.ref C) = some (.type "type")
  sup : ks_superIn K C C "__init__" = some (some (.builtin "ValueError.__init__"))
  me : mroIn K C (.ref C) = some true
  opq : nsIn K cStatics "thirdparty.any" = some none
  nosup : mg "super" = none
  top : (prog.main.scope.names.lookup ("super" : Str)).isSome = false
  fn : ∃ (oc : Value) (od : Option Addr) (doc pm : Value) (an : Option Addr) (ct : Value) (osl : Array (Option Value)) (cda cc : Addr) (j : Nat) (p1 p2 p3 o0 o1 o2 o3 o4 o5 q1 q2 q3 q4 r1 r2 r3 r4 : Pos),
    K.lookup fI = some ⟨oc, od, .func (ksFn "__init__" q (eA f g p1 p2 p3) (eB f g msg j o0 o1 o2 o3 o4 o5 q1 q2 q3 q4 r1 r2 r3 r4) (eS f g) .none .none doc pm an (.ref cda) ct cc), osl⟩ ∧ codeIn K (.ref cda) q = true ∧
    (∃ cl cld csl, K.lookup cc = some ⟨cl, cld, .cell (some (.ref C)), csl⟩) ∧ ∃ ccl cdd vs ccs file tf, K.lookup cda = some ⟨ccl, cdd, .fields vs, ccs⟩ ∧ vs[2]? = some (.str file tf) ∧ ((prog.main.file : Str) == file) = true ∧ (o2.endLine == o4.line) = true
abbrev two (f g : Str) (v u : Value) : Str → Option Value := fun y => if y = g then some u else if y = f then some v else none
structure End (h h' : Heap) (x C dx t1 : Addr) (f g : Str) (v u : Value) : Prop where
  keep : ∀ b o, b ≠ x → h.get? b = some o → h'.get? b = some o
  obj : h'.get? x = some { cls := .ref C, dict := some dx, data := .fields #[.ref t1, .none, .none, .none, .bool false, .none] }
  dbig : h.objs.size ≤ dx
  dne : dx ≠ x
  ns : h'.Ns1 dx (two f g v u)
structure Made (h h' : Heap) (e C d : Addr) (f g : Str) (v u : Value) : Prop where
  keep : ∀ b o, h.get? b = some o → h'.get? b = some o
  new : h.objs.size ≤ e
  obj : ∃ oe vs, h'.get? e = some oe ∧ oe.cls = .ref C ∧ oe.dict = some d ∧ oe.data = .fields vs ∧ vs[1]? = some .none
  dbig : h.objs.size ≤ d
  dne : d ≠ e
  ns : h'.Ns1 d (two f g v u)
section
variable {prog : Program} {w : World} {A : Around} {E : Value → Shared → Prop} {R : Result → Shared → Prop} {s : Shared} {K : Frag} {mg : Str → Option Value} {base : Heap} {C fI : Addr} {q f g2 msg : Str}
theorem err_init (T : Err prog K mg C fI q f g2 msg) (G : Fld f g2) (MB : L2.Mod K mg base) (bk : ∀ b o, base.get? b = some o → s.heap.get? b = some o) {x t0 : Addr} {v u : Value} (hx : s.heap.get? x = some (excO C t0)) (hnx : base.get? x = none) (hroom : A.depth < recursionLimit)
    (hq : ∀ h' tk dx t1, End s.heap h' x C dx t1 f g2 v u → R (.ok (.ret .none)) { s with heap := h', toks := tk }) :
    codeAny (model prog w) A (.call (.ref fI) ⟨[.ref x, v, u], []⟩) R s := by
  obtain ⟨oc, od, doc, pm, an, ct, osl, cda, cc, j, p1, p2, p3, o0, o1, o2, o3, o4, o5, q1, q2, q3, q4, r1, r2, r3, r4, ho, hcd, ⟨cl, cld, csl, hcell⟩, ccl, cdd, vs, ccs, file, tf, hcode, hvs, hfile, hline⟩ := T.fn
  obtain ⟨nm, q', N, bs, bm, sn, sub, ab, col, dd, k0, k1, k2, k3, k5, hC, hbm⟩ := T.cls
  have hcl : clsIn K C = some { name := nm, bases := bs, mro := .ref C :: bm, ns := N, qualname := q', hasDict := true, slotNames := sn, subclasses := sub, abstract := ab, collection := col, hasDel := false } := by unfold clsIn; rw [hC] <;> rfl
  have X : K.In s.heap := MB.kin.keeps bk
  refine ks_codeAny_call_defAt (fd := ksFn "__init__" q (eA f g2 p1 p2 p3) (eB f g2 msg j o0 o1 o2 o3 o4 o5 q1 q2 q3 q4 r1 r2 r3 r4) (eS f g2) .none .none doc pm an (.ref cda) ct cc) (body := eB f g2 msg j o0 o1 o2 o3 o4 o5 q1 q2 q3 q4 r1 r2 r3 r4) (binds := [(("self" : Str), .ref x), (f, v), (g2, u)])
    hroom (X _ _ ho) rfl (MB.nolimit.keeps bk) (codeRec_of X hcd) rfl (BindsTo.of_eq (G.bd ..)) ?_ ?_ (fun h₁ hn k => ?_) rfl rfl rfl
  · intro y hy
    rcases List.mem_cons.mp hy with rfl | hy
    · intro z; cases z
    rcases List.mem_cons.mp hy with rfl | hy
    · intro z; cases z
    rcases List.mem_cons.mp hy with rfl | hy
    · intro z; cases z
    rcases List.mem_cons.mp hy with rfl | hy
    · intro z; cases z
    rcases List.mem_cons.mp hy with rfl | hy
    · intro z; cases z
    cases hy
  · intro y hy
    rcases List.mem_cons.mp hy with rfl | hy
    · rfl
    rcases List.mem_cons.mp hy with rfl | hy
    · exact G.l1
    rcases List.mem_cons.mp hy with rfl | hy
    · exact G.l1g
    cases hy
  have m1 : List.lookup ("self" : Str) ([("self", Value.ref x), (f, v), (g2, u)] : List (Str × Value)).reverse = some (.ref x) := by
    show List.lookup ("self" : Str) ([(g2, u), (f, v), ("self", .ref x)] : List (Str × Value)) = _
    have : (("self" : Str) == f) = false := by simpa using (Ne.symm G.ns)
    have t2 : (("self" : Str) == g2) = false := by simpa using (Ne.symm G.nsg)
    simp [List.lookup, this, t2]
  have m2 : List.lookup f ([("self", Value.ref x), (f, v), (g2, u)] : List (Str × Value)).reverse = some v := by
    show List.lookup f ([(g2, u), (f, v), ("self", .ref x)] : List (Str × Value)) = _
    have t2 : (f == g2) = false := by simpa using (Ne.symm G.nfg)
    simp [List.lookup, t2]
  have m3 : List.lookup g2 ([("self", Value.ref x), (f, v), (g2, u)] : List (Str × Value)).reverse = some u := by
    show List.lookup g2 ([(g2, u), (f, v), ("self", .ref x)] : List (Str × Value)) = _
    simp [List.lookup]
  obtain ⟨mm, emm⟩ : ∃ mm : Str → Option Value, mm = fun y => List.lookup y ([("self", Value.ref x), (f, v), (g2, u)] : List (Str × Value)).reverse := ⟨_, rfl⟩
  have hn : h₁.Ns s.heap.objs.size mm := by rw [emm]; exact hn
  have m1 : mm "self" = some (.ref x) := by rw [emm]; exact m1
  have m2 : mm f = some v := by rw [emm]; exact m2
  have m3 : mm g2 = some u := by rw [emm]; exact m3
  have bk₁ : ∀ b o, base.get? b = some o → h₁.get? b = some o := fun b o e => k b o (bk b o e)
  have X₁ : K.In h₁ := MB.kin.keeps bk₁
  have hx₁ := k _ _ hx
  obtain ⟨s_h, s_g, s_d, s_t, s_o⟩ := s
  obtain ⟨mb, hb1, hb2⟩ := MB.blt
  have hz : s_h.objs.size < h₁.objs.size := hn.lt
  -- super().__init__(text)
  refine ks_wpAt_execs_cons (ks_wpAt_Expr_any (ks_wpAt_MethodCall (ks_wpAt_super_base (fd := ksFn "__init__" q (eA f g2 p1 p2 p3) (eB f g2 msg j o0 o1 o2 o3 o4 o5 q1 q2 q3 q4 r1 r2 r3 r4) (eS f g2) .none .none doc pm an (.ref cda) ct cc) (ar := { arg := "self", annotation := none, pos := p1 }) G.l2 G.l3 (by decide) rfl (X₁ _ _ ho) rfl rfl rfl (X₁ _ _ hcode) rfl hvs hfile T.top ?_) (PySem.TWX.mc_line hline rfl)))
  refine ks_loadName_global rfl G.l2 (loadGlobal_builtin (MB.glob.keeps bk₁) T.nosup (hb1.keeps bk₁) ((hb2 _ (by decide)).trans (by first | boot_by_name | rfl | kernel_rfl)) ⟨rfl, ?_⟩)
  refine wpAny_loadName_free rfl G.l3 rfl ⟨_, X₁ _ _ hcell, rfl⟩ ?_
  refine wpAny_loadName_local rfl rfl hn m1 ?_
  refine ks_wpAny_isType_cls (X₁ _ _ hC) rfl ⟨rfl, ?_⟩
  refine ks_wpAny_call_super (X₁ _ _ hC) rfl hx₁ rfl (fun c e => by cases e) (looks_mroIn X₁ T.me) (fun h₂ e₂ kk₂ => ?_)
  have X₂ : K.In h₂ := X₁.keeps kk₂
  have hx₂ := kk₂ _ _ hx₁
  have I₂ : InstAt h₂ x (excO C t0) C none := ⟨hx₂, rfl, rfl, trivial⟩
  have hm : alongIn K "__init__" (((Value.ref C :: bm).dropWhile (· != .ref C)).drop 1) = some (some (.builtin "ValueError.__init__")) := by
    have z := T.sup
    unfold ks_superIn at z
    rw [hcl] at z
    exact z
  refine kxs_getMethod kxs_ValueError e₂ (looks_opaque X₂ T.opq) (l₀ := .ref C :: bm) (fun A Q E s k q => wpAny_bind ((looks_clsIn X₂ hcl) A _ E s k (wpAny_pure q))) rfl X₂ hm (I₂.type.andThen (looks_subIn X₂ T.veC)) (ks_ne X₂ I₂ hcl) (by decide) ?_
  refine kxs_callWith (i := "ValueError.__init__") (x := x) rfl (evalArgs_plain ?_)
  refine wpAny_mono (Q := fun vs s' => ∃ tk, vs = [.str msg tk] ∧ s' = ⟨h₂.push (kxs_mw "ValueError.__init__" x), s_g, s_d, tk + 1, s_o⟩) (E := fun _ _ => False) ?_ (fun vs s' z => ?_) fun _ _ z => z.elim
  · exact fun Γ p hΓ => ⟨_, rfl, rfl⟩
  obtain ⟨tk, rfl, rfl⟩ := z
  refine ⟨by show (h₂.push _).get? _ = _; heap_get, ?_⟩
  refine PySem.TWX.call_mw (Heap.get?_push_of_some _ (X₂ _ _ hC)) (Heap.get?_push_of_some _ hx₂) (by heap_get) (by show 1 ≤ sizeLine; rw [sizeLine_eq]; decide) (fun h₃ t1 k₃ hx₃ => ?_)
  -- self.f = f
  have k₁₃ : ∀ b o, b ≠ x → h₁.get? b = some o → h₃.get? b = some o := fun b o hb e => k₃ b o hb (Heap.get?_push_of_some _ (kk₂ b o e))
  have hn₃ : h₃.Ns s_h.objs.size mm := by
    obtain ⟨oL, es, ep, hL, r⟩ := hn
    exact ⟨oL, es, ep, k₁₃ _ _ (Nat.ne_of_gt (Heap.lt_size hx)) hL, r⟩
  have X₃ : K.In h₃ := fun a o e => k₁₃ a o (fun z => by rw [z] at e; have := MB.kin _ _ e; rw [hnx] at this; cases this) (X₁ a o e)
  refine ks_wpAt_execs_cons (ks_wpAt_Assign_Attr ?_)
  refine wpAt_of_wpAny (wpAny_Name (wpAny_loadName_local rfl G.l1 hn₃ m2 (wpAny_Name (wpAny_loadName_local rfl rfl hn₃ m1 ?_) (by decide))) G.nd)
  refine set_plain X₃ (ox := excO C t1) (od := none) ⟨hx₃, rfl, rfl, trivial⟩ T.sa ?_
  refine exc_osa X₃ hx₃ hcl (show refsVE (.ref C :: bm) = true from hbm) rfl T.no (fun h₄ tk₄ dx k₄ dn dne hx₄ hn₄ => ?_)
  have sz : s_h.objs.size ≤ dx := Nat.le_trans (Nat.le_of_lt (Nat.lt_of_lt_of_le hn₃.lt dn)) (Nat.le_refl _)
  have hn₄' : h₄.Ns s_h.objs.size mm := by
    obtain ⟨oL, es, ep, hL, r⟩ := hn₃
    exact ⟨oL, es, ep, k₄ _ _ (Nat.ne_of_gt (Heap.lt_size hx)) hL, r⟩
  have X₄ : K.In h₄ := fun a o e => k₄ a o (fun z => by rw [z] at e; have := MB.kin _ _ e; rw [hnx] at this; cases this) (X₃ a o e)
  have hw : Within (fun y => if y = f then some v else none) [f] := fun y hy => by
    by_cases e : y = f
    · rw [e]; exact List.mem_cons_self
    · exact (hy (if_neg e)).elim
  obtain ⟨oD, esD, epD, hoD, _, _⟩ := hn₄.count hw
  refine ks_wpAt_execs_cons (ks_wpAt_Assign_Attr ?_)
  refine wpAt_of_wpAny (wpAny_Name (wpAny_loadName_local rfl G.l1g hn₄' m3 (wpAny_Name (wpAny_loadName_local rfl rfl hn₄' m1 ?_) (by decide))) G.ndg)
  refine set_plain X₄ (ox := { cls := .ref C, dict := some dx, data := .fields #[.ref t1, .none, .none, .none, .bool false, .none] }) (od := some oD) ⟨hx₄, rfl, rfl, hoD⟩ T.sa ?_
  refine PySem.OEX.osa_old X₄ hx₄ hn₄ hw (by show 1 ≤ 1000; decide) hcl (show refsVE (.ref C :: bm) = true from hbm) rfl T.nog (fun h₅ tk₅ k₅ hn₅ => ?_)
  exact wpAt_of_wpAny (wpAny_execs_nil (hq h₅ tk₅ dx t1 ⟨fun b o hb e => k₅ b o (fun z => absurd (Heap.lt_size e) (by rw [z]; exact Nat.not_lt.mpr sz)) (k₄ b o hb (k₁₃ b o hb (k b o e))), k₅ _ _ dne.symm hx₄, sz, dne, hn₅⟩))
theorem err_made (T : Err prog K mg C fI q f g2 msg) (G : Fld f g2) (MB : L2.Mod K mg base) (bk : ∀ b o, base.get? b = some o → s.heap.get? b = some o) {v u : Value} (hroom : A.depth + 1 < recursionLimit)
    (hq : ∀ h' tk e d, Made s.heap h' e C d f g2 v u → R (.ok (.ret (.ref e))) { s with heap := h', toks := tk }) :
    codeAny (model prog w) A (.call (.ref C) ⟨[v, u], []⟩) R s := by
  obtain ⟨nm, q, N, bs, bm, sn, sub, ab, col, dd, k0, k1, k2, k3, k5, hC, hbm⟩ := T.cls
  have X : K.In s.heap := MB.kin.keeps bk
  obtain ⟨hp, g, dr, tk, os⟩ := s
  have k : ∀ b o, hp.get? b = some o → ((hp.push (kdv_tup [v, u])).push (excO C hp.objs.size)).get? b = some o := fun b o e => Heap.get?_push_of_some _ (Heap.get?_push_of_some _ e)
  have hget : ((hp.push (kdv_tup [v, u])).push (excO C hp.objs.size)).get? (hp.objs.size + 1) = some (excO C hp.objs.size) := by heap_get
  have hnx : base.get? (hp.objs.size + 1) = none := by
    cases e : base.get? (hp.objs.size + 1) with
    | none => rfl
    | some o => exact absurd (Nat.lt_of_succ_lt (Heap.lt_size (bk _ _ e))) (Nat.lt_irrefl _)
  refine call_own F.excBase_ValueError (fun X => refsVE_contains X bm hbm) (X _ _ hC) (looks_findIn X T.iC) (fun self => bind_fn X self T.tC) (by show 2 ≤ sizeLine; rw [sizeLine_eq]; decide) ?_
  refine err_init (s := ⟨(hp.push (kdv_tup [v, u])).push (excO C hp.objs.size), g, dr, tk, os⟩) T G MB (fun b o e => k b o (bk b o e)) hget hnx hroom fun h' tk' dx t1 ⟨k', hx, dn, dne, hns⟩ => ?_
  have old : ∀ b o, hp.get? b = some o → h'.get? b = some o := fun b o e => k' b o (Nat.ne_of_lt (Nat.lt_succ_of_lt (Heap.lt_size e))) (k b o e)
  have z : hp.objs.size + 1 + 1 ≤ dx := by
    have q := dn
    rw [Heap.size_push, Heap.size_push] at q
    exact q
  exact ⟨rfl, hq h' tk' (hp.objs.size + 1) dx ⟨old, Nat.le_succ _, ⟨_, _, hx, rfl, rfl, rfl, rfl⟩, Nat.le_trans (Nat.le_trans (Nat.le_succ _) (Nat.le_succ _)) z, dne, hns⟩⟩
end
end TWY
end PySem
namespace TW
open PySem PySem.Spec PyProof.Rows L2
theorem fld_sign : PySem.TWY.Fld "at" "expected" := ⟨rfl, rfl, rfl, rfl, by decide, by decide, by decide, by decide, by decide, fun _ _ _ _ _ _ _ _ _ _ _ _ _ _ => by with_unfolding_all rfl⟩
end TW

namespace TW
open PySem PySem.Spec PyProof.Rows L2
theorem relO_two {v u : V} {v' u' : Value} {n m : Str} (hn : m ≠ n) (r : RelV v v') (q : RelV u u') (f : Str) : RelO (List.lookup f [(n, v), (m, u)]) (PySem.TWY.two n m v' u' f) := by
  unfold PySem.TWY.two
  by_cases h2 : f = m
  · subst h2
    rw [if_pos rfl]
    have e1 : (f == n) = false := by simpa using hn
    have e : List.lookup f [(n, v), (f, u)] = some u := by simp [List.lookup, e1]
    rw [e]
    exact q
  · rw [if_neg h2]
    have e2 : (f == m) = false := by simpa using h2
    by_cases h1 : f = n
    · subst h1
      rw [if_pos rfl]
      have e : List.lookup f [(f, v), (m, u)] = some v := by simp [List.lookup]
      rw [e]
      exact r
    · rw [if_neg h1]
      have e1 : (f == n) = false := by simpa using h1
      have e : List.lookup f [(n, v), (m, u)] = none := by simp [List.lookup, e1, e2]
      rw [e]
      trivial
section
variable {X : Cx} {C fI : Addr} {q f g2 msg : Str}
/-- C(e1, e2): the error's dict is laid, the error itself is let go -/
def tMkE2 (C : Addr) (f g2 : Str) (ta : TA) : L2.St → Hp → XK → Prop := fun σ H Q => ta σ H fun vs H1 => ∃ v u, vs = [v, u] ∧ ∀ d, H1 d = none → Q (.ref C) (some d) (upd H1 d (.xd [(f, v), (g2, u)]))
theorem pmk_err2 {a b : Expr} {ta : TA} {x : Str} {p pos : Pos} (T : PySem.TWY.Err X.prog X.K X.mg C fI q f g2 msg) (G : PySem.TWY.Fld f g2) (hr : Room 1 X.A) (hm : X.mg x = some (.ref C)) (ha : PA X [a, b] ta) (hg : Gl X x)
    (hdb : (x == ("__debug__" : Str)) = false := by decide) (he : starEach (a :: [b]) X.env = (false, eval a X.env) :: starEach [b] X.env := by rfl) (hpl : (backTo pos (starEach [b] X.env)).any (·.1) = false := by rfl) :
    PMk X (.Call (.Name x p) [a, b] [] pos) (tMkE2 C f g2 ta) := by
  intro pins s σ H Q I h
  refine wpAny_Call_Name_kw (ld_glob I hg hm ?_ hdb)
  refine PySem.W.callWith_K (h₀ := X.base) I.ok.mod.kin T.kC (thn (ha.run pos pins s σ H _ I h) fun us s1 hh => ?_) he hpl
  obtain ⟨vs, H1, I1, r1, v, u, ev, q1⟩ := hh
  subst ev
  refine ⟨I1.kIn, ?_⟩
  cases r1 with
  | cons rv rn =>
  rename_i v' us'
  cases rn with
  | cons ru rn =>
    rename_i u' us''
    cases rn
    show wpAny _ _ (call (.ref C) [v', u']) _ _ _
    have bk := I1.bk
    obtain ⟨hp, g, dr, tk, os⟩ := s1
    refine wpAny_call (PySem.TWY.err_made T G I1.mod bk (by have := hr.dp; omega) fun h' tk' e d M => ?_)
    show MkP X pins σ Q (.ref e) ⟨h', g, dr, tk', os⟩
    obtain ⟨oe, fv, hoe, hc, hd, hdat, h1⟩ := M.obj
    have hns := M.ns
    obtain ⟨G', g1, g2'⟩ := restrict h' fun b => decide (b ≠ e)
    have gk : ∀ b, b ≠ e → G'.get? b = h'.get? b := fun b hb => g1 b (decide_eq_true hb)
    have ge : G'.get? e = none := g2' e (by simp)
    have old : ∀ b o, hp.get? b = some o → G'.get? b = some o := fun b o q => (gk b (Nat.ne_of_lt (Nat.lt_of_lt_of_le (Heap.lt_size q) M.new))).trans (M.keep b o q)
    have ob : ObjOk X.prog X.w (upd H1 d (.xd [(f, v), (g2, u)])) G' d (.xd [(f, v), (g2, u)]) :=
      ⟨_, hns.at (fun o q => (gk d M.dne).trans q), fun g => relO_two G.nfg rv ru g⟩
    have J : Inv X pins σ (upd H1 d (.xd [(f, v), (g2, u)])) ⟨G', g, dr, tk', os⟩ := I1.laid (t' := tk') old M.dbig ob
    refine ⟨e, oe, fv, ⟨G', g, dr, tk', os⟩, _, .ref C, some d, rfl, J, fun b o q => ?_, ge, hoe, ⟨hc, hd⟩, hdat, h1, ?_, rfl, I1.bare, raises_own T.exC T.tyC, q1 d (I1.hok.fresh M.dbig)⟩
    · by_cases hb : b = e
      · have q' : G'.get? b = some o := q
        rw [hb, ge] at q'; cases q'
      · exact (gk b hb).symm.trans q
    · rw [upd_ne (Ne.symm M.dne)]
      exact I1.hok.fresh M.new
/-- raise C(e1, e2) -/
def tRaiseE2 (C : Addr) (f g2 : Str) (W : WX) (ta : TA) : TS := fun _ σ H => tMkE2 C f g2 ta σ H fun cls d H' => W cls d σ H'
theorem ps_raiseE2 {a b : Expr} {ta : TA} {W : WX} {x : Str} {p pos pos2 : Pos} (T : PySem.TWY.Err X.prog X.K X.mg C fI q f g2 msg) (G : PySem.TWY.Fld f g2) (hr : Room 1 X.A) (hm : X.mg x = some (.ref C)) (hc : X.calm = true) (tk : Takes X W) (ha : PA X [a, b] ta) (hg : Gl X x)
    (hdb : (x == ("__debug__" : Str)) = false := by decide) (he : starEach (a :: [b]) X.env = (false, eval a X.env) :: starEach [b] X.env := by rfl) (hpl : (backTo pos (starEach [b] X.env)).any (·.1) = false := by rfl) :
    PS X (.Raise (some (.Call (.Name x p) [a, b] [] pos)) none pos2) (tRaiseE2 C f g2 W ta) := ps_raise hc tk (pmk_err2 T G hr hm ha hg hdb he hpl)
end
end TW

namespace TW
open PySem PySem.Spec PyProof.Rows L2
abbrev CBT (K : PySem.W.Frag) : Addr := He.ga K "BadTable"
theorem fld_row : PySem.TWY.Fld "row" "reason" := ⟨rfl, rfl, rfl, rfl, by decide, by decide, by decide, by decide, by decide, fun _ _ _ _ _ _ _ _ _ _ _ _ _ _ => by with_unfolding_all rfl⟩
/-- BadTable -/
structure TeT (P : Program) (K : PySem.W.Frag) (mg : Str → Option Value) : Prop where
  v_BadTable : mg "BadTable" = some (.ref (CBT K))
  e_bt : PySem.TWY.Err P K mg (CBT K) (He.ma K (CBT K) "__init__") "BadTable.__init__" "row" "reason" "this row of the table is not allowed"
/-- a right table -/
structure TR (rs : List Rw) : Prop where
  lo : 1 ≤ rs.length
  hi : rs.length ≤ 10
  rows : ∀ (i : Nat) (r : Rw), rs[i]? = some r → RwOk (rs.take i) r
  k3 : (kds rs).length ≤ 3
  wk : ∀ r ∈ rs, ∀ w ∈ r.ws, w = digW ∨ w ∈ kds rs
  starts : ∀ (i j : Nat) (r r' : Rw), i < j → rs[i]? = some r → rs[j]? = some r' → r.kd = r'.kd → stW r ≠ stW r'
  gr : Gr rs
def kinD : List Nat := [107, 105, 110, 100]
def begD : List Nat := [98, 101, 103, 105, 110, 115]
def finD : List Nat := [102, 105, 110, 105, 116, 101]
abbrev Flt := Option (Nat × List Nat)
def p1 (bs : List Rw) : List Rw → Flt
  | [] => none
  | r :: rest => if fltA bs r = [] then p1 (bs ++ [r]) rest else some (bs.length, fltA bs r)
def p2 (ks : List (List Nat)) : List Rw → Nat → Flt
  | [], _ => none
  | r :: rest, i => if ∀ w ∈ r.ws, w = digW ∨ w ∈ ks then p2 ks rest (i + 1) else some (i, kinD)
def p3 (bs : List Rw) : List Rw → Flt
  | [] => none
  | r :: rest => if ∀ r' ∈ bs, r'.kd = r.kd → stW r' ≠ stW r then p3 (bs ++ [r]) rest else some (bs.length, begD)
open Classical in
noncomputable def p4 (rs : List Rw) : List Rw → Nat → Flt
  | [], _ => none
  | r :: rest, i => if ∃ t, Drv rs r.kd t then p4 rs rest (i + 1) else some (i, finD)
/-- the first fault of the first pass that finds one -/
noncomputable def fltT (rs : List Rw) : Flt := (p1 [] rs).or ((p2 (kds rs) rs 0).or ((p3 [] rs).or (p4 rs rs 0)))
theorem drv_iff {rs : List Rw} {L : LM} (h : LOkS rs L) (cl : ∀ r ∈ rs, Cl L r) {k : List Nat} : (L k).isSome = true ↔ ∃ t, Drv rs k t := by
  constructor
  · intro z
    obtain ⟨t, e⟩ := Option.isSome_iff_exists.mp z
    exact ⟨t, h.sd k t e⟩
  · rintro ⟨t, d⟩
    induction d with
    | dig => rw [h.ok.dig]; rfl
    | row r ts hr hl _ ih =>
      obtain ⟨t', e, _⟩ := cl r hr fun w hw => by
        obtain ⟨i, hi⟩ := List.mem_iff_getElem?.mp hw
        have il := (List.getElem?_eq_some_iff.mp hi).1
        exact ih i w ts[i] hi (List.getElem?_eq_getElem (by omega))
      rw [e]
      rfl
theorem p1_none : ∀ {rest bs : List Rw}, p1 bs rest = none → ∀ (i : Nat) (r : Rw), rest[i]? = some r → fltA (bs ++ rest.take i) r = []
  | [], _, _, _, _, e => by simp at e
  | x :: rest, bs, h, 0, r, e => by
    obtain rfl := Option.some.inj e
    rw [p1] at h
    split at h
    · rename_i c
      rw [List.take_zero, List.append_nil]
      exact c
    · cases h
  | x :: rest, bs, h, i + 1, r, e => by
    rw [p1] at h
    split at h
    · have := p1_none h i r e
      rw [List.append_assoc] at this
      exact this
    · cases h
theorem p2_none {ks : List (List Nat)} : ∀ {rest : List Rw} {i : Nat}, p2 ks rest i = none → ∀ r ∈ rest, ∀ w ∈ r.ws, w = digW ∨ w ∈ ks
  | [], _, _, r, hr => nomatch hr
  | x :: rest, i, h, r, hr => by
    rw [p2] at h
    split at h
    · rename_i c
      rcases List.mem_cons.mp hr with rfl | hr
      · exact c
      · exact p2_none h r hr
    · cases h
theorem kds3 {rs : List Rw} (h : ∀ (i : Nat) (r : Rw), rs[i]? = some r → RwOk (rs.take i) r) : (kds rs).length ≤ 3 := by
  have key : ∀ n, n ≤ rs.length → (kds (rs.take n)).length ≤ 3 := by
    intro n
    induction n with
    | zero => intro _; exact Nat.zero_le _
    | succ n ih =>
      intro hn
      have er : rs[n]? = some rs[n] := List.getElem?_eq_getElem (by omega)
      have i1 := ih (by omega)
      have o := (h n _ er).few
      rw [take_get er]
      show (kdsF [] (rs.take n ++ [rs[n]])).length ≤ 3
      rw [kdsF_snoc]
      split
      · exact i1
      · rename_i hk
        have n3 := o.resolve_left hk
        have i1' : (kdsF [] (rs.take n)).length ≤ 3 := i1
        have n3' : (kdsF [] (rs.take n)).length ≠ 3 := n3
        rw [List.length_append, List.length_singleton]
        omega
  have := key rs.length (Nat.le_refl _)
  rw [List.take_length] at this
  exact this
/-- what is told of a wrong row -/
def RowE (K : PySem.W.Frag) (H : Hp) (E : XK) (z : Nat × List Nat) : Prop := ∀ H' d, Same H H' → H' d = none → E (.ref (CBT K)) (some d) (upd H' d (.xd [(("row" : Str), .int (z.1 : Nat)), (("reason" : Str), .str (mk z.2))]))
def sp_check (K : PySem.W.Frag) : Sp := fun vs H Q E => ∃ (a : Addr) (us : List V) (rs : List Rw), vs = [.ref a] ∧ H a = some (.lst us) ∧ All2 (MO (CM K) H) us rs ∧ rs.length ≤ 10 ∧ (∀ r ∈ rs, RwS r) ∧ (∀ z, fltT rs = some z → RowE K H E z) ∧ (fltT rs = none → ∀ H', Same H H' → Q .non H')
theorem drop_at {α : Type} {l : List α} {i : Nat} {z : α} (h : l[i]? = some z) : l.drop i = z :: l.drop (i + 1) := by
  obtain ⟨il, e⟩ := List.getElem?_eq_some_iff.mp h
  rw [List.drop_eq_getElem_cons il, e]
theorem or_some {a b : Flt} {z : Nat × List Nat} (h : a = some z) : a.or b = some z := by rw [h]; rfl
theorem or_none {a b : Flt} (h : a = none) : a.or b = b := by rw [h]; rfl
section
variable {P : Program} {w : World} {K : PySem.W.Frag} {mg : Str → Option Value} {base : Heap}
theorem ok_check (T : Tx K mg) (Z : Tc K mg) (M : Tk K mg) (N : Tn K mg) (CC : Tg mg) (W : Tw K) (O : To K) (JT : TeT P K mg) : FnR P w K mg base (L2.CX P w) 5 (He.ga K "check_rows") (sp_check K) := by
  have G_fault_alone : FnR P w K mg base CX0 2 (He.ga K "fault_alone") (sp_fault (CM K)) := ok_fault T M N CC
  have G_kinds_of : FnR P w K mg base CX0 1 (He.ga K "kinds_of") (sp_kinds (CM K)) := ok_kinds T M
  have G_start_of : FnR P w K mg base CX0 1 (He.ga K "start_of") (sp_start (CM K)) := ok_start T M CC
  have G_least_trees : FnR P w K mg base CX0 4 (He.ga K "least_trees") (sp_least (CT K) (CM K)) := ok_least T Z M W O
  refine fnRX T.d_check_rows sc_check_rows (fun _ _ _ _ _ _ us hl => match us, hl with | [_], _ => rfl) (fun vs H Q E h => ?_) (fun cdv A outer s H vs Q E hr h => ?_)
  · obtain ⟨a, us, rs, rfl, _⟩ := h
    rfl
  · obtain ⟨a, us, rs, rfl, ha, hm, hi, sane, qB, q⟩ := h
    refine ⟨_, (pss_cons (ps_for PassesOwn.leaving rfl (pi_range1 (by rfl) T.z_range (pa_cons (pe_callB call_len (by rfl) T.z_len (by decide +kernel) (pa_cons (pv 0) pa_nil)) pa_nil)) (pg_name (i := 1) sc_check_rows.nd rfl (.inl rfl))
(pss_cons (ps_set (i := 2) sc_check_rows.nd rfl (.inl rfl) (pe_cr G_fault_alone (hr.mono (by omega)) (by rfl) T.v_fault_alone T.k_fault_alone pass0 (pa_cons (pv 0) (pa_cons (pv 1) pa_nil))))
(pss_one (ps_if (pt_cmpR op_ne (pv 2) pe_str (nomark _))
(pss_one (ps_raiseE2 JT.e_bt fld_row (hr.mono (by omega)) JT.v_BadTable rfl (takes_of rfl rfl rfl rfl) (pa_cons (pv 1) (pa_cons (pv 2) pa_nil)) (by rfl)))
pss_nil))))
(pss_cons (ps_set (i := 3) sc_check_rows.nd rfl (.inr rfl) (pe_cr G_kinds_of (hr.mono (by omega)) (by rfl) T.v_kinds_of T.k_kinds_of pass0 (pa_cons (pv 0) pa_nil)))
(pss_cons (ps_for PassesOwn.leaving rfl (pi_enum (by rfl) T.z_enumerate (pa_cons (pv 0) pa_nil)) (pg_tup (by rfl) (pgs_cons (pg_name (i := 1) sc_check_rows.nd rfl (.inl rfl)) (pgs_cons (pg_name (i := 4) sc_check_rows.nd rfl (.inr rfl)) pgs_nil)))
(pss_one (ps_if (pt_not (pt_val (pe_callB (cr_all rfl) (by rfl) T.z_all (by decide +kernel) (pa_cons (pe_lc (own := [("want", 8)]) (g := gName 8) rfl sc_check_rows.nd (pi_tup (pe_fldK K (pv 4) rfl)) (blkOk_by (own := [("want", 8)]) (N := N_check_rows) (sc := defScope s_check_rows) (by decide +kernel)) (fun _ _ _ _ _ => pg_name (i := 8) sc_check_rows.nd rfl (.inl rfl)) (fun _ _ _ _ _ => pts_nil) (fun _ _ _ _ _ => (pe_or (pe_cmpR op_eq (pv 8) pe_str (nomark _)) (pe_one (pe_cmpR (r := rIn K false) op_in_seq (pv 8) (pv 3) (by rfl)))))) pa_nil))))
(pss_one (ps_raiseE2 JT.e_bt fld_row (hr.mono (by omega)) JT.v_BadTable rfl (takes_of rfl rfl rfl rfl) (pa_cons (pv 1) (pa_cons pe_str pa_nil)) (by rfl)))
pss_nil)))
(pss_cons (ps_for PassesOwn.leaving rfl (pi_enum (by rfl) T.z_enumerate (pa_cons (pv 0) pa_nil)) (pg_tup (by rfl) (pgs_cons (pg_name (i := 1) sc_check_rows.nd rfl (.inl rfl)) (pgs_cons (pg_name (i := 4) sc_check_rows.nd rfl (.inr rfl)) pgs_nil)))
(pss_cons (ps_setLc (i := 5) (own := [("other", 7)]) (g := gName 7) rfl sc_check_rows.nd rfl rfl (sw_true rfl rfl rfl (by decide +kernel)) (pi_list (pe_slice sl_list (pv 0) po_none (po_some (pv 1)))) (blkOk_by (own := [("other", 7)]) (N := N_check_rows) (sc := defScope s_check_rows) (by decide +kernel)) (fun _ _ _ _ _ => pg_name (i := 7) sc_check_rows.nd rfl (.inl rfl)) (fun _ _ _ _ _ => (pts_one (pt_cmpR op_eq (pe_fldK K (pv 7) rfl) (pe_fldK K (pv 4) rfl) (nomark _)))) (fun _ _ _ _ _ => (pe_cr G_start_of (hr.mono (by omega)) (by rfl) T.v_start_of T.k_start_of pass0 (pa_cons (pv 7) pa_nil))))
(pss_one (ps_if (pt_cmpR op_in_seq (pe_cr G_start_of (hr.mono (by omega)) (by rfl) T.v_start_of T.k_start_of pass0 (pa_cons (pv 4) pa_nil)) (pv 5) (by rfl))
(pss_one (ps_raiseE2 JT.e_bt fld_row (hr.mono (by omega)) JT.v_BadTable rfl (takes_of rfl rfl rfl rfl) (pa_cons (pv 1) (pa_cons pe_str pa_nil)) (by rfl)))
pss_nil))))
(pss_cons (ps_set (i := 6) sc_check_rows.nd rfl (.inl rfl) (pe_cr G_least_trees (hr.mono (by omega)) (by rfl) T.v_least_trees T.k_least_trees pass0 (pa_cons (pv 0) pa_nil)))
(pss_one (ps_for PassesOwn.leaving rfl (pi_enum (by rfl) T.z_enumerate (pa_cons (pv 0) pa_nil)) (pg_tup (by rfl) (pgs_cons (pg_name (i := 1) sc_check_rows.nd rfl (.inl rfl)) (pgs_cons (pg_name (i := 4) sc_check_rows.nd rfl (.inr rfl)) pgs_nil)))
(pss_one (ps_if (pt_cmp (pc_dnotin (u1 hr) (pe_fldK K (pv 4) rfl) (pv 6)))
(pss_one (ps_raiseE2 JT.e_bt fld_row (hr.mono (by omega)) JT.v_BadTable rfl (takes_of rfl rfl rfl rfl) (pa_cons (pv 1) (pa_cons pe_str pa_nil)) (by rfl)))
pss_nil))))))))), ?_⟩
    have ul : us.length = rs.length := hm.len
    refine ⟨.ref a, rfl, .ref a, us.length, rfl, .inl ⟨_, SqL.of ha, rfl⟩, us.length, rfl, by omega, by omega, for_range (lo := 0) (n := ((us.length : Int)).toNat) (fun i σ H1 => ∃ y1 y2, σ = [some (.ref a), y1, y2, none, none, none, none, none, none] ∧ Same H H1 ∧ i ≤ rs.length ∧ p1 [] rs = p1 (rs.take i) (rs.drop i)) ⟨none, none, rfl, Same.refl _, Nat.zero_le _, rfl⟩ ?_ ?_⟩
    · rintro i σ H1 hi' ⟨y1, y2, rfl, s1, _, ep⟩
      have il : i < rs.length := by
        have : i < us.length := hi'
        omega
      have e0 : ((0 : Int) + (i : Nat)) = (i : Nat) := by omega
      rw [e0]
      obtain ⟨r, er⟩ : ∃ r, rs[i]? = some r := ⟨_, List.getElem?_eq_getElem il⟩
      have rm := List.mem_of_getElem? er
      rw [drop_at er, p1] at ep
      refine ⟨.ref a, rfl, .int i, rfl, a, us, rs, i, r, rfl, s1 _ _ ha, MOs.same s1 hm, by omega, er, sane r rm, fun H2 s2 => ?_⟩
      refine ⟨_, rfl, rfl, _, rfl, ?_⟩
      have tl : (rs.take i).length = i := by rw [List.length_take]; omega
      by_cases c : fltA (rs.take i) r = []
      · rw [if_pos c] at ep
        rw [show decide (V.str (mk (fltA (rs.take i) r)) = V.str (Str.ofString "")) = true from by rw [c]; decide +kernel]
        exact iteF ⟨_, _, rfl, s1.trans s2, il, by rw [take_get er]; exact ep⟩
      · rw [if_neg c, tl] at ep
        rw [show decide (V.str (mk (fltA (rs.take i) r)) = V.str (Str.ofString "")) = false from decide_eq_false fun z => c (mk_inj (m := []) (V.str.inj z))]
        exact iteT ⟨_, rfl, _, rfl, _, _, rfl, fun d nd => qB (i, fltA (rs.take i) r) (or_some ep) H2 d (s1.trans s2) nd⟩
    rintro σ H1 ⟨y1, y2, rfl, s1, _, ep⟩
    rw [show ((us.length : Int)).toNat = rs.length by omega, List.drop_length] at ep
    have e1 : p1 [] rs = none := ep
    unfold fltT at qB q
    rw [or_none e1] at qB q
    have okA : ∀ (i : Nat) (r : Rw), rs[i]? = some r → RwOk (rs.take i) r := fun i r e => fltA_ok (p1_none e1 i r e)
    refine ⟨.ref a, rfl, a, us, rs, rfl, s1 _ _ ha, MOs.same s1 hm, by omega, fun H2 l s2 nl el => ?_⟩
    have s02 := s1.trans s2
    have el2 := el
    -- the wants
    refine ⟨.ref a, rfl, a, us, rfl, SqL.of (s02 _ _ ha), for_it (walk_enum (xs := us)) (fun i σ H3 => ∃ y1 y4, σ = [some (.ref a), y1, y2, some (.ref l), y4, none, none, none, none] ∧ Same H2 H3 ∧ p2 (kds rs) rs 0 = p2 (kds rs) (rs.drop i) i) ⟨_, _, rfl, Same.refl _, rfl⟩ ?_ ?_ ?_⟩
    · rintro i σ H3 _ ⟨y1, y4, _, s3, _⟩
      exact SqL.of (s3 _ _ (s02 _ _ ha))
    · rintro i x σ H3 H4 hi' ⟨y1, y4, rfl, s3, ep⟩ ⟨t, x1, v, rfl, nt', rfl, gx, gy⟩
      have ex1 : x1 = .int (i : Nat) := (Option.some.inj gx).symm
      subst ex1
      obtain ⟨r, er, mo⟩ := hm.get gy
      have rm := List.mem_of_getElem? er
      rw [drop_at er, p2] at ep
      have s4 := s3.trans (Same.new (o := .tup [.int (i : Nat), v]) nt')
      obtain ⟨b, dx, p, rfl, hb, hp⟩ := mo.same (s02.trans s4)
      refine ⟨t, _, rfl, SqT.of upd_same, rfl, .int (i : Nat), [.ref b], rfl, .ref b, [], rfl, rfl, ?_⟩
      generalize upd H3 t (.tup [.int (i : Nat), .ref b]) = H4 at s4 hb hp
      have wl := (okA i r er).fm.wl
      refine ⟨.ref b, rfl, b, _, dx, _, _, rfl, hb, M.cl, M.a_wants, rfl, p, rfl, ⟨_, SqT.of hp⟩, fun D nD => ?_⟩
      refine lc_pureT (fs := r.ws.map fun w => V.bl (decide (w = digW) || decide (w ∈ kds rs))) hp nD (by rw [List.length_map, List.length_map]) (by rw [List.length_map]; omega) (fun _ => rfl) ?_ ?_
      · intro k x y H' Q' hx' hy' s' q'
        rw [List.getElem?_map] at hx' hy'
        cases ew : r.ws[k]? with
        | none => rw [ew] at hx'; cases hx'
        | some w0 =>
          rw [ew] at hx' hy'
          have e1 := Option.some.inj hx'
          have e2 := Option.some.inj hy'
          subst e1 e2
          refine ⟨_, rfl, rfl, _, rfl, ?_⟩
          rw [dec_strW]
          replace q' : Q' (.bl (decide (w0 = digW) || decide (w0 ∈ kds rs))) H' := q'
          by_cases e : w0 = digW
          · rw [decide_eq_true e] at q' ⊢
            exact iteT q'
          · rw [decide_eq_false e] at q' ⊢
            refine iteF ⟨_, rfl, .ref l, rfl, l, _, rfl, .inl (SqL.of (s' _ _ (s4 _ _ el2))), rfl, flat_strL _, ?_⟩
            rw [if_neg Bool.false_ne_true, in_strL]
            exact q'
      have nD4 := Same.new (o := .lst (r.ws.map fun w => V.bl (decide (w = digW) || decide (w ∈ kds rs)))) nD
      by_cases c : ∀ w ∈ r.ws, w = digW ∨ w ∈ kds rs
      · rw [if_pos c] at ep
        refine ⟨D, r.ws.map fun w => (decide (w = digW) || decide (w ∈ kds rs)), rfl, SqL.of (by rw [upd_same, List.map_map]; rfl), true, ?_, iteF ⟨_, _, rfl, s4.trans nD4, ep⟩⟩
        rw [show (r.ws.map fun w => (decide (w = digW) || decide (w ∈ kds rs))).all id = true from List.all_eq_true.mpr fun b hb => ?_]
        obtain ⟨w0, hw, e⟩ := List.mem_map.mp hb
        rw [← e]
        rcases c w0 hw with z | z
        · rw [decide_eq_true z]
          rfl
        · rw [decide_eq_true z, Bool.or_true]
          rfl
      · rw [if_neg c] at ep
        refine ⟨D, r.ws.map fun w => (decide (w = digW) || decide (w ∈ kds rs)), rfl, SqL.of (by rw [upd_same, List.map_map]; rfl), false, ?_, iteT ⟨_, rfl, _, _, rfl, fun d nd => qB (i, kinD) (or_some ep) _ d (s02.trans (s4.trans nD4)) nd⟩⟩
        rw [show (r.ws.map fun w => (decide (w = digW) || decide (w ∈ kds rs))).all id = false from Bool.eq_false_iff.mpr fun z => c fun w0 hw => ?_]
        have := List.all_eq_true.mp z _ (List.mem_map_of_mem hw)
        have h3 : (decide (w0 = digW) || decide (w0 ∈ kds rs)) = true := this
        rcases Bool.or_eq_true_iff.mp h3 with z | z
        · exact .inl (of_decide_eq_true z)
        · exact .inr (of_decide_eq_true z)
    rintro σ H3 ⟨y1', y4, rfl, s3, ep⟩
    rw [ul, List.drop_length] at ep
    have e2 : p2 (kds rs) rs 0 = none := ep
    have okW := p2_none e2
    rw [or_none e2] at qB q
    have s03 := s02.trans s3
    -- the starts
    refine ⟨.ref a, rfl, a, us, rfl, SqL.of (s03 _ _ ha), for_it (walk_enum (xs := us)) (fun i σ H4 => ∃ y1 y4 y5, σ = [some (.ref a), y1, y2, some (.ref l), y4, y5, none, none, none] ∧ Same H3 H4 ∧ p3 [] rs = p3 (rs.take i) (rs.drop i)) ⟨_, _, _, rfl, Same.refl _, rfl⟩ ?_ ?_ ?_⟩
    · rintro i σ H4 _ ⟨y1, y4, y5, _, s4, _⟩
      exact SqL.of (s4 _ _ (s03 _ _ ha))
    · rintro i x σ H4 H5 hi' ⟨y1, y4, y5, rfl, s4, ep⟩ ⟨t, x1, v, rfl, nt', rfl, gx, gy⟩
      have ex1 : x1 = .int (i : Nat) := (Option.some.inj gx).symm
      subst ex1
      obtain ⟨r, er, mo⟩ := hm.get gy
      rw [drop_at er, p3] at ep
      have tl : (rs.take i).length = i := by
        have := (List.getElem?_eq_some_iff.mp er).1
        rw [List.length_take]
        omega
      have s5 := s4.trans (Same.new (o := .tup [.int (i : Nat), v]) nt')
      have s05 := s03.trans s5
      have mo5 := mo.same s05
      obtain ⟨b, dx, p, rfl, hb, hp⟩ := mo5
      refine ⟨t, _, rfl, SqT.of upd_same, rfl, .int (i : Nat), [.ref b], rfl, .ref b, [], rfl, rfl, ?_⟩
      generalize upd H4 t (.tup [.int (i : Nat), .ref b]) = H5 at s5 s05 hb hp
      refine ⟨.ref a, rfl, .int i, rfl, i, rfl, a, us, rfl, SqL.of (s05 _ _ ha), fun c nc => ?_⟩
      rw [cutV_to]
      have s6 := Same.new (o := .lst (us.take i)) nc
      have c6 : upd H5 c (.lst (us.take i)) c = some (.lst (us.take i)) := upd_same
      generalize upd H5 c (.lst (us.take i)) = H6 at s6 c6
      have s06 := s05.trans s6
      have m6 := (MOs.same s06 hm).take i
      refine ⟨c, rfl, ⟨_, SqL.of c6⟩, fun D nD => ?_⟩
      refine lc_list (xs := us.take i) (fun k H7 => ∃ ys : List (List Nat), H7 D = some (.lst (strL ys)) ∧ Same H6 H7 ∧ (∀ y, y ∈ ys ↔ ∃ r' ∈ rs.take k, r'.kd = r.kd ∧ stW r' = y) ∧ ys.length ≤ k ∧ k ≤ i) ?_ ?_ ?_ ?_
      · exact ⟨[], upd_same, Same.new nD, (fun y => ⟨(fun hy => nomatch hy), fun ⟨r', h, _⟩ => by rw [List.take_zero] at h; cases h⟩), Nat.le_refl _, Nat.zero_le _⟩
      · rintro k H7 _ ⟨ys, _, s7, _⟩
        exact SqL.of (s7 _ _ c6)
      · rintro k x H7 hx ⟨ys, eD, s7, hy, yl, kl⟩
        have klt : k < i := by
          have := (List.getElem?_eq_some_iff.mp hx).1
          rw [List.length_take] at this
          omega
        obtain ⟨r', er', mo'⟩ := m6.get hx
        have er2 : rs[k]? = some r' := by
          rw [List.getElem?_take, if_pos klt] at er'
          exact er'
        have mo7 := mo'.same s7
        have mo7' := mo7
        obtain ⟨b', dx', p', rfl, hb', hp'⟩ := mo7
        have hb7 := s7 _ _ (s6 _ _ hb)
        refine ⟨rfl, .ref b', rfl, b', _, dx', _, _, rfl, hb', M.cl, M.a_kind, rfl, .ref b, rfl, b, _, dx, _, _, rfl, hb7, M.cl, M.a_kind, rfl, rfl, _, rfl, ?_⟩
        by_cases ek : r'.kd = r.kd
        · rw [decide_eq_true (show V.str (mk r'.kd) = V.str (mk r.kd) by rw [ek])]
          have fo := (okA k r' er2).fm
          refine iteT ⟨.ref b', rfl, .ref b', r', rfl, mo7', (fun z => by have := fo.lo; rw [z] at this; cases this), Nat.le_trans fo.hi (by decide), fm_lt fo, ?_⟩
          refine ⟨_, eD, small1000 (by rw [List.length_map]; omega), ys ++ [stW r'], ?_, ?_, ?_, ?_, klt⟩
          · rw [upd_same, strL_app]
            rfl
          · intro b'' o e
            rw [upd_ne (ne_of_none e nD)]
            exact s7 _ _ e
          · intro y
            rw [take_get er2]
            constructor
            · intro hy'
              rcases List.mem_append.mp hy' with z | z
              · obtain ⟨r2, h2, h3⟩ := (hy y).mp z
                exact ⟨r2, List.mem_append_left _ h2, h3⟩
              · exact ⟨r', List.mem_append_right _ List.mem_cons_self, ek, (List.mem_singleton.mp z).symm⟩
            · rintro ⟨r2, h2, h3, h4⟩
              rcases List.mem_append.mp h2 with z | z
              · exact List.mem_append_left _ ((hy y).mpr ⟨r2, z, h3, h4⟩)
              · rw [List.mem_singleton.mp z] at h4
                rw [← h4]
                exact List.mem_append_right _ List.mem_cons_self
          · rw [List.length_append]
            exact Nat.succ_le_succ yl
        · rw [decide_eq_false (fun z => ek (mk_inj (V.str.inj z)))]
          refine iteF ⟨ys, eD, s7, fun y => ?_, by omega, klt⟩
          rw [take_get er2]
          constructor
          · intro hy'
            obtain ⟨r2, h2, h3⟩ := (hy y).mp hy'
            exact ⟨r2, List.mem_append_left _ h2, h3⟩
          · rintro ⟨r2, h2, h3, h4⟩
            rcases List.mem_append.mp h2 with z | z
            · exact (hy y).mpr ⟨r2, z, h3, h4⟩
            · rw [List.mem_singleton.mp z] at h3
              exact absurd h3 ek
      rintro H7 ⟨ys, eD, s7, hy, _, _⟩
      rw [show (us.take i).length = i by rw [m6.len]; exact tl] at hy
      have fo := (okA i r er).fm
      have mo7 := mo.same (s06.trans s7)
      refine ⟨.ref b, rfl, .ref b, r, rfl, mo7, (fun z => by have := fo.lo; rw [z] at this; cases this), Nat.le_trans fo.hi (by decide), fm_lt fo, .ref D, rfl, D, _, rfl, .inl (SqL.of eD), rfl, flat_strL _, _, rfl, ?_⟩
      rw [if_neg Bool.false_ne_true, in_strL]
      by_cases c : ∀ r' ∈ rs.take i, r'.kd = r.kd → stW r' ≠ stW r
      · rw [if_pos c] at ep
        rw [decide_eq_false fun z => by
          obtain ⟨r', h1, h2, h3⟩ := (hy _).mp z
          exact c r' h1 h2 h3]
        exact iteF ⟨_, _, _, rfl, s5.trans (s6.trans s7), by rw [take_get er]; exact ep⟩
      · rw [if_neg c, tl] at ep
        rw [decide_eq_true (show stW r ∈ ys from Classical.byContradiction fun z => c fun r' h1 h2 h3 => z ((hy _).mpr ⟨r', h1, h2, h3⟩))]
        exact iteT ⟨_, rfl, _, _, rfl, fun d nd => qB (i, begD) (or_some ep) _ d (s06.trans s7) nd⟩
    rintro σ H4 ⟨y1'', y4', y5, rfl, s4, ep⟩
    rw [ul, List.drop_length] at ep
    have e3 : p3 [] rs = none := ep
    rw [or_none e3] at qB q
    have s04 := s03.trans s4
    -- the least trees
    have k3 : (kds rs).length ≤ 3 := kds3 okA
    refine ⟨.ref a, rfl, a, us, rs, rfl, s04 _ _ ha, MOs.same s04 hm, by omega, k3, fun r hr => ?_, fun H5 g L s5 ng dl lok cl => ?_⟩
    · obtain ⟨i, er⟩ := List.mem_iff_getElem?.mp hr
      have o := okA i r er
      exact ⟨o.nm, o.kd, o.fm.wl, okW r hr⟩
    have s05 := s04.trans s5
    refine ⟨.ref a, rfl, a, us, rfl, SqL.of (s05 _ _ ha), for_it (walk_enum (xs := us)) (fun i σ H6 => ∃ y1 y4, σ = [some (.ref a), y1, y2, some (.ref l), y4, y5, some (.ref g), none, none] ∧ Same H5 H6 ∧ p4 rs rs 0 = p4 rs (rs.drop i) i) ⟨_, _, rfl, Same.refl _, rfl⟩ ?_ ?_ ?_⟩
    · rintro i σ H6 _ ⟨y1, y4, _, s6, _⟩
      exact SqL.of (s6 _ _ (s05 _ _ ha))
    · rintro i x σ H6 H7 hi' ⟨y1, y4, rfl, s6, ep⟩ ⟨t, x1, v, rfl, nt', rfl, gx, gy⟩
      have ex1 : x1 = .int (i : Nat) := (Option.some.inj gx).symm
      subst ex1
      obtain ⟨r, er, mo⟩ := hm.get gy
      rw [drop_at er, p4] at ep
      have s7 := s6.trans (Same.new (o := .tup [.int (i : Nat), v]) nt')
      obtain ⟨b, dx, p, rfl, hb, hp⟩ := mo.same (s05.trans s7)
      refine ⟨t, _, rfl, SqT.of upd_same, rfl, .int (i : Nat), [.ref b], rfl, .ref b, [], rfl, rfl, ?_⟩
      obtain ⟨o, dg, eo⟩ := (dl.same s7).get r.kd
      refine ⟨.ref b, rfl, b, _, dx, _, _, rfl, hb, M.cl, M.a_kind, rfl, .ref g, rfl, g, o, rfl, dg, _, rfl, ?_⟩
      rw [eo]
      by_cases c : ∃ t, Drv rs r.kd t
      · rw [if_pos c] at ep
        rw [(drv_iff lok cl).mpr c]
        exact iteF ⟨_, _, rfl, s7, ep⟩
      · rw [if_neg c] at ep
        rw [Bool.eq_false_iff.mpr fun z => c ((drv_iff lok cl).mp z)]
        exact iteT ⟨_, rfl, _, _, rfl, fun d nd => qB (i, finD) ep _ d (s05.trans s7) nd⟩
    · rintro σ H6 ⟨y1, y4, rfl, s6, ep⟩
      rw [ul, List.drop_length] at ep
      exact q ep _ (s05.trans s6)
end
end TW

namespace TW
open PySem PySem.Spec PyProof.Rows L2
/-! ### texts with a sign between them -/
def jc (c : Nat) : List (List Nat) → List Nat
  | [] => []
  | [p] => p
  | p :: q :: r => p ++ c :: jc c (q :: r)
theorem join_jc (c : Nat) : ∀ ls : List (List Nat), Str.join (mk [c]) (ls.map mk) = mk (jc c ls)
  | [] => rfl
  | [p] => rfl
  | p :: q :: r => by
    show mk p ++ mk [c] ++ Str.join (mk [c]) ((q :: r).map mk) = mk (p ++ c :: jc c (q :: r))
    rw [join_jc c (q :: r), mk_app, mk_app, List.append_assoc]
    rfl
theorem jc_sum {B : Nat} : ∀ ls : List (List Nat), (∀ l ∈ ls, l.length ≤ B) → ((ls.map mk).map (·.length)).sum ≤ ls.length * B
  | [], _ => by simp
  | p :: r, h => by
    have ih := jc_sum r fun l hl => h l (List.mem_cons_of_mem _ hl)
    have h1 := h p List.mem_cons_self
    rw [List.map_cons, List.map_cons, List.sum_cons, List.length_cons, Nat.succ_mul, mk_len]
    omega
/-! ### a row's line -/
abbrev lineL (r : Rw) : List (List Nat) := (r.kd ++ [58]) :: r.nm :: (r.ws ++ [[61], r.fm])
abbrev ln (r : Rw) : List Nat := jc 32 (lineL r)
structure Sm (r : Rw) : Prop where
  kd : r.kd.length ≤ 8
  nm : r.nm.length ≤ 8
  wl : r.ws.length ≤ 3
  ws : ∀ w ∈ r.ws, w.length ≤ 8
  fm : r.fm.length ≤ 8
theorem Sm.all {r : Rw} (h : Sm r) : ∀ l ∈ lineL r, l.length ≤ 9 := fun l hl => by
  rcases List.mem_cons.mp hl with rfl | hl
  · rw [List.length_append]
    exact Nat.succ_le_succ h.kd
  rcases List.mem_cons.mp hl with rfl | hl
  · exact Nat.le_succ_of_le h.nm
  rcases List.mem_append.mp hl with hl | hl
  · exact Nat.le_succ_of_le (h.ws l hl)
  rcases List.mem_cons.mp hl with rfl | hl
  · decide
  rcases List.mem_cons.mp hl with rfl | hl
  · exact Nat.le_succ_of_le h.fm
  · cases hl
theorem RwOk.sm {bs : List Rw} {r : Rw} (h : RwOk bs r) : Sm r := ⟨bigN_len h.kd, bigN_len h.nm, h.fm.wl, fun w hw => by
  by_cases e : w = digW
  · rw [e]
    decide
  · exact bigN_len (h.ws w hw e), h.fm.hi⟩
def sp_line (C : Addr) : Sp := fun vs H Q _ => ∃ v r, vs = [v] ∧ MO C H v r ∧ Sm r ∧ ∀ H', Same H H' → Q (.str (mk (ln r))) H'
section
variable {P : Program} {w : World} {K : PySem.W.Frag} {mg : Str → Option Value} {base : Heap}
theorem ok_line (T : Tx K mg) (M : Tk K mg) : FnR P w K mg base CX0 1 (He.ga K "line_of") (sp_line (CM K)) := by
  refine fnR0 T.d_line_of sc_line_of (fun _ _ _ _ _ _ us hl => match us, hl with | [_], _ => rfl) (fun vs H Q E h => ?_) (fun cdv A outer s H vs Q E hr h => ?_)
  · obtain ⟨v, r, rfl, _⟩ := h
    rfl
  · obtain ⟨v, r, rfl, mo, sm, q⟩ := h
    refine ⟨_, (pss_one (ps_ret (pe_join pe_str (pe_lst (pa_cons (pe_op op_add_str (pe_fldK K (pv 0) rfl) pe_str) (pa_cons (pe_fldK K (pv 0) rfl) (StX.pa_star (pe_fldK K (pv 0) rfl) (pa_cons pe_str (pa_cons (pe_fldK K (pv 0) rfl) pa_nil))))))))), ?_⟩
    obtain ⟨b, dx, p, rfl, hb, hp⟩ := mo
    have k8 := sm.kd
    have w3 := sm.wl
    refine ⟨⟨_, rfl⟩, .ref b, rfl, b, _, dx, _, _, rfl, hb, M.cl, M.a_kind, rfl, mk r.kd, mk [58], rfl, rfl, ?_, .ref b, rfl, b, _, dx, _, _, rfl, hb, M.cl, M.a_name, rfl, .ref b, rfl, b, _, dx, _, _, rfl, hb, M.cl, M.a_wants, rfl, p, _, rfl, .inl (SqT.of hp), .ref b, rfl, b, _, dx, _, _, rfl, hb, M.cl, M.a_form, rfl, ?_, fun l nl => ?_⟩
    · rw [mk_len, mk_len]
      exact Nat.le_trans (show r.kd.length + 1 ≤ 1000 by omega) szle
    · refine Nat.le_trans (m := 1000) ?_ szle
      show (strL r.ws ++ _).length + 1 + 1 ≤ 1000
      rw [List.length_append, List.length_map]
      show r.ws.length + 2 + 1 + 1 ≤ 1000
      omega
    rw [mk_app]
    have el : V.str (mk (r.kd ++ [58])) :: V.str (mk r.nm) :: (strL r.ws ++ [V.str (Str.ofString "="), V.str (mk r.fm)]) = ((lineL r).map mk).map V.str := by
      show _ = V.str (mk (r.kd ++ [58])) :: V.str (mk r.nm) :: ((r.ws ++ [[61], r.fm]).map mk).map V.str
      rw [List.map_append, List.map_append, List.map_map]
      rfl
    rw [el]
    refine ⟨mk [32], l, (lineL r).map mk, rfl, rfl, .inl (SqL.of upd_same), ?_, ?_⟩
    · have h1 := jc_sum (lineL r) sm.all
      have h2 : (lineL r).length ≤ 7 := by
        show (r.ws ++ _).length + 1 + 1 ≤ 7
        rw [List.length_append]
        show r.ws.length + 2 + 1 + 1 ≤ 7
        omega
      rw [List.length_map, mk_len]
      show _ + _ * 1 ≤ _
      omega
    rw [show Txt.join (mk [32]) ((lineL r).map mk) = mk (jc 32 (lineL r)) from (TL.join_eq _ _).trans (join_jc 32 _)]
    exact q _ (Same.new nl)
end
end TW

namespace TW
open PySem PySem.Spec PyProof.Rows L2
theorem spl_jc (c : Nat) : ∀ ls : List (List Nat), ls ≠ [] → (∀ l ∈ ls, c ∉ l) → TL.spl [c] 0 [] (jc c ls) = ls
  | [], h, _ => absurd rfl h
  | [p], _, h => by
    rw [jc, TL.spl_last1 (h p List.mem_cons_self)]
    rfl
  | p :: q :: r, _, h => by
    have ih := spl_jc c (q :: r) (List.cons_ne_nil _ _) fun l hl => h l (List.mem_cons_of_mem _ hl)
    rw [jc, show p ++ c :: jc c (q :: r) = p ++ (c :: [] ++ jc c (q :: r)) from rfl, TL.spl_part1 (h p List.mem_cons_self), ih]
    rfl
theorem map_tl {l : List Str} {ls : List (List Nat)} (h : l.map TL.tl = ls) : l = ls.map mk := by
  rw [← h, List.map_map]
  have : (mk ∘ TL.tl) = id := funext fun z => mk_of z
  rw [this, List.map_id]
theorem split_jc {c : Nat} (hc : c < 256) {ls : List (List Nat)} (h0 : ls ≠ []) (h : ∀ l ∈ ls, c ∉ l) : Txt.split (mk (jc c ls)) (mk [c]) = ls.map mk := by
  refine map_tl ?_
  rw [TL.split_spl (mk (jc c ls)) (mk [c]) (List.cons_ne_nil _ _) (TL.kind_ok (by
    show ([c].toArray).all (· < 256) = true
    simp [hc]))]
  exact spl_jc c ls h0 h
end TW

namespace TW
open PySem PySem.Spec PyProof.Rows L2
/-- v is the law's tuple of the row r -/
def RO (H : Hp) (v : V) (r : Rw) : Prop := ∃ a p, v = .ref a ∧ H a = some (.tup [.str (mk r.kd), .str (mk r.nm), .ref p, .str (mk r.fm)]) ∧ H p = some (.tup (strL r.ws))
theorem RO.kp {H H' : Hp} (k : Kp H H') {v : V} {r : Rw} (h : RO H v r) : RO H' v r := by
  obtain ⟨a, p, e, h1, h2⟩ := h
  exact ⟨a, p, e, k _ _ h1 (fun _ z => nomatch z), k _ _ h2 (fun _ z => nomatch z)⟩
theorem RO.same {H H' : Hp} (s : Same H H') {v : V} {r : Rw} (h : RO H v r) : RO H' v r := h.kp (Same.kp s)
theorem ROs.same {H H' : Hp} (s : Same H H') {vs : List V} {rs : List Rw} (h : All2 (RO H) vs rs) : All2 (RO H') vs rs := h.imp fun _ _ z => z.same s
def sp_lkinds : Sp := fun vs H Q _ => ∃ (a : Addr) (us : List V) (rs : List Rw), vs = [.ref a] ∧ H a = some (.lst us) ∧ All2 (RO H) us rs ∧ rs.length ≤ 100 ∧ ∀ H' l, Same H H' → H l = none → H' l = some (.lst (strL (kds rs))) → Q (.ref l) H'
abbrev tabL : List Nat := [116, 97, 98, 108, 101, 32]
abbrev dscL (n : List Nat) (rs : List Rw) : List (List Nat) := (tabL ++ n) :: rs.map ln
abbrev dsc (n : List Nat) (rs : List Rw) : List Nat := jc 10 (dscL n rs)
theorem jc_len (c : Nat) : ∀ ls : List (List Nat), (jc c ls).length ≤ ((ls.map mk).map (·.length)).sum + ls.length
  | [] => Nat.zero_le _
  | [p] => by simp [jc, mk_len]
  | p :: q :: r => by
    have := jc_len c (q :: r)
    simp only [List.map_cons, List.sum_cons, List.length_cons, mk_len, jc, List.length_append] at this ⊢
    omega
theorem Sm.ln {r : Rw} (h : Sm r) : (TW.ln r).length ≤ 100 := by
  have h1 := jc_sum (lineL r) h.all
  have h2 := jc_len 32 (lineL r)
  have w3 := h.wl
  show (jc 32 (lineL r)).length ≤ 100
  have h3 : (lineL r).length ≤ 7 := by
    show (r.ws ++ _).length + 1 + 1 ≤ 7
    rw [List.length_append]
    show r.ws.length + 2 + 1 + 1 ≤ 7
    omega
  omega
def sp_desc : Sp := fun vs H Q _ => ∃ (n : List Nat) (a : Addr) (us : List V) (rs : List Rw), vs = [.str (mk n), .ref a] ∧ n.length ≤ 100 ∧ H a = some (.lst us) ∧ All2 (RO H) us rs ∧ rs.length ≤ 100 ∧ (∀ r ∈ rs, Sm r) ∧ ∀ H', Same H H' → Q (.str (mk (dsc n rs))) H'
section
variable {P : Program} {w : World} {K : PySem.W.Frag} {mg : Str → Option Value} {base : Heap}
theorem ok_lkinds (T : Tx K mg) : FnR P w K mg base CX0 1 (He.ga K "_law_kinds_of") sp_lkinds := by
  refine fnR0 T.d_law_kinds_of sc_law_kinds_of (fun _ _ _ _ _ _ us hl => match us, hl with | [_], _ => rfl) (fun vs H Q E h => ?_) (fun cdv A outer s H vs Q E hr h => ?_)
  · obtain ⟨a, us, rs, rfl, _⟩ := h
    rfl
  · obtain ⟨a, us, rs, rfl, ha, hm, hl, q⟩ := h
    refine ⟨_, (pss_cons (ps_set (i := 1) sc_law_kinds_of.nd rfl (.inl rfl) (pe_lst pa_nil))
(pss_cons (ps_for PassesOwn.never rfl (pi_list (pv 0)) (pg_name (i := 2) sc_law_kinds_of.nd rfl (.inl rfl))
(pss_one (ps_if (pt_cmpR op_notIn_seq (pe_ix (r := rIxT K) ix_tup (pv 2) pe_int (fun _ _ => rfl)) (pv 1) (by rfl))
(pss_one (ps_expr (pe_bm PySem.F.plainAttrs_list PySem.F.slot_list_append PySem.F.type_list_append mt_append (pv 1) (pa_cons (pe_ix (r := rIxT K) ix_tup (pv 2) pe_int (fun _ _ => rfl)) pa_nil))))
pss_nil)))
(pss_one (ps_ret (pv 1))))), ?_⟩
    have ul : us.length = rs.length := hm.len
    refine ⟨szle, fun l nl => ?_⟩
    have s1 : Same H (upd H l (.lst [])) := Same.new nl
    refine ⟨.ref a, rfl, a, rfl, ⟨_, SqL.of (s1 _ _ ha)⟩, for_list (xs := us) (fun i σ H1 => ∃ y2, σ = [some (.ref a), some (.ref l), y2] ∧ Same H H1 ∧ H1 l = some (.lst (strL (kds (rs.take i))))) ⟨none, rfl, s1, upd_same⟩ ?_ ?_ ?_⟩
    · rintro i σ H1 _ ⟨y2, _, s2, _⟩
      exact SqL.of (s2 _ _ ha)
    · rintro i x σ H1 hx ⟨y2, rfl, s2, el⟩
      obtain ⟨r, er, hr1⟩ := hm.get hx
      obtain ⟨b, p, rfl, hb, hp⟩ := hr1.same s2
      refine ⟨.ref b, rfl, b, _, 0, _, rfl, rfl, SqT.of hb, rfl, .ref l, rfl, l, _, rfl, .inl (SqL.of el), rfl, flat_strL _, _, rfl, ?_⟩
      rw [in_strL]
      have et : kds (rs.take (i + 1)) = if r.kd ∈ kds (rs.take i) then kds (rs.take i) else kds (rs.take i) ++ [r.kd] := by
        rw [take_get er]
        exact kdsF_snoc r _ _
      have kl := kdsF_len (rs.take i) []
      rw [List.length_take] at kl
      refine ite2 (fun e => ?_) (fun e => ?_)
      · have hn : ¬ r.kd ∈ kds (rs.take i) := fun z => by
          rw [decide_eq_true z] at e
          cases e
        rw [if_neg hn] at et
        refine ⟨.ref l, rfl, .inl ⟨rfl, _, SqL.of el⟩, .ref b, rfl, b, _, 0, _, rfl, rfl, SqT.of hb, rfl, l, _, _, rfl, rfl, el, small1000 ?_, _, rfl, ?_, ?_⟩
        · rw [List.length_map]
          exact Nat.le_trans kl (by show 0 + _ ≤ 1000; omega)
        · intro b' o e'
          rw [upd_ne (ne_of_none e' nl)]
          exact s2 _ _ e'
        · rw [upd_same, et]
          show some (HO.lst (strL _ ++ strL [r.kd])) = _
          rw [← List.map_append]
      · have hy : r.kd ∈ kds (rs.take i) := by
          refine Decidable.byContradiction fun z => e ?_
          rw [decide_eq_false z]
          rfl
        rw [if_pos hy] at et
        exact ⟨_, rfl, s2, by rw [et]; exact el⟩
    · rintro σ H1 ⟨y2, rfl, s2, el⟩
      rw [ul, List.take_length] at el
      exact ⟨.ref l, rfl, q _ l s2 nl el⟩
theorem ok_desc (T : Tx K mg) : FnR P w K mg base CX0 1 (He.ga K "_law_described") sp_desc := by
  refine fnR0 T.d_law_described sc_law_described (fun _ _ _ _ _ _ us hl => match us, hl with | [_, _], _ => rfl) (fun vs H Q E h => ?_) (fun cdv A outer s H vs Q E hr h => ?_)
  · obtain ⟨n, a, us, rs, rfl, _⟩ := h
    rfl
  · obtain ⟨n, a, us, rs, rfl, hn, ha, hm, hl, sm, q⟩ := h
    refine ⟨_, (pss_cons (ps_set (i := 2) sc_law_described.nd rfl (.inl rfl) (pe_lst (pa_cons (pe_op op_add_str pe_str (pv 0)) pa_nil)))
(pss_cons (ps_for PassesOwn.never rfl (pi_list (pv 1)) (pg_name (i := 3) sc_law_described.nd rfl (.inl rfl))
(pss_one (ps_expr (pe_bm PySem.F.plainAttrs_list PySem.F.slot_list_append PySem.F.type_list_append mt_append (pv 2) (pa_cons (pe_join pe_str (pe_op op_cat (pe_op op_cat (pe_lst (pa_cons (pe_op op_add_str (pe_ix (r := rIxT K) ix_tup (pv 3) pe_int (fun _ _ => rfl)) pe_str) (pa_cons (pe_ix (r := rIxT K) ix_tup (pv 3) pe_int (fun _ _ => rfl)) pa_nil))) (pe_callTy call_list_of (by rfl) T.z_list (by decide +kernel) (pa_cons (pe_ix (r := rIxT K) ix_tup (pv 3) pe_int (fun _ _ => rfl)) pa_nil))) (pe_lst (pa_cons pe_str (pa_cons (pe_ix (r := rIxT K) ix_tup (pv 3) pe_int (fun _ _ => rfl)) pa_nil))))) pa_nil)))))
(pss_one (ps_ret (pe_join pe_str (pv 2)))))), ?_⟩
    have ul : us.length = rs.length := hm.len
    refine ⟨.str (mk n), rfl, mk tabL, mk n, rfl, rfl, ?_, szle, fun l nl => ?_⟩
    · rw [mk_len, mk_len]
      exact Nat.le_trans (show 6 + n.length ≤ 1000 by omega) szle
    rw [mk_app]
    have s1 := Same.new (o := .lst [V.str (mk (tabL ++ n))]) nl
    refine ⟨.ref a, rfl, a, rfl, ⟨_, SqL.of (s1 _ _ ha)⟩, for_list (xs := us) (fun i σ H1 => ∃ y3, σ = [some (.str (mk n)), some (.ref a), some (.ref l), y3] ∧ Same H H1 ∧ H1 l = some (.lst (strL (dscL n (rs.take i))))) ⟨none, rfl, s1, upd_same⟩ ?_ ?_ ?_⟩
    · rintro i σ H1 _ ⟨y3, _, s2, _⟩
      exact SqL.of (s2 _ _ ha)
    · rintro i x σ H1 hx ⟨y3, rfl, s2, el⟩
      obtain ⟨r, er, hr1⟩ := hm.get hx
      obtain ⟨b, p, rfl, hb, hp⟩ := hr1.same s2
      have sr := sm r (List.mem_of_getElem? er)
      have k8 := sr.kd
      have w3 := sr.wl
      refine ⟨.ref l, rfl, .inl ⟨rfl, _, SqL.of el⟩, ⟨_, rfl⟩, .ref b, rfl, b, _, 0, _, rfl, rfl, SqT.of hb, rfl, mk r.kd, mk [58], rfl, rfl, ?_, .ref b, rfl, b, _, 1, _, rfl, rfl, SqT.of hb, rfl, szle, fun x1 n1 => ?_⟩
      · rw [mk_len, mk_len]
        exact Nat.le_trans (show r.kd.length + 1 ≤ 1000 by omega) szle
      rw [mk_app]
      have t1 := Same.new (o := .lst [V.str (mk (r.kd ++ [58])), .str (mk r.nm)]) n1
      have c1 : upd H1 x1 (.lst [V.str (mk (r.kd ++ [58])), .str (mk r.nm)]) x1 = some (.lst [V.str (mk (r.kd ++ [58])), .str (mk r.nm)]) := upd_same
      generalize upd H1 x1 (.lst [V.str (mk (r.kd ++ [58])), .str (mk r.nm)]) = H2 at t1 c1
      refine ⟨.ref b, rfl, b, _, 2, _, rfl, rfl, SqT.of (t1 _ _ hb), rfl, p, _, rfl, .inr (SqT.of (t1 _ _ hp)), fun x2 n2 => ?_⟩
      have t2 := Same.new (o := .lst (strL r.ws)) n2
      refine ⟨x1, x2, _, _, rfl, rfl, t2 _ _ c1, upd_same, ?_, fun x3 n3 => ?_⟩
      · refine Nat.le_trans (m := 1000) ?_ szle
        rw [List.length_map]
        show 2 + r.ws.length ≤ 1000
        omega
      have t3 := Same.new (o := .lst ([V.str (mk (r.kd ++ [58])), .str (mk r.nm)] ++ strL r.ws)) n3
      have t13 := t1.trans (t2.trans t3)
      have c3 : upd (upd H2 x2 (.lst (strL r.ws))) x3 (.lst ([V.str (mk (r.kd ++ [58])), .str (mk r.nm)] ++ strL r.ws)) x3 = some (.lst ([V.str (mk (r.kd ++ [58])), .str (mk r.nm)] ++ strL r.ws)) := upd_same
      generalize upd (upd H2 x2 (.lst (strL r.ws))) x3 (.lst ([V.str (mk (r.kd ++ [58])), .str (mk r.nm)] ++ strL r.ws)) = H3 at t3 t13 c3
      refine ⟨.ref b, rfl, b, _, 3, _, rfl, rfl, SqT.of (t13 _ _ hb), rfl, szle, fun x4 n4 => ?_⟩
      have t4 := Same.new (o := .lst [V.str (Str.ofString "="), .str (mk r.fm)]) n4
      refine ⟨x3, x4, _, _, rfl, rfl, t4 _ _ c3, upd_same, ?_, fun x5 n5 => ?_⟩
      · refine Nat.le_trans (m := 1000) ?_ szle
        rw [List.length_append, List.length_map]
        show 2 + r.ws.length + 2 ≤ 1000
        omega
      have eL : ([V.str (mk (r.kd ++ [58])), .str (mk r.nm)] ++ strL r.ws) ++ [V.str (Str.ofString "="), .str (mk r.fm)] = ((lineL r).map mk).map V.str := by
        show V.str (mk (r.kd ++ [58])) :: V.str (mk r.nm) :: (strL r.ws ++ [V.str (Str.ofString "="), .str (mk r.fm)]) = V.str (mk (r.kd ++ [58])) :: V.str (mk r.nm) :: ((r.ws ++ [[61], r.fm]).map mk).map V.str
        rw [List.map_append, List.map_append, List.map_map]
        rfl
      rw [eL]
      have t5 := Same.new (o := .lst (((lineL r).map mk).map V.str)) n5
      have t15 := t13.trans (t4.trans t5)
      refine ⟨mk [32], x5, (lineL r).map mk, rfl, rfl, .inl (SqL.of upd_same), ?_, ?_⟩
      · have h1 := jc_sum (lineL r) sr.all
        have h2 : (lineL r).length ≤ 7 := by
          show (r.ws ++ _).length + 1 + 1 ≤ 7
          rw [List.length_append]
          show r.ws.length + 2 + 1 + 1 ≤ 7
          omega
        rw [List.length_map, mk_len]
        show _ + _ * 1 ≤ _
        omega
      rw [show Txt.join (mk [32]) ((lineL r).map mk) = mk (ln r) from (TL.join_eq _ _).trans (join_jc 32 _)]
      refine ⟨l, _, _, rfl, rfl, t15 _ _ el, small1000 ?_, _, rfl, ?_, ?_⟩
      · rw [List.length_map, List.length_cons, List.length_map, List.length_take]
        omega
      · intro b' o e
        rw [upd_ne (ne_of_none e nl)]
        exact t15 _ _ (s2 _ _ e)
      · rw [upd_same, take_get er]
        show some (HO.lst (strL (dscL n (rs.take i)) ++ strL [ln r])) = some (HO.lst (strL ((tabL ++ n) :: (rs.take i ++ [r]).map ln)))
        rw [← strL_app, List.map_append]
        rfl
    · rintro σ H1 ⟨y3, rfl, s2, el⟩
      rw [ul, List.take_length] at el
      have el' : H1 l = some (.lst (((dscL n rs).map mk).map V.str)) := by
        rw [el, List.map_map]
        rfl
      refine ⟨⟨_, rfl⟩, .ref l, rfl, mk [10], l, (dscL n rs).map mk, rfl, rfl, .inl (SqL.of el'), ?_, ?_⟩
      · have h1 := jc_sum (B := 200) (dscL n rs) fun x hx => by
          rcases List.mem_cons.mp hx with rfl | hx
          · rw [List.length_append]
            show 6 + n.length ≤ 200
            omega
          · obtain ⟨r, hr, rfl⟩ := List.mem_map.mp hx
            exact Nat.le_trans (sm r hr).ln (by decide)
        have h2 : (dscL n rs).length ≤ 101 := by
          rw [List.length_cons, List.length_map]
          omega
        rw [List.length_map, mk_len]
        show _ + _ * 1 ≤ _
        omega
      rw [show Txt.join (mk [10]) ((dscL n rs).map mk) = mk (dsc n rs) from (TL.join_eq _ _).trans (join_jc 10 _)]
      exact q _ s2
end
end TW

namespace TW
open PySem PySem.Spec PyProof.Rows L2
/-! ### calls whose error leaves with the slots -/
def tMethRS (C : Addr) (m : Str) (sp : Sp) (E : L2.St → XK) (ta : TE) (t : TA) : TE := fun σ H Q => ta σ H fun x H1 => ∃ a dx fs, x = .ref a ∧ H1 a = some (.ins C dx fs) ∧ fs.lookup m = none ∧ t σ H1 fun vs H2 => sp (x :: vs) H2 Q (E σ)
def tCrS (sp : Sp) (E : L2.St → XK) (t : TA) : TE := fun σ H Q => t σ H fun vs H1 => sp vs H1 Q (E σ)
section
variable {X : Cx} {CX : CXT} {k : Nat} {C p g : Addr} {sp : Sp} {E : L2.St → XK} {o e : Expr} {es : List Expr} {m x : Str} {pos np apos : Pos} {ta : TE} {t : TA} {pl : Sem Bool}
theorem run_fnRS {pins : List (Addr × Obj)} {σ : L2.St} {H : Hp} {s : Shared} {E : XK} {Q : VK} {us : List Value} {vs : List V} (F : FnR X.prog X.w X.K X.mg X.base CX k g sp) (hr : Room k X.A) (hx : PassesAt CX X σ E) (I : Inv X pins σ H s) (r : Vals vs us) (h : sp vs H Q E) :
    codeAny (model X.prog X.w) X.A (.call (.ref g) ⟨us, []⟩) (fun r s' => match r with | .ok (.ret v) => EP X pins σ Q v s' | .ok _ => False | .error e => X.xe e s') s := by
  refine codeAny_mono (F X.A X.stack s H us vs Q E hr I.env0 r h) fun r s' hq => ?_
  cases r with
  | error e => exact hx pins H s e s' I hq
  | ok fl =>
    cases fl with
    | ret u => exact I.after hq
    | next => exact False.elim hq
    | brk => exact False.elim hq
    | cont => exact False.elim hq
theorem pe_methRS (he : PE X o ta) (c : Cls X.K C) (hm : Meth X.K C m g) (F : FnR X.prog X.w X.K X.mg X.base CX k g sp) (hr : Room k X.A) (hx : ∀ σ, PassesAt CX X σ (E σ)) (ha : PA X (e :: es) t)
    (hst : starEach (e :: es) X.env = (false, eval e X.env) :: starEach es X.env := by rfl) (hpl : (backTo pos (starEach es X.env)).any (·.1) = false := by rfl)
    (ht : eval (.Call (.Attribute o m apos) (e :: es) [] pos) X.env = (do
      let ov ← eval o X.env
      standAt apos.atName
      let (f, first) ← holding [ov] (getMethod ov m pl)
      callWith pos f first (backTo pos (starEach (e :: es) X.env)) (backToKw pos (keywordEach [] X.env))) := by rfl) :
    PE X (.Call (.Attribute o m apos) (e :: es) [] pos) (tMethRS C m sp E ta t) := by
  refine ⟨fun pins s σ H Q I h => ?_⟩
  refine PySem.W.methodCall_KW (pl := pl) (thn (he.run pins s σ H _ I h) fun u s1 ⟨x, H1, I1, rx, a, dx, fs, ex, ea, l, q⟩ => ?_) ht
  subst ex
  obtain rfl : u = Value.ref a := rx
  refine getmeth_ok I1 ea c hm l ?_
  refine PySem.W.callWith_K (first := [.ref a]) (h₀ := X.base) I.ok.mod.kin hm.kp (thn (ha.run pos pins s1 σ H1 _ I1 q) fun us s2 ⟨vs, H2, I2, r, q2⟩ => ⟨I2.kIn, ?_⟩) hst hpl
  exact wpAny_call (run_fnRS (us := .ref a :: us) (vs := .ref a :: vs) F hr (hx σ) I2 (.cons rfl r) q2)
theorem pe_methRS0 (he : PE X o ta) (c : Cls X.K C) (hm : Meth X.K C m g) (F : FnR X.prog X.w X.K X.mg X.base CX k g sp) (hr : Room k X.A) (hx : ∀ σ, PassesAt CX X σ (E σ))
    (ht : eval (.Call (.Attribute o m apos) [] [] pos) X.env = (do
      let ov ← eval o X.env
      standAt apos.atName
      let (f, first) ← holding [ov] (getMethod ov m pl)
      callWith pos f first (backTo pos (starEach [] X.env)) (backToKw pos (keywordEach [] X.env))) := by rfl) :
    PE X (.Call (.Attribute o m apos) [] [] pos) (tMethRS C m sp E ta tNil) := by
  refine ⟨fun pins s σ H Q I h => ?_⟩
  refine PySem.W.methodCall_KW (pl := pl) (thn (he.run pins s σ H _ I h) fun u s1 ⟨x, H1, I1, rx, a, dx, fs, ex, ea, l, q⟩ => ?_) ht
  subst ex
  obtain rfl : u = Value.ref a := rx
  refine getmeth_ok I1 ea c hm l ?_
  exact PySem.W.callWith_K0 (first := [.ref a]) I1.kIn hm.kp (wpAny_call (run_fnRS (us := [.ref a]) (vs := [.ref a]) F hr (hx σ) I1 (.cons rfl .nil) q))
theorem pe_crS (F : FnR X.prog X.w X.K X.mg X.base CX k g sp) (hr : Room k X.A) (hg : Gl X x) (hm : X.mg x = some (.ref g)) (hk : PySem.W.keepIn X.K (.ref g) = true) (hx : ∀ σ, PassesAt CX X σ (E σ)) (ha : PA X (e :: es) t)
    (hdb : (x == ("__debug__" : Str)) = false := by decide) (he : starEach (e :: es) X.env = (false, eval e X.env) :: starEach es X.env := by rfl)
    (hpl : (backTo pos (starEach es X.env)).any (·.1) = false := by rfl) : PE X (.Call (.Name x np) (e :: es) [] pos) (tCrS sp E t) := by
  refine ⟨fun pins s σ H Q I h => ?_⟩
  refine wpAny_Call_Name_kw (ld_glob I hg hm ?_ hdb)
  refine PySem.W.callWith_K (h₀ := X.base) I.ok.mod.kin hk (thn (ha.run pos pins s σ H _ I h) fun us s1 hh => ?_) he hpl
  obtain ⟨vs, H1, I1, r, q⟩ := hh
  exact ⟨I1.kIn, wpAny_call (run_fnRS F hr (hx σ) I1 r q)⟩
end
/-! ### making an instance from a starred argument; from an __init__ whose error leaves with the slots -/
def tMakeRS (C : Addr) (sp : Sp) (E : L2.St → XK) (t : TA) : TE := fun σ H Q => t σ H fun vs H1 => ∀ x dx, H1 x = Option.none → H1 dx = Option.none → dx ≠ x →
  sp (V.ref x :: vs) (upd (upd H1 dx (.own x)) x (.ins C dx [])) (fun v H2 => v = .non ∧ Q (.ref x) H2) (E σ)
section
variable {X : Cx} {CX : CXT} {k : Nat} {f C : Addr} {sp : Sp} {x : Str} {e : Expr} {es : List Expr} {te : TE} {t : TA} {p pos sp_ : Pos}
theorem run_makeRS {E : XK} {pins : List (Addr × Obj)} {σ : L2.St} {H : Hp} {s : Shared} {Q : VK} {us : List Value} {vs : List V} (M : Mk X.K C f) (F : FnR X.prog X.w X.K X.mg X.base CX k f sp) (hr : Room (k + 1) X.A) (hx : PassesAt CX X σ E) (I : Inv X pins σ H s) (r : Vals vs us)
    (h : ∀ x dx, H x = Option.none → H dx = Option.none → dx ≠ x → sp (V.ref x :: vs) (upd (upd H dx (.own x)) x (.ins C dx [])) (fun v H2 => v = .non ∧ Q (.ref x) H2) E) :
    wpAny (model X.prog X.w) X.A (call (.ref C) us) (EP X pins σ Q) X.xe s := by
  have hq := h (s.heap.objs.size + 1) s.heap.objs.size (I.hok.fresh (Nat.le_succ _)) (I.hok.fresh (Nat.le_refl _)) (Nat.ne_of_lt (Nat.lt_succ_self _))
  have I2 := Inv.made (C := C) I
  have r2 : Vals (V.ref (s.heap.objs.size + 1) :: vs) (Value.ref (s.heap.objs.size + 1) :: us) := .cons rfl r
  refine wpAny_call (make_map (f := f) I.kIn M.makes M.init (beq_iff_eq.mp M.fn) (codeAny_mono (F _ X.stack _ _ (Value.ref (s.heap.objs.size + 1) :: us) _ _ E (hr.make C us []) (I2.env0.make C us []) r2 hq) fun r s' hq' => ?_))
  cases r with
  | error e => exact hx pins _ _ e s' I2 hq'
  | ok fl =>
    cases fl with
    | ret u =>
      obtain ⟨v, H', I3, rv, ev, q3⟩ := I2.after hq'
      subst ev
      exact ⟨rv, ⟨V.ref (s.heap.objs.size + 1), H', I3, rfl, q3⟩⟩
    | next => exact False.elim hq'
    | brk => exact False.elim hq'
    | cont => exact False.elim hq'
theorem pe_makeRS {E : L2.St → XK} (M : Mk X.K C f) (F : FnR X.prog X.w X.K X.mg X.base CX k f sp) (hr : Room (k + 1) X.A) (hg : Gl X x) (hm : X.mg x = some (.ref C)) (hx : ∀ σ, PassesAt CX X σ (E σ)) (ha : PA X (e :: es) t) (hdb : (x == ("__debug__" : Str)) = false := by decide)
    (he : starEach (e :: es) X.env = (false, eval e X.env) :: starEach es X.env := by rfl) (hpl : (backTo pos (starEach es X.env)).any (·.1) = false := by rfl) : PE X (.Call (.Name x p) (e :: es) [] pos) (tMakeRS C sp E t) := by
  refine ⟨fun pins s σ H Q I h => ?_⟩
  refine wpAny_Call_Name_kw (ld_glob I hg hm ?_ hdb)
  refine PySem.W.callWith_K (h₀ := X.base) I.ok.mod.kin M.kp (thn (ha.run pos pins s σ H _ I h) fun us s1 ⟨vs, H1, I1, r, q⟩ => ⟨I1.kIn, ?_⟩) he hpl
  exact run_makeRS M F hr (hx σ) I1 r q
end
/-! ### a class in a slot is called, its error leaves with the slots -/
def tMakeLR (i : Nat) (C : Addr) (sp : Sp) (E : L2.St → XK) (t : TA) : TE := fun σ H Q => σ[i]? = some (some (.ref C)) ∧ tMakeRS C sp E t σ H Q
section
variable {X : Cx} {CX : CXT} {k i : Nat} {f C : Addr} {sp : Sp} {E : L2.St → XK} {x : Str} {p pos : Pos} {e : Expr} {es : List Expr} {t : TA}
theorem pe_makeLRS (M : Mk X.K C f) (F : FnR X.prog X.w X.K X.mg X.base CX k f sp) (hr : Room (k + 1) X.A) (hN : X.N[i]? = some x) (hv : Vis X.env.scope x) (hx : ∀ σ, PassesAt CX X σ (E σ)) (ha : PA X (e :: es) t)
    (hdb : (x == ("__debug__" : Str)) = false := by decide) (hcd : (x == ("__classdict__" : Str)) = false := by decide)
    (he : starEach (e :: es) X.env = (false, eval e X.env) :: starEach es X.env := by rfl) (hpl : (backTo pos (starEach es X.env)).any (·.1) = true := by rfl) : PE X (.Call (.Name x p) (e :: es) [] pos) (tMakeLR i C sp E t) := by
  refine ⟨fun pins s σ H Q I h => ?_⟩
  obtain ⟨hs, ht⟩ := h
  refine wpAny_Call_Name_kw (thn ((pe_var (pos := p) hN hv hdb hcd).run pins s σ H (fun v H1 => v = .ref C ∧ H1 = H) I ⟨.ref C, hs, rfl, rfl⟩) fun u s1 ⟨v, H1, I1, r1, q1⟩ => ?_)
  obtain ⟨rfl, rfl⟩ := q1
  cases r1
  refine PySem.W.callWith_S2 (h₀ := X.base) I.ok.mod.kin M.kp (thn (ha.run pos pins s1 σ _ _ I1 ht) fun us s2 ⟨vs, H2, I2, r, q⟩ => ⟨I2.kIn, ?_⟩) he hpl
  exact run_makeRS M F hr (hx σ) I2 r q
end
end TW

namespace TW
open PySem PySem.Spec PyProof.Rows L2
theorem pe_conK {X : Cx} (K : PySem.W.Frag) {e : Expr} {ta : TE} {f : Str} {pos : Pos} (he : PE X e ta) (hb : attributeBase e f X.env (eval e X.env) = eval e X.env) (hK : X.K = K := by rfl) : PE X (.Attribute e f pos) (tCon K ta f) := by
  subst hK
  exact pe_con he hb
def rTupK (K : PySem.W.Frag) : List V → Hp → VK → Prop := fun xs H Q => ∃ p ys, xs = [.ref p] ∧ ((SqL K H p ys ∧ ∀ l, H l = none → Q (.ref l) (upd H l (.tup ys))) ∨ (SqT K H p ys ∧ Q (.ref p) H))
theorem call_tupK {X : Cx} (K : PySem.W.Frag) (hK : X.K = K := by rfl) : CallR X (.type "tuple") (rTupK K) := by
  subst hK
  exact call_tuple_of
theorem Same.updN {H H' : Hp} {D : Addr} {o : HO} (s : Same H H') (n : H D = none) : Same H (upd H' D o) := fun b o' e => by
  rw [upd_ne (ne_of_none e n)]
  exact s _ _ e
theorem Kp.updL {H : Hp} {D : Addr} {xs ys : List V} (h : H D = some (.lst xs)) : Kp H (upd H D (.lst ys)) := fun b o e n => by
  have : b ≠ D := fun z => by
    rw [z, h] at e
    cases e
    exact n _ rfl
  rw [upd_ne this]
  exact e
/-- a dict comprehension over a list that stays -/
theorem dc_list {K : PySem.W.Frag} {a : Addr} {xs : List V} {g : TG} {tt : TT} {tk tv : TE} {vs : List Nat} {σ : L2.St} {H1 : Hp} {D : Addr} {Qd : Hp → Prop} (Pv : Nat → Hp → Prop) (h0 : Pv 0 (upd H1 D (.dK []))) (hl : ∀ i H, i ≤ xs.length → Pv i H → SqL K H a xs)
    (hs : ∀ i x H, xs[i]? = some x → Pv i H → g x (wipe σ vs) H fun σ2 H2 => wipe σ2 vs = wipe σ vs ∧ tt σ2 H2 fun b H3 =>
      if b = true then tk σ2 H3 fun y H4 => tv σ2 H4 fun z H5 => ∃ kvs k, y = kV k ∧ H5 D = some (.dK kvs) ∧ kvs.length < sizeLine ∧ Pv (i + 1) (upd H5 D (.dK (putK kvs k z))) else Pv (i + 1) H3) (hd : ∀ H, Pv xs.length H → Qd H) :
    ∃ W : Nat → Nat → Hp → Prop, (∃ m, W 0 m (upd H1 D (.dK []))) ∧ ∀ i m H, W i m H →
      ((Itl K a).stop i H ∧ Qd H) ∨ ((Itl K a).go i H ∧ ∃ Nx : Hp → Prop, (∀ H', Nx H' → ∃ m', m' < m ∧ W (i + 1) m' H') ∧ ∀ x H', (Itl K a).yld i H x H' → g x (wipe σ vs) H' fun σ2 H2 => wipe σ2 vs = wipe σ vs ∧ tt σ2 H2 fun b H3 =>
        if b = true then tk σ2 H3 fun y H4 => tv σ2 H4 fun z H5 => ∃ kvs k, y = kV k ∧ H5 D = some (.dK kvs) ∧ kvs.length < sizeLine ∧ Nx (upd H5 D (.dK (putK kvs k z))) else Nx H3) := by
  refine ⟨fun i m H => m = xs.length - i ∧ i ≤ xs.length ∧ Pv i H, ⟨xs.length, by simp, Nat.zero_le _, h0⟩, ?_⟩
  rintro i m H ⟨rfl, hi, p⟩
  have q := hl i H hi p
  by_cases hlt : i < xs.length
  · refine .inr ⟨⟨xs, xs[i], q, by simp [hlt]⟩, Pv (i + 1), fun H' p' => ⟨xs.length - (i + 1), by omega, rfl, hlt, p'⟩, fun x H' y => ?_⟩
    obtain ⟨e, y⟩ := y
    subst e
    exact hs i x _ (y xs q) p
  · have e : i = xs.length := by omega
    subst e
    exact .inl ⟨⟨xs, q, Nat.le_refl _⟩, hd H p⟩
abbrev mTb (K : PySem.W.Frag) (m : Str) : Addr := He.ma K (CTb K) m
/-- the class Table -/
structure Tt (K : PySem.W.Frag) : Prop where
  cl : Cls K (CTb K)
  a_name : NoAttr K (CTb K) "name"
  a_kinds : NoAttr K (CTb K) "kinds"
  a_desc : NoAttr K (CTb K) "description"
  a_makers : NoAttr K (CTb K) "_makers"
  a_named : NoAttr K (CTb K) "_named"
  a_least : NoAttr K (CTb K) "_least"
  rows : ∃ u, Con K (CTb K) "MOST_ROWS" (.int 10) u
  mk_ : Mk K (CTb K) (mTb K "__init__")
  d_init : DefAt K "__init__" "Table.__init__" s_Table_init (mTb K "__init__")
/-! ### a table as an object -/
abbrev tbf (n : List Nat) (rs : List Rw) (kp mp np lp : Addr) : List (Str × V) := [("name", .str (mk n)), ("kinds", .ref kp), ("description", .str (mk (dsc n rs))), ("_makers", .ref mp), ("_named", .ref np), ("_least", .ref lp)]
def nmK (rs : List Rw) (ms : List V) : List (Key × V) := (rs.zip ms).map fun x => (Sum.inr (mk x.1.nm), x.2)
def TbO (K : PySem.W.Frag) (H : Hp) (a : Addr) (n : List Nat) (rs : List Rw) : Prop := ∃ dx kp mp np lp ms L, H a = some (.ins (CTb K) dx (tbf n rs kp mp np lp)) ∧ H kp = some (.tup (strL (kds rs))) ∧ H mp = some (.tup ms) ∧ All2 (MO (CM K) H) ms rs ∧ H np = some (.dK (nmK rs ms)) ∧
  DL (CT K) (kds rs) H lp L ∧ LOkS rs L ∧ ∀ r ∈ rs, Cl L r
theorem DL.kp {C : Addr} {ks : List (List Nat)} {H H' : Hp} (k : Kp H H') {g : Addr} {L : LM} (h : DL C ks H g L) : DL C ks H' g L := by
  obtain ⟨kvs, hg, hl, h⟩ := h
  refine ⟨kvs, k _ _ hg (fun _ z => nomatch z), hl, fun w => ?_⟩
  have := h w
  cases e : L w with
  | none => rw [e] at this; exact this
  | some t =>
    rw [e] at this
    obtain ⟨v, h1, h2⟩ := this
    exact ⟨v, h1, TO.kp k v t h2⟩
theorem TbO.kp {K : PySem.W.Frag} {H H' : Hp} (k : Kp H H') {a : Addr} {n : List Nat} {rs : List Rw} (h : TbO K H a n rs) : TbO K H' a n rs := by
  obtain ⟨dx, kp, mp, np, lp, ms, L, h1, h2, h3, h4, h5, h6, h7⟩ := h
  exact ⟨dx, kp, mp, np, lp, ms, L, k _ _ h1 (fun _ z => nomatch z), k _ _ h2 (fun _ z => nomatch z), k _ _ h3 (fun _ z => nomatch z), MOs.kp k h4, k _ _ h5 (fun _ z => nomatch z), h6.kp k, h7⟩
theorem TbO.same {K : PySem.W.Frag} {H H' : Hp} (s : Same H H') {a : Addr} {n : List Nat} {rs : List Rw} (h : TbO K H a n rs) : TbO K H' a n rs := h.kp (Same.kp s)
/-! ### all stands but what is at x -/
def Rx (x : Addr) (H H' : Hp) : Prop := ∀ b o, b ≠ x → H b = some o → H' b = some o
theorem Rx.same {x : Addr} {H H' : Hp} (s : Same H H') : Rx x H H' := fun b o _ e => s b o e
theorem Rx.trans {x : Addr} {H H1 H2 : Hp} (a : Rx x H H1) (b : Rx x H1 H2) : Rx x H H2 := fun c o n e => b c o n (a c o n e)
theorem Rx.at {x : Addr} {H : Hp} {o : HO} : Rx x H (upd H x o) := fun b o' n e => by
  rw [upd_ne n]
  exact e
theorem MO.rx {C x : Addr} {H H' : Hp} (k : Rx x H H') {v : V} {r : Rw} (nx : ∀ b, v = .ref b → b ≠ x) (nt : ∀ l, H x ≠ some (.tup l)) (h : MO C H v r) : MO C H' v r := by
  obtain ⟨a, dx, p, e, h1, h2⟩ := h
  exact ⟨a, dx, p, e, k _ _ (nx a e) h1, k _ _ (fun z => nt _ (z ▸ h2)) h2⟩
theorem MOs.rx {C x : Addr} {H H' : Hp} (k : Rx x H H') (nt : ∀ l, H x ≠ some (.tup l)) : ∀ {vs : List V} {rs : List Rw}, (∀ v ∈ vs, ∀ b, v = .ref b → b ≠ x) → All2 (MO C H) vs rs → All2 (MO C H') vs rs
  | _, _, _, .nil => .nil
  | _, _, nx, .cons h t => .cons (h.rx k (nx _ List.mem_cons_self) nt) (MOs.rx k nt (fun v hv => nx v (List.mem_cons_of_mem _ hv)) t)
mutual
theorem TO.rx {C x : Addr} {H H' : Hp} (k : Rx x H H') (hn : ∀ C dx n ks p, H x ≠ some (.ins C dx (tfs (.nd n ks) p))) (ht : ∀ l, H x ≠ some (.tup l)) : ∀ (v : V) (t : Tr), TO C H v t → TO C H' v t
  | v, .nd n ks, h => by
    rw [TO] at h ⊢
    obtain ⟨a, dx, p, vs, e, h1, h2, h3⟩ := h
    exact ⟨a, dx, p, vs, e, k _ _ (fun z => hn _ _ _ _ _ (z ▸ h1)) h1, k _ _ (fun z => ht _ (z ▸ h2)) h2, TOs.rx k hn ht vs ks h3⟩
theorem TOs.rx {C x : Addr} {H H' : Hp} (k : Rx x H H') (hn : ∀ C dx n ks p, H x ≠ some (.ins C dx (tfs (.nd n ks) p))) (ht : ∀ l, H x ≠ some (.tup l)) : ∀ (vs : List V) (ts : List Tr), TOs C H vs ts → TOs C H' vs ts
  | [], [], h => by rw [TOs]; trivial
  | v :: vs, t :: ts, h => by
    rw [TOs] at h ⊢
    exact ⟨TO.rx k hn ht v t h.1, TOs.rx k hn ht vs ts h.2⟩
  | [], _ :: _, h => by simp [TOs] at h
  | _ :: _, [], h => by simp [TOs] at h
end
theorem DL.rx {C x : Addr} {ks : List (List Nat)} {H H' : Hp} (k : Rx x H H') (hn : ∀ C dx n ks p, H x ≠ some (.ins C dx (tfs (.nd n ks) p))) (ht : ∀ l, H x ≠ some (.tup l)) {g : Addr} {L : LM} (gx : g ≠ x) (h : DL C ks H g L) : DL C ks H' g L := by
  obtain ⟨kvs, hg, hl, h⟩ := h
  refine ⟨kvs, k _ _ gx hg, hl, fun w => ?_⟩
  have := h w
  cases e : L w with
  | none => rw [e] at this; exact this
  | some t =>
    rw [e] at this
    obtain ⟨v, h1, h2⟩ := this
    exact ⟨v, h1, TO.rx k hn ht v t h2⟩
theorem made_maker {C : Addr} {H H' : Hp} {r : Rw} {p x dx : Addr} (hp : H p = some (.tup (strL r.ws))) (nx : H x = none) (nd : H dx = none) (k : ∀ b o, b ≠ x → upd (upd H dx (.own x)) x (.ins C dx []) b = some o → H' b = some o) (hx : H' x = some (.ins C dx (mfs r p))) : Same H H' ∧ MO C H' (.ref x) r := by
  have s1 : Same H (upd (upd H dx (.own x)) x (.ins C dx [])) := fun b o e => by rw [upd_ne (ne_of_none e nx), upd_ne (ne_of_none e nd)]; exact e
  have s2 : Same H H' := fun b o e => k b o (ne_of_none e nx) (s1 _ _ e)
  exact ⟨s2, x, dx, p, rfl, hx, s2 _ _ hp⟩
abbrev CBN (K : PySem.W.Frag) : Addr := He.ga K "BadName"
abbrev CBC (K : PySem.W.Frag) : Addr := He.ga K "BadCount"
theorem fld_name : PySem.TWX.Fld "name" := ⟨rfl, rfl, rfl, by decide, by decide, fun _ _ _ _ _ _ _ _ _ _ _ _ => by with_unfolding_all rfl⟩
theorem fld_count : PySem.TWX.Fld "count" := ⟨rfl, rfl, rfl, by decide, by decide, fun _ _ _ _ _ _ _ _ _ _ _ _ => by with_unfolding_all rfl⟩
/-- BadName, BadCount -/
structure TeN (P : Program) (K : PySem.W.Frag) (mg : Str → Option Value) : Prop where
  v_BadName : mg "BadName" = some (.ref (CBN K))
  v_BadCount : mg "BadCount" = some (.ref (CBC K))
  e_bn : PySem.TWX.Err P K mg (CBN K) (He.ma K (CBN K) "__init__") "BadName.__init__" "name" "this is not a small name"
  e_bc : PySem.TWX.Err P K mg (CBC K) (He.ma K (CBC K) "__init__") "BadCount.__init__" "count" "this number is not allowed"
def sp_tinit (K : PySem.W.Frag) : Sp := fun vs H Q E => ∃ (x dx p : Addr) (n : List Nat) (us : List V) (rs : List Rw), vs = [.ref x, .str (mk n), .ref p] ∧ (∀ c ∈ n, c < 128) ∧ n.length ≤ 1400 ∧ H x = some (.ins (CTb K) dx []) ∧ H p = some (.tup us) ∧ All2 (RO H) us rs ∧ rs.length ≤ 1400 ∧ (∀ r ∈ rs, RwS r) ∧
  (smallN n = false → ∀ H' d, Same H H' → H' d = none → E (.ref (CBN K)) (some d) (upd H' d (.xd [(("name" : Str), .str (mk n))]))) ∧
  (smallN n = true → ¬ (1 ≤ rs.length ∧ rs.length ≤ 10) → ∀ H' d, Same H H' → H' d = none → E (.ref (CBC K)) (some d) (upd H' d (.xd [(("count" : Str), .int (rs.length : Nat))]))) ∧
  (smallN n = true → 1 ≤ rs.length → rs.length ≤ 10 → ∀ z, fltT rs = some z → RowE K H E z) ∧
  (smallN n = true → 1 ≤ rs.length → rs.length ≤ 10 → fltT rs = none → ∀ H', Rx x H H' → TbO K H' x n rs → Q .non H')
def sp_tstar (K : PySem.W.Frag) : Sp := fun vs H Q E => ∃ ws rest, vs = ws ++ rest ∧ ws.length = ["self", "name"].length ∧ rest.length ≤ sizeLine ∧ ∀ p, H p = none → sp_tinit K (ws ++ [V.ref p]) (upd H p (.tup rest)) Q E
/-- the least number of a kind's trees -/
theorem least_ex {P : Nat → Prop} (h : ∃ n, P n) : ∃ n, P n ∧ ∀ m, P m → n ≤ m := by
  obtain ⟨n, hn⟩ := h
  induction n using Nat.strongRecOn with
  | ind n ih =>
    by_cases c : ∃ m, m < n ∧ P m
    · obtain ⟨m, hm, pm⟩ := c
      exact ih m hm pm
    · exact ⟨n, hn, fun m pm => Nat.le_of_not_lt fun z => c ⟨m, z, pm⟩⟩
theorem szs_get : ∀ {ts : List Tr} {i : Nat} {t : Tr}, ts[i]? = some t → sz t ≤ szs ts
  | [], _, _, h => by simp at h
  | x :: ts, 0, t, h => by
    obtain rfl := Option.some.inj h
    rw [szs]
    omega
  | x :: ts, i + 1, t, h => by
    have := szs_get (ts := ts) (i := i) h
    rw [szs]
    omega
theorem p4_none {rs : List Rw} : ∀ {rest : List Rw} {i : Nat}, p4 rs rest i = none → ∀ r ∈ rest, ∃ t, Drv rs r.kd t
  | [], _, _, r, hr => nomatch hr
  | x :: rest, i, h, r, hr => by
    rw [p4] at h
    split at h
    · rename_i c
      rcases List.mem_cons.mp hr with rfl | hr
      · exact c
      · exact p4_none h r hr
    · cases h
theorem p3_none : ∀ {rest bs : List Rw}, p3 bs rest = none → ∀ (j : Nat) (r : Rw), rest[j]? = some r → ∀ r' ∈ bs ++ rest.take j, r'.kd = r.kd → stW r' ≠ stW r
  | [], _, _, _, _, e => by simp at e
  | x :: rest, bs, h, 0, r, e => by
    obtain rfl := Option.some.inj e
    rw [p3] at h
    split at h
    · rename_i c
      rw [List.take_zero, List.append_nil]
      exact c
    · cases h
  | x :: rest, bs, h, j + 1, r, e => by
    rw [p3] at h
    split at h
    · have := p3_none h j r e
      rw [List.append_assoc] at this
      exact this
    · cases h
theorem flt_tr {rs : List Rw} (lo : 1 ≤ rs.length) (hi : rs.length ≤ 10) (h : fltT rs = none) : TR rs := by
  unfold fltT at h
  have e1 : p1 [] rs = none := by
    cases e : p1 [] rs with
    | none => rfl
    | some z => rw [e] at h; cases h
  rw [or_none e1] at h
  have e2 : p2 (kds rs) rs 0 = none := by
    cases e : p2 (kds rs) rs 0 with
    | none => rfl
    | some z => rw [e] at h; cases h
  rw [or_none e2] at h
  have e3 : p3 [] rs = none := by
    cases e : p3 [] rs with
    | none => rfl
    | some z => rw [e] at h; cases h
  rw [or_none e3] at h
  have ok : ∀ (i : Nat) (r : Rw), rs[i]? = some r → RwOk (rs.take i) r := fun i r e => fltA_ok (p1_none e1 i r e)
  have fin := p4_none h
  refine ⟨lo, hi, ok, kds3 ok, p2_none e2, fun i j r r' ij ei ej ek => ?_, ?_⟩
  · refine p3_none e3 j r' ej r (List.mem_iff_getElem?.mpr ⟨i, ?_⟩) ek
    show (([] : List Rw) ++ rs.take j)[i]? = some r
    rw [List.nil_append, List.getElem?_take, if_pos ij]
    exact ei
  · have rk : ∀ k, ∃ m : Nat, (∃ t, Drv rs k t) → (∃ t, Drv rs k t ∧ sz t = m) ∧ ∀ t, Drv rs k t → m ≤ sz t := fun k => by
      by_cases c : ∃ t, Drv rs k t
      · obtain ⟨t0, d0⟩ := c
        obtain ⟨m, ⟨t, d, e⟩, hm⟩ := least_ex (P := fun m => ∃ t, Drv rs k t ∧ sz t = m) ⟨_, t0, d0, rfl⟩
        exact ⟨m, fun _ => ⟨⟨t, d, e⟩, fun u du => hm _ ⟨u, du, rfl⟩⟩⟩
      · exact ⟨0, fun z => absurd z c⟩
    refine ⟨fun k => (rk k).choose, fun k hk => ?_⟩
    obtain ⟨r0, hr0, e0⟩ : ∃ r ∈ rs, r.kd = k := by
      rcases (kdsF_sub rs [] List.nodup_nil).2.2.2 k hk with z | ⟨r, hr, e⟩
      · cases z
      · exact ⟨r, hr, e⟩
    obtain ⟨⟨t, d, e⟩, _⟩ := (rk k).choose_spec (e0 ▸ fin r0 hr0)
    cases d with
    | dig =>
      obtain ⟨i, er⟩ := List.mem_iff_getElem?.mp hr0
      have := (ok i r0 er).kd
      rw [e0] at this
      cases this
    | row r ts hr hl hd =>
      refine ⟨r, hr, rfl, fun w hw => ?_⟩
      rcases p2_none e2 r hr w hw with z | z
      · exact .inl z
      · refine .inr ⟨z, ?_⟩
        obtain ⟨i, ei⟩ := List.mem_iff_getElem?.mp hw
        have il := (List.getElem?_eq_some_iff.mp ei).1
        have et : ts[i]? = some ts[i] := List.getElem?_eq_getElem (by omega)
        have dw := hd i w _ ei et
        have h1 := ((rk w).choose_spec ⟨_, dw⟩).2 _ dw
        have h2 := szs_get et
        rw [sz] at e
        show (rk w).choose < (rk r.kd).choose
        omega
theorem nmK_snoc {rs : List Rw} {ms : List V} {r : Rw} {m : V} (h : rs.length = ms.length) : nmK (rs ++ [r]) (ms ++ [m]) = nmK rs ms ++ [(Sum.inr (mk r.nm), m)] := by
  unfold nmK
  rw [List.zip_append h, List.map_append]
  rfl
theorem nmK_any {rs : List Rw} {ms : List V} {n : List Nat} (h : n ∉ rs.map (·.nm)) : ((nmK rs ms).any fun kv => decide (kv.1 = (Sum.inr (mk n) : Key))) = false := by
  refine List.any_eq_false.mpr fun kv hkv => ?_
  obtain ⟨x, hx, rfl⟩ := List.mem_map.mp hkv
  intro z
  have e := mk_inj (Sum.inr.inj (of_decide_eq_true z))
  exact h (List.mem_map.mpr ⟨x.1, (List.of_mem_zip hx).1, e⟩)
section
variable {P : Program} {w : World} {K : PySem.W.Frag} {mg : Str → Option Value} {base : Heap}
theorem ok_tinit (T : Tx K mg) (Z : Tc K mg) (M : Tk K mg) (N : Tn K mg) (CC : Tg mg) (W : Tw K) (O : To K) (B : Tt K) (JT : TeT P K mg) (JN : TeN P K mg) : FnR P w K mg base (L2.CX P w) 6 (mTb K "__init__") (sp_tstar K) := by
  have G_is_small : FnR P w K mg base CX0 1 (He.ga K "is_small") sp_small := ok_small T CC
  have G_minit : FnR P w K mg base CX0 1 (He.ma K (CM K) "__init__") (sp_minit (CM K)) := ok_minit T M
  have G_check_rows : FnR P w K mg base (L2.CX P w) 5 (He.ga K "check_rows") (sp_check K) := ok_check T Z M N CC W O JT
  have G_kinds_of : FnR P w K mg base CX0 1 (He.ga K "kinds_of") (sp_kinds (CM K)) := ok_kinds T M
  have G_line_of : FnR P w K mg base CX0 1 (He.ga K "line_of") (sp_line (CM K)) := ok_line T M
  have G_least_trees : FnR P w K mg base CX0 4 (He.ga K "least_trees") (sp_least (CT K) (CM K)) := ok_least T Z M W O
  obtain ⟨fd, F⟩ := B.d_init
  obtain ⟨oc, od, dV, kV, doc, pm, an, cdv, ct, osl, rfl, lk, hcd, hD, hK⟩ := F.ex
  rcases hD with ⟨_, rfl⟩ | ⟨e, _⟩
  case inr => exact absurd rfl e
  refine StX.fn_star (ps := ["self", "name"]) (pv := "rows") (N := N_Table_init) (sp := sp_tinit K) lk hcd sc_Table_init StX.cxUp ?_ ?_
  · refine StX.bind_star2 (B := fun vs => bindArgs (PySem.W.fnOf "__init__" "Table.__init__" (defArgs s_Table_init) (defBody s_Table_init) (defScope s_Table_init) Value.none kV doc pm an cdv ct) ⟨vs, []⟩) ?_ ?_
    · intro a b
      rfl
    · intro a b r rs
      rfl
  intro A outer s H vs Q E hr h
  obtain ⟨x, dx, p, n, us, rs, rfl, n7, n1k, hx, hp, hro, r900, sane, qN, qC, qR, q⟩ := h
  refine ⟨_, (pss_cons (ps_if (pt_not (pt_val (pe_cr G_is_small (hr.mono (by omega)) (by rfl) T.v_is_small T.k_is_small pass0 (pa_cons (pv 1) pa_nil))))
(pss_one (ps_raiseE JN.e_bn fld_name (hr.mono (by omega)) JN.v_BadName rfl (takes_of rfl rfl rfl rfl) (pa_cons (pv 1) pa_nil) (by rfl)))
pss_nil)
(pss_cons (ps_if (pt_not (pt_chain op_le op_le pe_int (pe_callB call_len (by rfl) T.z_len (by decide +kernel) (pa_cons (pv 2) pa_nil)) (pe_conK K (pv 0) rfl)))
(pss_one (ps_raiseE JN.e_bc fld_count (hr.mono (by omega)) JN.v_BadCount rfl (takes_of rfl rfl rfl rfl) (pa_cons (pe_callB call_len (by rfl) T.z_len (by decide +kernel) (pa_cons (pv 2) pa_nil)) pa_nil) (by rfl)))
pss_nil)
(pss_cons (ps_setLc (i := 3) (own := [("kind", 4), ("maker", 5), ("wants", 6), ("form", 7)]) (g := gTup K 4 (gCons (gName 4) (gCons (gName 5) (gCons (gName 6) (gCons (gName 7) (gNil)))))) rfl sc_Table_init.nd rfl rfl (sw_true rfl rfl rfl (by decide +kernel)) (pi_tup (pv 2)) (blkOk_by (own := [("kind", 4), ("maker", 5), ("wants", 6), ("form", 7)]) (N := N_Table_init) (sc := defScope s_Table_init) (by decide +kernel)) (fun _ _ _ _ _ => pg_tup (by rfl) (pgs_cons (pg_name (i := 4) sc_Table_init.nd rfl (.inl rfl)) (pgs_cons (pg_name (i := 5) sc_Table_init.nd rfl (.inl rfl)) (pgs_cons (pg_name (i := 6) sc_Table_init.nd rfl (.inl rfl)) (pgs_cons (pg_name (i := 7) sc_Table_init.nd rfl (.inl rfl)) pgs_nil))))) (fun _ _ _ _ _ => pts_nil) (fun _ _ _ _ _ => (StX.pe_makeR M.mk_ G_minit (hr.mono (by omega)) (by rfl) M.v_Maker pass0 (pa_cons (pv 4) (pa_cons (pv 5) (pa_cons (pe_callTy (call_tupK K) (by rfl) T.z_tuple (by decide +kernel) (pa_cons (pv 6) pa_nil)) (pa_cons (pv 7) pa_nil)))))))
(pss_cons (ps_expr (pe_crS G_check_rows (hr.mono (by omega)) (by rfl) T.v_check_rows T.k_check_rows (fun σ => passAt (takes_of rfl rfl rfl rfl) σ) (pa_cons (pv 3) pa_nil)))
(pss_cons (ps_fld (pv 0) (pv 1) rfl)
(pss_cons (ps_fld (pv 0) (pe_callTy call_tuple_of (by rfl) T.z_tuple (by decide +kernel) (pa_cons (pe_cr G_kinds_of (hr.mono (by omega)) (by rfl) T.v_kinds_of T.k_kinds_of pass0 (pa_cons (pv 3) pa_nil)) pa_nil)) rfl)
(pss_cons (ps_fld (pv 0) (pe_join pe_str (pe_lst (pa_cons (pe_op op_add_str pe_str (pv 1)) (StX.pa_star (pe_lc (own := [("maker", 5)]) (g := gName 5) rfl sc_Table_init.nd (pi_list (pv 3)) (blkOk_by (own := [("maker", 5)]) (N := N_Table_init) (sc := defScope s_Table_init) (by decide +kernel)) (fun _ _ _ _ _ => pg_name (i := 5) sc_Table_init.nd rfl (.inl rfl)) (fun _ _ _ _ _ => pts_nil) (fun _ _ _ _ _ => (pe_cr G_line_of (hr.mono (by omega)) (by rfl) T.v_line_of T.k_line_of pass0 (pa_cons (pv 5) pa_nil)))) pa_nil)))) rfl)
(pss_cons (ps_fld (pv 0) (pe_callTy call_tuple_of (by rfl) T.z_tuple (by decide +kernel) (pa_cons (pv 3) pa_nil)) rfl)
(pss_cons (ps_fld (pv 0) (pe_dc (own := [("maker", 5)]) (g := gName 5) rfl sc_Table_init.nd (pi_list (pv 3)) (blkOk_by (own := [("maker", 5)]) (N := N_Table_init) (sc := defScope s_Table_init) (by decide +kernel)) (fun _ _ _ _ _ => pg_name (i := 5) sc_Table_init.nd rfl (.inl rfl)) (fun _ _ _ _ _ => pts_nil) (fun _ _ _ _ _ => (pe_fldK K (pv 5) rfl)) (fun _ _ _ _ _ => (pv 5))) rfl)
(pss_one (ps_fld (pv 0) (pe_cr G_least_trees (hr.mono (by omega)) (by rfl) T.v_least_trees T.k_least_trees pass0 (pa_cons (pv 3) pa_nil)) rfl))))))))))), ?_⟩
  have CL := B.cl
  have ul : us.length = rs.length := hro.len
  -- the tests
  refine ⟨_, rfl, n, rfl, n7, n1k, fun H1 s1 => ⟨smallN n, rfl, ?_⟩⟩
  cases hn : smallN n with
  | false => exact iteT ⟨_, rfl, _, rfl, fun d nd => qN hn H1 d s1 nd⟩
  | true => 
  have smn := smallN_of hn
  refine iteF ?_
  obtain ⟨u10, con⟩ := B.rows
  have refuse : ¬ (1 ≤ rs.length ∧ rs.length ≤ 10) → ∀ H' d, Same H H' → H' d = none → E (.ref (CBC K)) (some d) (upd H' d (.xd [(("count" : Str), .int (rs.length : Nat))])) := fun z => qC hn z
  refine ⟨.ref p, rfl, .ref p, rs.length, rfl, .inr ⟨_, SqT.of (s1 _ _ hp), ul.symm⟩, 1, rs.length, rfl, rfl, _, rfl, ite2 (fun e1 => ?_) (fun e1 => ?_)⟩
  case refine_2 =>
    have nlo : ¬ (1 : Int) ≤ rs.length := fun z => e1 (decide_eq_true z)
    refine ⟨false, rfl, ?_⟩
    refine iteT ⟨.ref p, rfl, .ref p, rs.length, rfl, .inr ⟨_, SqT.of (s1 _ _ hp), ul.symm⟩, _, rfl, fun d nd => refuse (fun z => nlo (by omega)) H1 d s1 nd⟩
  have lo : 1 ≤ rs.length := by
    have := of_decide_eq_true e1
    omega
  refine ⟨.ref x, rfl, x, _, dx, _, .int 10, u10, rfl, s1 _ _ hx, CL, con, rfl, rs.length, 10, rfl, rfl, _, rfl, ?_⟩
  by_cases hi : rs.length ≤ 10
  case neg =>
    rw [decide_eq_false (show ¬ (rs.length : Int) ≤ 10 by omega)]
    refine iteT ⟨.ref p, rfl, .ref p, rs.length, rfl, .inr ⟨_, SqT.of (s1 _ _ hp), ul.symm⟩, _, rfl, fun d nd => refuse (fun z => hi z.2) H1 d s1 nd⟩
  rw [decide_eq_true (show (rs.length : Int) ≤ 10 by omega)]
  refine iteF ?_
  have ro1 := ROs.same s1 hro
  have hx1 := s1 _ _ hx
  have hp1 := s1 _ _ hp
  -- the makers
  refine ⟨.ref p, rfl, p, rfl, ⟨_, SqT.of hp1⟩, fun D nD => ?_⟩
  refine lc_tup (xs := us) (fun i H3 => ∃ ms, H3 D = some (.lst ms) ∧ Same H1 H3 ∧ All2 (MO (CM K) H3) ms (rs.take i) ∧ (∀ v ∈ ms, ∀ b, v = .ref b → H1 b = none)) ?_ ?_ ?_ ?_
  · exact ⟨[], upd_same, Same.new nD, by rw [List.take_zero]; exact .nil, fun v hv => nomatch hv⟩
  · rintro i H3 _ ⟨ms, _, s3, _⟩
    exact SqT.of (s3 _ _ hp1)
  · rintro i v H3 hv ⟨ms, eD, s3, mm, nx⟩
    obtain ⟨r, er, ro⟩ := ro1.get hv
    obtain ⟨a, pw, rfl, ha, hw⟩ := ro.same s3
    have il := (List.getElem?_eq_some_iff.mp er).1
    refine ⟨a, _, rfl, SqT.of ha, rfl, .str (mk r.kd), _, rfl, .str (mk r.nm), _, rfl, .ref pw, _, rfl, .str (mk r.fm), [], rfl, rfl, rfl, ?_⟩
    refine ⟨_, rfl, _, rfl, .ref pw, rfl, pw, _, rfl, .inr ⟨SqT.of hw, _, rfl, ?_⟩⟩
    refine fun m dm nm4 nd4 _ => ⟨m, dm, pw, r, rfl, upd_same, fun H4 k4 hm4 => ⟨rfl, ?_⟩⟩
    obtain ⟨s4, mo⟩ := made_maker hw nm4 nd4 k4 hm4
    have mm4 := MOs.same s4 mm
    have ml : ms.length = i := by
      rw [mm.len, List.length_take]
      omega
    have eD4 := s4 _ _ eD
    refine ⟨_, eD4, small1000 (by omega), ms ++ [.ref m], upd_same, Same.updN (s3.trans s4) nD, ?_, fun v hv b eb => ?_⟩
    · rw [take_get er]
      exact MOs.kp (Kp.updL eD4) (All2.app mm4 (.cons mo .nil))
    · rcases List.mem_append.mp hv with z | z
      · exact nx v z b eb
      · rw [List.mem_singleton.mp z] at eb
        cases eb
        exact s3.free nm4
  rintro H3 ⟨ms, eD, s3, mm, nx⟩
  rw [ul, List.take_length] at mm
  have ml := mm.len
  have hx3 := s3 _ _ hx1
  -- check_rows
  refine ⟨.ref D, rfl, D, ms, rs, rfl, eD, mm, hi, sane, fun z ez H4 d s4 nd => qR hn lo hi z ez H4 d (s1.trans (s3.trans s4)) nd, fun en H4 s4 => ?_⟩
  have q := q hn lo hi en
  have tr : TR rs := flt_tr lo hi en
  have nxx : ∀ v ∈ ms, ∀ b, v = .ref b → b ≠ x := fun v hv b eb => (ne_of_none hx1 (nx v hv b eb)).symm
  have hx4 := s4 _ _ hx3
  have eD4 := s4 _ _ eD
  have mm4 := MOs.same s4 mm
  have Dx : D ≠ x := (ne_of_none hx1 nD).symm
  have R4 : Rx x H H4 := Rx.same (s1.trans (s3.trans s4))
  -- name
  refine ⟨_, rfl, .ref x, rfl, x, _, dx, _, rfl, hx4, CL, B.a_name, Nat.le_of_ble_eq_true rfl, ?_⟩
  have R5 : Rx x H4 (upd H4 x (.ins (CTb K) dx (putF "name" (.str (mk n)) []))) := Rx.at
  have hx5 : upd H4 x (.ins (CTb K) dx (putF "name" (.str (mk n)) [])) x = some (.ins (CTb K) dx [("name", .str (mk n))]) := by
    rw [upd_same]
    rfl
  generalize upd H4 x (.ins (CTb K) dx (putF "name" (.str (mk n)) [])) = H5 at R5 hx5
  have eD5 := R5 _ _ Dx eD4
  have mm5 := MOs.rx R5 (fun l z => by rw [hx4] at z; cases z) nxx mm4
  -- kinds
  refine ⟨.ref D, rfl, D, ms, rs, rfl, eD5, mm5, by omega, fun H6 kl s6 nkl ekl => ?_⟩
  refine ⟨kl, _, rfl, .inl ⟨SqL.of ekl, fun kp nkp => ?_⟩⟩
  have s7 := s6.trans (Same.new (o := .tup (strL (kds rs))) nkp)
  have ekp : upd H6 kp (.tup (strL (kds rs))) kp = some (.tup (strL (kds rs))) := upd_same
  generalize upd H6 kp (.tup (strL (kds rs))) = H7 at s7 ekp
  have hx7 := s7 _ _ hx5
  refine ⟨.ref x, rfl, x, _, dx, _, rfl, hx7, CL, B.a_kinds, Nat.le_of_ble_eq_true rfl, ?_⟩
  have R8 : Rx x H7 (upd H7 x (.ins (CTb K) dx (putF "kinds" (.ref kp) [("name", .str (mk n))]))) := Rx.at
  have hx8 : upd H7 x (.ins (CTb K) dx (putF "kinds" (.ref kp) [("name", .str (mk n))])) x = some (.ins (CTb K) dx [("name", .str (mk n)), ("kinds", .ref kp)]) := by
    rw [upd_same]
    rfl
  generalize upd H7 x (.ins (CTb K) dx (putF "kinds" (.ref kp) [("name", .str (mk n))])) = H8 at R8 hx8
  have kpx : kp ≠ x := fun z => by
    rw [z, hx7] at ekp
    cases ekp
  have ekp8 := R8 _ _ kpx ekp
  have eD8 := R8 _ _ Dx (s7 _ _ eD5)
  have mm8 := MOs.rx R8 (fun l z => by rw [hx7] at z; cases z) nxx (MOs.same s7 mm5)
  -- description
  refine ⟨⟨_, rfl⟩, _, rfl, mk tabL, mk n, rfl, rfl, ?_, ?_⟩
  · rw [mk_len, mk_len]
    exact Nat.le_trans (show 6 + n.length ≤ 1000 by have := smn.2.1; omega) szle
  rw [mk_app]
  refine ⟨.ref D, rfl, D, rfl, ⟨_, SqL.of eD8⟩, fun D2 nD2 => ?_⟩
  have lsm : ∀ r ∈ rs, Sm r := fun r hr => by
    obtain ⟨i, er⟩ := List.mem_iff_getElem?.mp hr
    exact (tr.rows i r er).sm
  refine lc_list (xs := ms) (fun i H9 => H9 D2 = some (.lst (strL ((rs.take i).map ln))) ∧ Same H8 H9) ⟨upd_same, Same.new nD2⟩ ?_ ?_ ?_
  · rintro i H9 _ ⟨_, s9⟩
    exact SqL.of (s9 _ _ eD8)
  · rintro i v H9 hv ⟨e9, s9⟩
    obtain ⟨r, er, mo⟩ := mm8.get hv
    have il := (List.getElem?_eq_some_iff.mp hv).1
    refine ⟨rfl, v, rfl, v, r, rfl, mo.same s9, lsm r (List.mem_of_getElem? er), fun H10 s10 => ?_⟩
    have e10 := s10 _ _ e9
    refine ⟨_, e10, small1000 ?_, ?_, Same.updN (s9.trans s10) nD2⟩
    · rw [List.length_map, List.length_map, List.length_take]
      omega
    · rw [upd_same, take_get er, List.map_append, strL_app]
      rfl
  rintro H9 ⟨e9, s9⟩
  rw [ml, List.take_length] at e9
  have lml : (rs.map ln).length = rs.length := List.length_map _
  refine ⟨D2, _, rfl, .inr (SqL.of e9), ?_, fun l nl => ?_⟩
  · refine Nat.le_trans (m := 1000) ?_ szle
    show (strL (rs.map ln) ++ []).length + 1 ≤ 1000
    rw [List.append_nil, List.length_map, lml]
    omega
  have el : (V.str (mk (tabL ++ n)) :: (strL (rs.map ln) ++ [])) = ((dscL n rs).map mk).map V.str := by
    rw [List.append_nil, List.map_map]
    rfl
  rw [el]
  have s10 := s9.trans (Same.new (o := .lst (((dscL n rs).map mk).map V.str)) nl)
  have e10 : upd H9 l (.lst (((dscL n rs).map mk).map V.str)) l = some (.lst (((dscL n rs).map mk).map V.str)) := upd_same
  generalize upd H9 l (.lst (((dscL n rs).map mk).map V.str)) = H10 at s10 e10
  refine ⟨mk [10], l, (dscL n rs).map mk, rfl, rfl, .inl (SqL.of e10), ?_, ?_⟩
  · have h1 := jc_sum (dscL n rs) (B := 100) fun x hx => by
      rcases List.mem_cons.mp hx with rfl | hx
      · rw [List.length_append]
        show 6 + n.length ≤ 100
        have := smn.2.1
        omega
      · obtain ⟨r, hr, rfl⟩ := List.mem_map.mp hx
        exact (lsm r hr).ln
    have h2 : (dscL n rs).length = rs.length + 1 := by
      show (rs.map ln).length + 1 = _
      rw [lml]
    rw [List.length_map, mk_len]
    show _ + _ * 1 ≤ _
    rw [h2] at h1 ⊢
    refine Nat.le_trans (m := 5000) ?_ (by decide)
    omega
  rw [show Txt.join (mk [10]) ((dscL n rs).map mk) = mk (dsc n rs) from (TL.join_eq _ _).trans (join_jc 10 _)]
  have hx10 := s10 _ _ hx8
  refine ⟨.ref x, rfl, x, _, dx, _, rfl, hx10, CL, B.a_desc, Nat.le_of_ble_eq_true rfl, ?_⟩
  have R11 : Rx x H10 (upd H10 x (.ins (CTb K) dx (putF "description" (.str (mk (dsc n rs))) [("name", .str (mk n)), ("kinds", .ref kp)]))) := Rx.at
  have hx11 : upd H10 x (.ins (CTb K) dx (putF "description" (.str (mk (dsc n rs))) [("name", .str (mk n)), ("kinds", .ref kp)])) x = some (.ins (CTb K) dx [("name", .str (mk n)), ("kinds", .ref kp), ("description", .str (mk (dsc n rs)))]) := by
    rw [upd_same]
    rfl
  generalize upd H10 x (.ins (CTb K) dx (putF "description" (.str (mk (dsc n rs))) [("name", .str (mk n)), ("kinds", .ref kp)])) = H11 at R11 hx11
  have eD11 := R11 _ _ Dx (s10 _ _ eD8)
  have ekp11 := R11 _ _ kpx (s10 _ _ ekp8)
  have mm11 := MOs.rx R11 (fun l z => by rw [hx10] at z; cases z) nxx (MOs.same s10 mm8)
  -- _makers
  refine ⟨.ref D, rfl, D, _, rfl, .inl ⟨SqL.of eD11, fun mp nmp => ?_⟩⟩
  have s12 := Same.new (o := .tup ms) nmp
  have emp : upd H11 mp (.tup ms) mp = some (.tup ms) := upd_same
  generalize upd H11 mp (.tup ms) = H12 at s12 emp
  have hx12 := s12 _ _ hx11
  refine ⟨.ref x, rfl, x, _, dx, _, rfl, hx12, CL, B.a_makers, Nat.le_of_ble_eq_true rfl, ?_⟩
  have R13 : Rx x H12 (upd H12 x (.ins (CTb K) dx (putF "_makers" (.ref mp) [("name", .str (mk n)), ("kinds", .ref kp), ("description", .str (mk (dsc n rs)))]))) := Rx.at
  have hx13 : upd H12 x (.ins (CTb K) dx (putF "_makers" (.ref mp) [("name", .str (mk n)), ("kinds", .ref kp), ("description", .str (mk (dsc n rs)))])) x = some (.ins (CTb K) dx [("name", .str (mk n)), ("kinds", .ref kp), ("description", .str (mk (dsc n rs))), ("_makers", .ref mp)]) := by
    rw [upd_same]
    rfl
  generalize upd H12 x (.ins (CTb K) dx (putF "_makers" (.ref mp) [("name", .str (mk n)), ("kinds", .ref kp), ("description", .str (mk (dsc n rs)))])) = H13 at R13 hx13
  have mpx : mp ≠ x := (ne_of_none hx11 nmp).symm
  have eD13 := R13 _ _ Dx (s12 _ _ eD11)
  have ekp13 := R13 _ _ kpx (s12 _ _ ekp11)
  have emp13 := R13 _ _ mpx emp
  have mm13 := MOs.rx R13 (fun l z => by rw [hx12] at z; cases z) nxx (MOs.same s12 mm11)
  -- _named
  refine ⟨.ref D, rfl, D, rfl, ⟨_, SqL.of eD13⟩, fun np nnp => ?_⟩
  refine dc_list (xs := ms) (fun i H14 => H14 np = some (.dK (nmK (rs.take i) (ms.take i))) ∧ Same H13 H14) ⟨upd_same, Same.new nnp⟩ ?_ ?_ ?_
  · rintro i H14 _ ⟨_, s14⟩
    exact SqL.of (s14 _ _ eD13)
  · rintro i v H14 hv ⟨e14, s14⟩
    obtain ⟨r, er, mo⟩ := mm13.get hv
    have il := (List.getElem?_eq_some_iff.mp hv).1
    obtain ⟨b, db, pb, rfl, hb, hpb⟩ := mo.same s14
    have tl : (rs.take i).length = (ms.take i).length := by
      rw [List.length_take, List.length_take, ml]
    refine ⟨rfl, .ref b, rfl, b, _, db, _, _, rfl, hb, M.cl, M.a_name, rfl, _, rfl, _, .inr (mk r.nm), rfl, e14, small1000 ?_, ?_, Same.updN s14 nnp⟩
    · unfold nmK
      rw [List.length_map, List.length_zip, List.length_take, List.length_take]
      omega
    · have new := (tr.rows i r er).new
      rw [upd_same, take_get er, take_get hv, nmK_snoc tl]
      unfold putK
      rw [if_neg (by rw [nmK_any new]; exact Bool.false_ne_true)]
  rintro H14 ⟨e14, s14⟩
  rw [ml, List.take_length, ← ml, List.take_length] at e14
  have hx14 := s14 _ _ hx13
  refine ⟨.ref x, rfl, x, _, dx, _, rfl, hx14, CL, B.a_named, Nat.le_of_ble_eq_true rfl, ?_⟩
  have R15 : Rx x H14 (upd H14 x (.ins (CTb K) dx (putF "_named" (.ref np) [("name", .str (mk n)), ("kinds", .ref kp), ("description", .str (mk (dsc n rs))), ("_makers", .ref mp)]))) := Rx.at
  have hx15 : upd H14 x (.ins (CTb K) dx (putF "_named" (.ref np) [("name", .str (mk n)), ("kinds", .ref kp), ("description", .str (mk (dsc n rs))), ("_makers", .ref mp)])) x = some (.ins (CTb K) dx [("name", .str (mk n)), ("kinds", .ref kp), ("description", .str (mk (dsc n rs))), ("_makers", .ref mp), ("_named", .ref np)]) := by
    rw [upd_same]
    rfl
  generalize upd H14 x (.ins (CTb K) dx (putF "_named" (.ref np) [("name", .str (mk n)), ("kinds", .ref kp), ("description", .str (mk (dsc n rs))), ("_makers", .ref mp)])) = H15 at R15 hx15
  have npx : np ≠ x := (ne_of_none hx13 nnp).symm
  have eD15 := R15 _ _ Dx (s14 _ _ eD13)
  have ekp15 := R15 _ _ kpx (s14 _ _ ekp13)
  have emp15 := R15 _ _ mpx (s14 _ _ emp13)
  have enp15 := R15 _ _ npx e14
  have mm15 := MOs.rx R15 (fun l z => by rw [hx14] at z; cases z) nxx (MOs.same s14 mm13)
  -- _least
  refine ⟨.ref D, rfl, D, ms, rs, rfl, eD15, mm15, by omega, tr.k3, fun r hr => ?_, fun H16 g L s16 ng dl lok cl => ?_⟩
  · obtain ⟨i, er⟩ := List.mem_iff_getElem?.mp hr
    have o := tr.rows i r er
    exact ⟨o.nm, o.kd, o.fm.wl, tr.wk r hr⟩
  have hx16 := s16 _ _ hx15
  refine ⟨.ref x, rfl, x, _, dx, _, rfl, hx16, CL, B.a_least, Nat.le_of_ble_eq_true rfl, ?_⟩
  have R17 : Rx x H16 (upd H16 x (.ins (CTb K) dx (putF "_least" (.ref g) [("name", .str (mk n)), ("kinds", .ref kp), ("description", .str (mk (dsc n rs))), ("_makers", .ref mp), ("_named", .ref np)]))) := Rx.at
  have hx17 : upd H16 x (.ins (CTb K) dx (putF "_least" (.ref g) [("name", .str (mk n)), ("kinds", .ref kp), ("description", .str (mk (dsc n rs))), ("_makers", .ref mp), ("_named", .ref np)])) x = some (.ins (CTb K) dx (tbf n rs kp mp np g)) := by
    rw [upd_same]
    rfl
  generalize upd H16 x (.ins (CTb K) dx (putF "_least" (.ref g) [("name", .str (mk n)), ("kinds", .ref kp), ("description", .str (mk (dsc n rs))), ("_makers", .ref mp), ("_named", .ref np)])) = H17 at R17 hx17
  have gx : g ≠ x := (ne_of_none hx15 ng).symm
  have hn16 : ∀ C dx' n' ks p', H16 x ≠ some (.ins C dx' (tfs (.nd n' ks) p')) := fun C dx' n' ks p' z => by
    rw [hx16] at z
    have z1 := HO.ins.inj (Option.some.inj z)
    have z2 := congrArg (fun l : List (Str × V) => (l[1]?).map (·.1)) z1.2.2
    have z3 : (some ("kinds" : Str)) = some "parts" := z2
    exact absurd z3 (by decide)
  have ht16 : ∀ l, H16 x ≠ some (.tup l) := fun l z => by rw [hx16] at z; cases z
  refine q H17 ?_ ⟨dx, kp, mp, np, g, ms, L, hx17, R17 _ _ kpx (s16 _ _ ekp15), R17 _ _ mpx (s16 _ _ emp15), MOs.rx R17 ht16 nxx (MOs.same s16 mm15), R17 _ _ npx (s16 _ _ enp15), dl.rx R17 hn16 ht16 gx, lok, cl⟩
  refine R4.trans (R5.trans ((Rx.same s7).trans (R8.trans ((Rx.same s10).trans (R11.trans ((Rx.same s12).trans (R13.trans ((Rx.same s14).trans (R15.trans ((Rx.same s16).trans R17))))))))))
end
end TW

namespace TW
open PySem PySem.Spec PyProof.Rows L2
/-! ### a text cut at a sign -/
def spl (c : Nat) : List Nat → List (List Nat)
  | [] => [[]]
  | x :: r => if x = c then [] :: spl c r else match spl c r with
    | [] => [[x]]
    | h :: t => (x :: h) :: t
theorem spl_nn (c : Nat) : ∀ l : List Nat, spl c l ≠ []
  | [] => List.cons_ne_nil _ _
  | x :: r => by
    rw [spl]
    split
    · exact List.cons_ne_nil _ _
    · split
      · exact List.cons_ne_nil _ _
      · exact List.cons_ne_nil _ _
theorem spl_no (c : Nat) : ∀ l : List Nat, ∀ p ∈ spl c l, c ∉ p
  | [], p, hp => by
    rw [List.mem_singleton.mp hp]
    exact fun z => nomatch z
  | x :: r, p, hp => by
    have ih := spl_no c r
    rw [spl] at hp
    split at hp
    · rcases List.mem_cons.mp hp with rfl | hp
      · exact fun z => nomatch z
      · exact ih p hp
    · rename_i n
      split at hp
      · rw [List.mem_singleton.mp hp]
        exact fun z => n (List.mem_singleton.mp z).symm
      · rename_i h t e
        rw [e] at ih
        rcases List.mem_cons.mp hp with rfl | hp
        · exact fun z => (List.mem_cons.mp z).elim (fun z => n z.symm) (ih h List.mem_cons_self)
        · exact ih p (List.mem_cons_of_mem _ hp)
theorem jc_spl (c : Nat) : ∀ l : List Nat, jc c (spl c l) = l
  | [] => rfl
  | x :: r => by
    have ih := jc_spl c r
    rw [spl]
    split
    · rename_i e
      cases h : spl c r with
      | nil => exact absurd h (spl_nn c r)
      | cons a t =>
        rw [h] at ih
        rw [jc, ih, e]
        rfl
    · cases h : spl c r with
      | nil => exact absurd h (spl_nn c r)
      | cons a t =>
        rw [h] at ih
        dsimp only
        cases t with
        | nil =>
          rw [jc] at ih ⊢
          rw [ih]
        | cons b u =>
          rw [jc] at ih ⊢
          rw [List.cons_append, ih]
theorem spl_mem {c : Nat} : ∀ {l p : List Nat} {x : Nat}, p ∈ spl c l → x ∈ p → x ∈ l
  | [], p, x, hp, hx => by
    rw [List.mem_singleton.mp hp] at hx
    cases hx
  | y :: r, p, x, hp, hx => by
    rw [spl] at hp
    split at hp
    · rcases List.mem_cons.mp hp with rfl | hp
      · cases hx
      · exact List.mem_cons_of_mem _ (spl_mem hp hx)
    · split at hp
      · rw [List.mem_singleton.mp hp] at hx
        rw [List.mem_singleton.mp hx]
        exact List.mem_cons_self
      · rename_i h t e
        rcases List.mem_cons.mp hp with rfl | hp
        · rcases List.mem_cons.mp hx with rfl | hx
          · exact List.mem_cons_self
          · exact List.mem_cons_of_mem _ (spl_mem (e ▸ List.mem_cons_self) hx)
        · exact List.mem_cons_of_mem _ (spl_mem (e ▸ List.mem_cons_of_mem _ hp) hx)
theorem spl_len {c : Nat} : ∀ {l p : List Nat}, p ∈ spl c l → p.length ≤ l.length
  | [], p, hp => by
    rw [List.mem_singleton.mp hp]
    exact Nat.le_refl _
  | y :: r, p, hp => by
    rw [spl] at hp
    rw [List.length_cons]
    split at hp
    · rcases List.mem_cons.mp hp with rfl | hp
      · exact Nat.zero_le _
      · exact Nat.le_succ_of_le (spl_len hp)
    · split at hp
      · rw [List.mem_singleton.mp hp]
        exact Nat.succ_le_succ (Nat.zero_le _)
      · rename_i h t e
        rcases List.mem_cons.mp hp with rfl | hp
        · exact Nat.succ_le_succ (spl_len (c := c) (e ▸ List.mem_cons_self))
        · exact Nat.le_succ_of_le (spl_len (c := c) (e ▸ List.mem_cons_of_mem _ hp))
theorem spl_cnt (c : Nat) : ∀ l : List Nat, (spl c l).length ≤ l.length + 1
  | [] => Nat.le_refl _
  | y :: r => by
    have ih := spl_cnt c r
    rw [spl]
    split
    · exact Nat.succ_le_succ ih
    · split
      · exact Nat.succ_le_succ (Nat.zero_le _)
      · rename_i h t e
        rw [e] at ih
        exact Nat.le_succ_of_le ih
theorem split_mk {c : Nat} (hc : c < 256) (l : List Nat) : Txt.split (mk l) (mk [c]) = (spl c l).map mk := by
  have := split_jc hc (spl_nn c l) (spl_no c l)
  rwa [jc_spl] at this
theorem spl_of {c : Nat} (hc : c < 256) {ls : List (List Nat)} (h0 : ls ≠ []) (h : ∀ l ∈ ls, c ∉ l) : spl c (jc c ls) = ls := by
  have := (split_mk hc (jc c ls)).symm.trans (split_jc hc h0 h)
  have k : ∀ {as bs : List (List Nat)}, as.map mk = bs.map mk → as = bs := by
    intro as
    induction as with
    | nil => intro bs e; cases bs with
      | nil => rfl
      | cons b bs => cases e
    | cons a as ih => intro bs e; cases bs with
      | nil => cases e
      | cons b bs =>
        rw [List.map_cons, List.map_cons] at e
        injection e with e1 e2
        rw [mk_inj e1, ih e2]
  exact k this
/-! ### the lines of a description -/
def tabW : List Nat := [116, 97, 98, 108, 101]
/-- the row that a line's fields write -/
def rowF (f : List (List Nat)) : Option Rw :=
  if 4 ≤ f.length ∧ [] ∉ f ∧ (f.getD 0 []).getLast? = some 58 ∧ f.getD (f.length - 2) [] = [61] then some ⟨(f.getD 0 []).dropLast, f.getD 1 [], (f.drop 2).take (f.length - 4), f.getD (f.length - 1) []⟩ else none
theorem four {α : Type} {f : List α} (h : 4 ≤ f.length) : ∃ a b ws y z, f = a :: b :: (ws ++ [y, z]) := by
  match f, h with
  | a :: b :: r, h =>
    rcases List.eq_nil_or_concat r with rfl | ⟨r1, z, rfl⟩
    · simp at h
    rcases List.eq_nil_or_concat r1 with rfl | ⟨ws, y, rfl⟩
    · simp at h
    exact ⟨a, b, ws, y, z, by simp⟩
theorem rowF_at {a b y z : List Nat} {ws : List (List Nat)} : rowF (a :: b :: (ws ++ [y, z])) = if [] ∉ (a :: b :: (ws ++ [y, z])) ∧ a.getLast? = some 58 ∧ y = [61] then some ⟨a.dropLast, b, ws, z⟩ else none := by
  have l : (a :: b :: (ws ++ [y, z])).length = ws.length + 4 := by simp
  have e1 : (a :: b :: (ws ++ [y, z])).getD ((a :: b :: (ws ++ [y, z])).length - 2) [] = y := by
    rw [l, List.getD_eq_getElem?_getD, show ws.length + 4 - 2 = ws.length + 1 + 1 by omega, List.getElem?_cons_succ, List.getElem?_cons_succ, List.getElem?_append_right (Nat.le_refl _), Nat.sub_self]
    rfl
  have e2 : (a :: b :: (ws ++ [y, z])).getD ((a :: b :: (ws ++ [y, z])).length - 1) [] = z := by
    rw [l, List.getD_eq_getElem?_getD, show ws.length + 4 - 1 = ws.length + 1 + 1 + 1 by omega, List.getElem?_cons_succ, List.getElem?_cons_succ, List.getElem?_append_right (by omega), Nat.add_sub_cancel_left]
    rfl
  have e3 : ((a :: b :: (ws ++ [y, z])).drop 2).take ((a :: b :: (ws ++ [y, z])).length - 4) = ws := by
    rw [l, Nat.add_sub_cancel]
    exact List.take_left
  unfold rowF
  rw [e1, e2, e3, l]
  by_cases c : [] ∉ (a :: b :: (ws ++ [y, z])) ∧ a.getLast? = some 58 ∧ y = [61]
  · rw [if_pos c, if_pos ⟨by omega, c⟩]
    rfl
  · rw [if_neg c, if_neg fun z => c z.2]
theorem rowF_short {f : List (List Nat)} (h : ¬ 4 ≤ f.length) : rowF f = none := if_neg fun z => h z.1
theorem rowF_some {f : List (List Nat)} {r : Rw} (h : rowF f = some r) : ∃ a b ws z, f = a :: b :: (ws ++ [[61], z]) ∧ [] ∉ f ∧ a.getLast? = some 58 ∧ r = ⟨a.dropLast, b, ws, z⟩ := by
  by_cases l : 4 ≤ f.length
  · obtain ⟨a, b, ws, y, z, rfl⟩ := four l
    rw [rowF_at] at h
    split at h
    · rename_i c
      refine ⟨a, b, ws, z, by rw [c.2.2], c.1, c.2.1, (Option.some.inj h).symm⟩
    · cases h
  · rw [rowF_short l] at h
    cases h
/-- the rows of the lines, or the number of the first wrong line -/
def rdL : List (List Nat) → Nat → Sum Nat (List Rw)
  | [], _ => .inr []
  | l :: r, k => match rowF (spl 32 l) with
    | none => .inl k
    | some x => match rdL r (k + 1) with
      | .inl j => .inl j
      | .inr xs => .inr (x :: xs)
def headOk (h : List (List Nat)) : Bool := decide (h.length = 2) && decide (h.getD 0 [] = tabW) && decide (h.getD 1 [] ≠ [])
def rdT (d : List Nat) : Sum Nat (List Nat × List Rw) :=
  let ls := spl 10 d
  let h := spl 32 (ls.getD 0 [])
  if headOk h = true then match rdL (ls.drop 1) 2 with
    | .inl k => .inl k
    | .inr rs => .inr (h.getD 1 [], rs)
  else .inl 1
def pre (rs : List Rw) : Sum Nat (List Rw) → Sum Nat (List Rw)
  | .inl k => .inl k
  | .inr xs => .inr (rs ++ xs)
theorem rdL_len : ∀ {ls : List (List Nat)} {k : Nat} {rs : List Rw}, rdL ls k = .inr rs → rs.length = ls.length
  | [], _, _, h => by
    cases h
    rfl
  | l :: r, k, rs, h => by
    rw [rdL] at h
    split at h
    · cases h
    · split at h
      · cases h
      · rename_i xs e
        cases h
        rw [List.length_cons, List.length_cons, rdL_len e]
theorem rdL_mem : ∀ {ls : List (List Nat)} {k : Nat} {rs : List Rw}, rdL ls k = .inr rs → ∀ r ∈ rs, ∃ l ∈ ls, rowF (spl 32 l) = some r
  | [], _, _, h, r, hr => by
    cases h
    cases hr
  | l :: t, k, rs, h, r, hr => by
    rw [rdL] at h
    split at h
    · cases h
    · rename_i x ex
      split at h
      · cases h
      · rename_i xs e
        cases h
        rcases List.mem_cons.mp hr with rfl | hr
        · exact ⟨l, List.mem_cons_self, ex⟩
        · obtain ⟨l', hl, e'⟩ := rdL_mem e r hr
          exact ⟨l', List.mem_cons_of_mem _ hl, e'⟩
theorem dropLast_mem {l : List Nat} {x : Nat} (h : x ∈ l.dropLast) : x ∈ l := by
  rw [List.dropLast_eq_take] at h
  exact List.mem_of_mem_take h
theorem row_sane {d l : List Nat} {r : Rw} (h1 : l ∈ spl 10 d) (h : rowF (spl 32 l) = some r) (hd : ∀ c ∈ d, c < 128) (dl : d.length ≤ 1380) : RwS r := by
  obtain ⟨a, b, ws, z, e, _, _, rfl⟩ := rowF_some h
  have ll := spl_len h1
  have cn := spl_cnt 32 l
  have k : ∀ p ∈ spl 32 l, (∀ c ∈ p, c < 128) ∧ p.length ≤ 1400 := fun p hp => ⟨fun c hc => hd c (spl_mem h1 (spl_mem hp hc)), by have := spl_len hp; omega⟩
  rw [e] at k cn
  have ka := k a List.mem_cons_self
  refine ⟨⟨fun c hc => ka.1 c (dropLast_mem hc), ?_⟩, k b (List.mem_cons_of_mem _ List.mem_cons_self), k z (by simp), fun w hw => k w (by simp [hw]), ?_⟩
  · show a.dropLast.length ≤ 1400
    rw [List.length_dropLast]
    omega
  · show ws.length ≤ 1390
    simp at cn
    omega
theorem ends_58 (a : List Nat) : Txt.endswith (mk a) (mk [58]) = decide (a.getLast? = some 58) := by
  rcases List.eq_nil_or_concat a with rfl | ⟨l, c, rfl⟩
  · rfl
  · rw [List.concat_eq_append]
    unfold Txt.endswith
    rw [PySem.StrLaws.subAt_eq, mk_len, mk_len, List.length_append]
    show (decide (0 + 1 ≤ l.length + 1) && (((l ++ [c]).drop (l.length + 1 - 1)).take 1 == [58])) = _
    rw [Nat.add_sub_cancel, List.drop_left, decide_eq_true (by omega)]
    simp
    rfl
theorem cutS_last {a : List Nat} (h : a.getLast? = some 58) : cutS (mk a) none (some (-1)) = mk a.dropLast := by
  rcases List.eq_nil_or_concat a with rfl | ⟨l, c, rfl⟩
  · cases h
  · rw [List.concat_eq_append, List.dropLast_concat]
    unfold cutS
    show (⟨_⟩ : Str) = _
    rw [HT.sIx_none, mk_len, List.length_append, Nat.sub_zero, List.drop_zero]
    show mk ((l ++ [c]).take (HT.sIx (l.length + 1) (l.length + 1) (some (-1)))) = mk l
    have : HT.sIx (l.length + 1) (l.length + 1) (some (-1)) = l.length := by
      unfold HT.sIx
      dsimp only
      rw [if_pos (by decide)]
      omega
    rw [this, List.take_left]
/-! ### why there is no table -/
inductive Why where
  | name (n : List Nat)
  | count (k : Nat)
  | line (k : Nat)
  | tab (i : Nat) (r : List Nat)
noncomputable def fltN (n : List Nat) (rs : List Rw) : Option Why :=
  if smallN n = true then if 1 ≤ rs.length ∧ rs.length ≤ 10 then (fltT rs).map fun z => .tab z.1 z.2 else some (.count rs.length) else some (.name n)
end TW

namespace TW
open PySem PySem.Spec PyProof.Rows L2
/-! ### enumerate(text) -/
def Ites (x : Str) : It :=
  ⟨fun i _ => i < x.cps.size, fun i H v H' => ∃ T c, v = .ref T ∧ H T = none ∧ H' = upd H T (.tup [.int (i : Nat), .str ⟨#[c]⟩]) ∧ x.cps[i]? = some c, fun i _ => x.cps.size = i⟩
theorem turn_enumS {P : Program} {w : World} {K : PySem.W.Frag} {elts : List Expr} {kk : Nat} {tpos : Pos} (x : Str) (t : Tok) (e it : Addr) :
    Turn P w K (.Tuple elts kk tpos) (Ites x) [e, it] e (fun i h => (∃ old, IsEnum h e it ((i : Nat) : Int) old) ∧ h.IsStrIter it (strIterType x) x t i ∧ e ≠ it) where
  mem := by simp
  obj := fun i h st b hb => by
    obtain ⟨⟨old, he⟩, ⟨o, ho, hc, hd⟩, _⟩ := st
    have e' : b = e ∨ b = it := by simpa using hb
    rcases e' with z | z
    · rw [z]; exact ⟨_, he, fun v q => nomatch q⟩
    · rw [z]; exact ⟨o, ho, fun v q => by rw [hd] at q; cases q⟩
  keep := fun i h h' st k => let ⟨⟨old, he⟩, ⟨o, ho, r⟩, hne⟩ := st; ⟨⟨old, k e (by simp) _ he⟩, ⟨o, k it (by simp) o ho, r⟩, hne⟩
  item := by
    intro X hP hw hK hc i pins s σ H E I hf st hg
    subst hP hw hK
    obtain ⟨⟨old, he⟩, hit, hne⟩ := st
    have hel : e < s.heap.objs.size := Heap.lt_size he
    have hil : it < s.heap.objs.size := by obtain ⟨_, q, _⟩ := hit; exact Heap.lt_size q
    have D : Draws X.prog X.w X.A.in1 it [it] x.cps.size (fun i v => ∃ c u, x.cps[i]? = some c ∧ v = .str ⟨#[c]⟩ u) (fun i h => h.IsStrIter it (strIterType x) x t i) := Draws.text (A := X.A.in1) (I.ok.hd hc) it x t
    refine wpAny_pyNext_enum_itemC D he hit hg hne (by simp [hne]) fun u h' tk hu ho hit' hT hsz hk => ?_
    obtain ⟨c, tc, hcx, rfl⟩ := hu
    refine ⟨_, rfl, wpAny_letOwnedTupleGo_enum (s := { s with heap := h', toks := tk + 1 }) ho fun h'' he' sb => ?_⟩
    have hT2 : h''.get? s.heap.objs.size = some { cls := .type "tuple", data := .seq #[.int i tk, .str ⟨#[c]⟩ tc] } := (sb.2 _ (Nat.ne_of_gt hel)).trans hT
    have new : ObjOk X.prog X.w (upd H s.heap.objs.size (.tup [.int (i : Nat), .str ⟨#[c]⟩])) h'' s.heap.objs.size (.tup [.int (i : Nat), .str ⟨#[c]⟩]) :=
      ⟨by show 2 ≤ sizeLine; decide, [.int i tk, .str ⟨#[c]⟩ tc], .cons ⟨_, rfl⟩ (.cons ⟨_, rfl⟩ .nil), ⟨_, hT2, rfl, _, rfl⟩⟩
    have I1 : Inv X pins σ (upd H s.heap.objs.size (.tup [.int (i : Nat), .str ⟨#[c]⟩])) { s with heap := h'', toks := tk + 1 } :=
      I.turnedNew (ch := [e, it]) (fun b ob hb q => (sb.2 b (fun z => hb (by simp [z]))).trans (hk b ob (fun z => hb (by simp [z])) (fun z => hb (by simp [z])) q)) hf (Nat.le_refl _) new
    refine ⟨.ref s.heap.objs.size, _, I1, rfl, ⟨_, c, rfl, I.hok.fresh (Nat.le_refl _), rfl, hcx⟩, ⟨⟨.str ⟨#[c]⟩ tc, ?_⟩, ?_, hne⟩, fun b hb => ?_⟩
    · have e1 : ((i + 1 : Nat) : Int) = (i : Int) + 1 := by omega
      rw [e1]; exact he'
    · obtain ⟨o, hoo, r⟩ := hit'
      exact ⟨o, (sb.2 it (Ne.symm hne)).trans hoo, r⟩
    · have hb' : b < s.heap.objs.size := by
        have e' : b = e ∨ b = it := by simpa using hb
        rcases e' with z | z
        · rw [z]; exact hel
        · rw [z]; exact hil
      rw [upd_ne (Nat.ne_of_lt hb')]
      exact (hf b hb).1
  done := by
    intro X hP hw hK hc i pins s σ H E I hf st hg
    subst hP hw hK
    have hg : x.cps.size = i := hg
    subst hg
    obtain ⟨⟨old, he⟩, hit, hne⟩ := st
    have D : Draws X.prog X.w X.A.in1 it [it] x.cps.size (fun i v => ∃ c u, x.cps[i]? = some c ∧ v = .str ⟨#[c]⟩ u) (fun i h => h.IsStrIter it (strIterType x) x t i) := Draws.text (A := X.A.in1) (I.ok.hd hc) it x t
    obtain ⟨f0, f1, f2, f3, f4, f5⟩ := hf it (by simp)
    exact wpAny_pyNext_enum_endD D he hit fun h' eb => ⟨rfl, I.turned (t' := s.toks) (fun b o hb q => eb b o hb q) f0 f1 f3 f4 f5⟩
  self := fun A i s Q E st h => let ⟨⟨_, he⟩, _⟩ := st; wpAny_pyIter_enum he h
def iEnumS (ta : TA) : TI := fun σ H R => ta σ H fun vs H1 => ∃ x, vs = [.str x] ∧ R (Ites x) H1
theorem pi_enumS {X : Cx} {e : Expr} {ta : TA} {p pos tpos : Pos} {elts : List Expr} {kk : Nat} (hg : Gl X "enumerate") (hm : X.mg "enumerate" = none) (ha : PA X [e] ta) (hs : starEach [e] X.env = [(false, eval e X.env)] := by rfl) :
    PI X (.Tuple elts kk tpos) (.Call (.Name "enumerate" p) [e] [] pos) (iEnumS ta) := by
  refine ⟨fun pins s σ H R I h => ?_⟩
  refine Call_ (ld_blt I hg hm boot_enumerate (PyProof.Rows.callWith_type1 (thn (ha.run pos pins s σ H _ I h) fun us s1 ⟨vs, H1, I1, r1, q1⟩ => ?_) hs rfl))
  obtain ⟨x, ex, q⟩ := q1
  subst ex
  cases r1 with
  | cons r rr =>
    cases rr
    obtain ⟨t, rfl⟩ := r
    refine call_enumerate_str fun h' he hit hsz hk => wpAny_pyIter_enum he ?_
    have I2 : Inv X pins σ H1 { s1 with heap := h' } := I1.kept (t' := s1.toks) hk
    refine ⟨s1.heap.objs.size + 1, [s1.heap.objs.size + 1, s1.heap.objs.size], _, _, H1, rfl, I2, turn_enumS x t (s1.heap.objs.size + 1) s1.heap.objs.size, ⟨⟨.none, he⟩, hit, Nat.succ_ne_self _⟩, fun b hb => ?_, q⟩
    have e' : b = s1.heap.objs.size + 1 ∨ b = s1.heap.objs.size := by simpa using hb
    have hle : s1.heap.objs.size ≤ b := by
      rcases e' with z | z
      · rw [z]; exact Nat.le_add_right _ _
      · rw [z]; exact Nat.le_refl _
    exact I1.fpOk hle (I1.hok.fresh hle)
theorem walk_enumS {x : Str} : Walk (Ites x) x.cps.size (fun _ => True) (YPair (fun i => some (.int (i : Nat))) (fun i => x.cps[i]?.map fun c => .str ⟨#[c]⟩)) := by
  refine ⟨fun i _ hi _ => hi, fun _ _ => rfl, fun i H v H' _ q y => ?_⟩
  obtain ⟨T, c, h1, h2, h3, h4⟩ := y
  exact ⟨T, .int (i : Nat), .str ⟨#[c]⟩, h1, h2, h3, rfl, by simp [h4]⟩
/-! ### enumerate(list, k) -/
def ItC (K : PySem.W.Frag) (a : Addr) (k : Int) : It :=
  ⟨fun i H => ∃ (xs : List V) (x : V), SqL K H a xs ∧ xs[i]? = some x, fun i H v H' => ∃ T x, v = .ref T ∧ H T = none ∧ H' = upd H T (.tup [.int (k + (i : Nat)), x]) ∧ ∀ xs, SqL K H a xs → xs[i]? = some x, fun i H => ∃ xs : List V, SqL K H a xs ∧ xs.length = i⟩
theorem turn_enumC {P : Program} {w : World} {K : PySem.W.Frag} {elts : List Expr} {kk : Nat} {tpos : Pos} (k0 : Int) (a e it : Addr) :
    Turn P w K (.Tuple elts kk tpos) (ItC K a k0) [e, it] e (fun i h => (∃ old, IsEnum h e it (k0 + ((i : Nat) : Int)) old) ∧ h.IsListIter it a i ∧ e ≠ it) where
  mem := by simp
  obj := fun i h st b hb => by
    obtain ⟨⟨old, he⟩, ⟨o, ho, hc, hd⟩, _⟩ := st
    have e' : b = e ∨ b = it := by simpa using hb
    rcases e' with z | z
    · rw [z]; exact ⟨_, he, fun v q => nomatch q⟩
    · rw [z]; exact ⟨o, ho, fun v q => by rw [hd] at q; cases q⟩
  keep := fun i h h' st k => let ⟨⟨old, he⟩, hi, hne⟩ := st; ⟨⟨old, k e (by simp) _ he⟩, hi.at fun o q => k it (by simp) o q, hne⟩
  item := by
    intro X hP hw hK hc i pins s σ H E I hf st hg
    subst hP hw hK
    obtain ⟨⟨old, he⟩, hit, hne⟩ := st
    obtain ⟨xs, x, hq, hx⟩ := hg
    obtain ⟨its, rv, p, hz⟩ := I.list hq
    obtain ⟨u, hu, ru⟩ := rv.get hx
    have hel : e < s.heap.objs.size := Heap.lt_size he
    have hil : it < s.heap.objs.size := by obtain ⟨_, q, _⟩ := hit; exact Heap.lt_size q
    have lne : a ≠ it := fun z => by
      obtain ⟨o1, h1, _, d1⟩ := hit
      obtain ⟨o2, h2, _, _, d2⟩ := p.isList
      rw [z, h1] at h2
      cases h2
      rw [d1] at d2
      cases d2
    have lne2 : a ≠ e := fun z => by
      obtain ⟨o2, h2, _, _, d2⟩ := p.isList
      have h3 : s.heap.get? e = _ := he
      rw [z, h3] at h2
      cases h2
      cases d2
    have D := Draws.list (prog := X.prog) (w := X.w) (A := X.A.in1) (I.ok.hd hc) it a lne its.toArray
    have hil2 : i < its.toArray.size := by
      have := (List.getElem?_eq_some_iff.mp (show its[i]? = some u from hu)).1
      simpa using this
    refine wpAny_pyNext_enum_itemC D he ⟨hit, p.isList⟩ hil2 hne (by simp [hne, Ne.symm lne2]) fun u' h' tk hu' ho hit' hT hsz hk => ?_
    have eu : u' = u := by
      have h1 : its.toArray[i]? = some u := by simpa using hu
      rw [h1] at hu'
      exact (Option.some.inj hu').symm
    subst eu
    refine ⟨_, rfl, wpAny_letOwnedTupleGo_enum (s := { s with heap := h', toks := tk + 1 }) ho fun h'' he' sb => ?_⟩
    have hT2 : h''.get? s.heap.objs.size = some { cls := .type "tuple", data := .seq #[.int (k0 + (i : Nat)) tk, u'] } := (sb.2 _ (Nat.ne_of_gt hel)).trans hT
    have new : ObjOk X.prog X.w (upd H s.heap.objs.size (.tup [.int (k0 + (i : Nat)), x])) h'' s.heap.objs.size (.tup [.int (k0 + (i : Nat)), x]) :=
      ⟨by show 2 ≤ sizeLine; decide, [.int (k0 + (i : Nat)) tk, u'], .cons ⟨_, rfl⟩ (.cons ru .nil), ⟨_, hT2, rfl, _, rfl⟩⟩
    have I1 : Inv X pins σ (upd H s.heap.objs.size (.tup [.int (k0 + (i : Nat)), x])) { s with heap := h'', toks := tk + 1 } :=
      I.turnedNew (ch := [e, it]) (fun b ob hb q => (sb.2 b (fun z => hb (by simp [z]))).trans (hk b ob (fun z => hb (by simp [z])) (fun z => hb (by simp [z])) q)) hf (Nat.le_refl _) new
    refine ⟨.ref s.heap.objs.size, _, I1, rfl, ⟨_, x, rfl, I.hok.fresh (Nat.le_refl _), rfl, fun ys hy => by rw [I.list_inj hy hq]; exact hx⟩, ⟨⟨u', ?_⟩, hit'.1.at fun o q => (sb.2 it (Ne.symm hne)).trans q, hne⟩, fun b hb => ?_⟩
    · have e1 : k0 + ((i + 1 : Nat) : Int) = k0 + (i : Int) + 1 := by omega
      rw [e1]; exact he'
    · have hb' : b < s.heap.objs.size := by
        have e' : b = e ∨ b = it := by simpa using hb
        rcases e' with z | z
        · rw [z]; exact hel
        · rw [z]; exact hil
      rw [upd_ne (Nat.ne_of_lt hb')]
      exact (hf b hb).1
  done := by
    intro X hP hw hK hc i pins s σ H E I hf st hg
    subst hP hw hK
    obtain ⟨⟨old, he⟩, hit, hne⟩ := st
    obtain ⟨xs, hq, hx⟩ := hg
    obtain ⟨its, rv, p, hz⟩ := I.list hq
    obtain ⟨f0, f1, f2, f3, f4, f5⟩ := hf it (by simp)
    have hl := rv.length
    have lne : a ≠ it := fun z => by
      obtain ⟨o1, h1, _, d1⟩ := hit
      obtain ⟨o2, h2, _, _, d2⟩ := p.isList
      rw [z, h1] at h2
      cases h2
      rw [d1] at d2
      cases d2
    have D := Draws.list (prog := X.prog) (w := X.w) (A := X.A.in1) (I.ok.hd hc) it a lne its.toArray
    have ei : i = its.toArray.size := by simp; omega
    exact wpAny_pyNext_enum_endD D he (by rw [← ei]; exact ⟨hit, p.isList⟩) fun h' eb => ⟨rfl, I.turned (t' := s.toks) (fun b o hb q => eb b o hb q) f0 f1 f3 f4 f5⟩
  self := fun A i s Q E st h => let ⟨⟨_, he⟩, _⟩ := st; wpAny_pyIter_enum he h
def iEnumC (K : PySem.W.Frag) (ta : TA) : TI := fun σ H R => ta σ H fun vs H1 => ∃ a xs k, vs = [.ref a, .int k] ∧ SqL K H1 a xs ∧ -(2 ^ 63) ≤ k ∧ k < 2 ^ 63 ∧ R (ItC K a k) H1
theorem pi_enumC {X : Cx} {e e2 : Expr} {ta : TA} {p pos tpos : Pos} {elts : List Expr} {kk : Nat} (hg : Gl X "enumerate") (hm : X.mg "enumerate" = none) (ha : PA X [e, e2] ta) (hs : starEach [e, e2] X.env = (false, eval e X.env) :: starEach [e2] X.env := by rfl) (hp : (backTo pos (starEach [e2] X.env)).any (·.1) = false := by rfl) :
    PI X (.Tuple elts kk tpos) (.Call (.Name "enumerate" p) [e, e2] [] pos) (iEnumC X.K ta) := by
  refine ⟨fun pins s σ H R I h => ?_⟩
  refine Call_ (ld_blt I hg hm boot_enumerate (PyProof.Rows.callWith_type1 (thn (ha.run pos pins s σ H _ I h) fun us s1 ⟨vs, H1, I1, r1, q1⟩ => ?_) hs hp))
  obtain ⟨a, xs, k, ex, hq, k0, k1, q⟩ := q1
  subst ex
  cases r1 with
  | cons r rr =>
    cases rr with
    | cons r2 rr =>
      cases rr
      cases r
      obtain ⟨tk, rfl⟩ := r2
      obtain ⟨its, rv, p', hz⟩ := I1.list hq
      refine enum_begins (begins_list a its.toArray) p'.isList k0 k1 fun h' he hit hsz hk => wpAny_pyIter_enum he ?_
      have I2 : Inv X pins σ H1 { s1 with heap := h' } := I1.kept (t' := s1.toks) hk
      have he0 : IsEnum h' (s1.heap.objs.size + 1) s1.heap.objs.size (k + ((0 : Nat) : Int)) .none := by
        rw [show k + ((0 : Nat) : Int) = k by omega]
        exact he
      refine ⟨s1.heap.objs.size + 1, [s1.heap.objs.size + 1, s1.heap.objs.size], _, _, H1, rfl, I2, turn_enumC k a (s1.heap.objs.size + 1) s1.heap.objs.size, ⟨⟨.none, he0⟩, ⟨_, hit, rfl, rfl⟩, Nat.succ_ne_self _⟩, fun b hb => ?_, q⟩
      have e' : b = s1.heap.objs.size + 1 ∨ b = s1.heap.objs.size := by simpa using hb
      have hle : s1.heap.objs.size ≤ b := by
        rcases e' with z | z
        · rw [z]; exact Nat.le_add_right _ _
        · rw [z]; exact Nat.le_refl _
      exact I1.fpOk hle (I1.hok.fresh hle)
theorem walk_enumC {K : PySem.W.Frag} {a : Addr} {xs : List V} {k : Int} : Walk (ItC K a k) xs.length (fun H => SqL K H a xs) (YPair (fun i => some (.int (k + (i : Nat)))) (fun i => xs[i]?)) := by
  refine ⟨fun i _ hi q => ⟨xs, xs[i], q, by simp [hi]⟩, fun _ q => ⟨xs, q, rfl⟩, fun i H v H' _ q y => ?_⟩
  obtain ⟨T, x, h1, h2, h3, h4⟩ := y
  exact ⟨T, .int (k + (i : Nat)), x, h1, h2, h3, rfl, h4 xs q⟩
end TW

namespace TW
open PySem PySem.Spec PyProof.Rows L2
theorem cutV_mid {a b y z : V} (xs : List V) : cutV (a :: b :: (xs ++ [y, z])) (some 2) (some (-2)) = xs := by
  unfold cutV
  have l : (a :: b :: (xs ++ [y, z])).length = xs.length + 4 := by simp
  have h1 : HT.sIx (xs.length + 4) 0 (some 2) = 2 := (HT.sIx_nat (xs.length + 4) 0 2).trans (Nat.min_eq_left (by omega))
  have h2 : HT.sIx (xs.length + 4) (xs.length + 4) (some (-2)) = xs.length + 2 := by
    unfold HT.sIx
    dsimp only
    rw [if_pos (by decide)]
    omega
  rw [l, h1, h2]
  show ((xs ++ [y, z])).take (xs.length + 2 - 2) = xs
  rw [Nat.add_sub_cancel, List.take_left]
theorem atI_m1 {y z : V} (xs : List V) : atI (xs ++ [y, z]) (-1) = some z := by
  unfold atI ixN
  have l : ((xs ++ [y, z]).length : Int) = xs.length + 2 := by simp
  rw [if_neg (by decide), if_pos (by rw [l]; omega)]
  show (xs ++ [y, z])[((-1 : Int) + ((xs ++ [y, z]).length : Int)).toNat]? = _
  rw [l, show ((-1 : Int) + ((xs.length : Int) + 2)).toNat = xs.length + 1 by omega, List.getElem?_append_right (by omega), Nat.add_sub_cancel_left]
  rfl
theorem atI_m2 {y z : V} (xs : List V) : atI (xs ++ [y, z]) (-2) = some y := by
  unfold atI ixN
  have l : ((xs ++ [y, z]).length : Int) = xs.length + 2 := by simp
  rw [if_neg (by decide), if_pos (by rw [l]; omega)]
  show (xs ++ [y, z])[((-2 : Int) + ((xs ++ [y, z]).length : Int)).toNat]? = _
  rw [l, show ((-2 : Int) + ((xs.length : Int) + 2)).toNat = xs.length by omega, List.getElem?_append_right (by omega), Nat.sub_self]
  rfl
theorem cutV_from (xs : List V) (i : Nat) : cutV xs (some (i : Int)) none = xs.drop i := by
  unfold cutV
  rw [HT.sIx_nat, HT.sIx_none]
  by_cases h : i ≤ xs.length
  · rw [Nat.min_eq_left h, List.take_of_length_le (by rw [List.length_drop]; exact Nat.le_refl _)]
  · rw [Nat.min_eq_right (by omega), List.drop_length, List.take_nil, List.drop_of_length_le (by omega)]
abbrev CBL (K : PySem.W.Frag) : Addr := He.ga K "BadLine"
theorem fld_line : PySem.TWX.Fld "line" := ⟨rfl, rfl, rfl, by decide, by decide, fun _ _ _ _ _ _ _ _ _ _ _ _ => by with_unfolding_all rfl⟩
/-- BadLine -/
structure TeB (P : Program) (K : PySem.W.Frag) (mg : Str → Option Value) : Prop where
  v_BadLine : mg "BadLine" = some (.ref (CBL K))
  e_bl : PySem.TWX.Err P K mg (CBL K) (He.ma K (CBL K) "__init__") "BadLine.__init__" "line" "the line does not have its shape"
def WhyE (K : PySem.W.Frag) (H : Hp) (E : XK) : Why → Prop
  | .name n => ∀ H' d, Same H H' → H' d = none → E (.ref (CBN K)) (some d) (upd H' d (.xd [(("name" : Str), .str (mk n))]))
  | .count k => ∀ H' d, Same H H' → H' d = none → E (.ref (CBC K)) (some d) (upd H' d (.xd [(("count" : Str), .int (k : Nat))]))
  | .line k => ∀ H' d, Same H H' → H' d = none → E (.ref (CBL K)) (some d) (upd H' d (.xd [(("line" : Str), .int (k : Nat))]))
  | .tab i r => ∀ H' d, Same H H' → H' d = none → E (.ref (CBT K)) (some d) (upd H' d (.xd [(("row" : Str), .int (i : Nat)), (("reason" : Str), .str (mk r))]))
theorem WhyE.same {K : PySem.W.Frag} {H H1 : Hp} {E : XK} (s : Same H H1) : ∀ {w : Why}, WhyE K H E w → WhyE K H1 E w
  | .name _, h => fun H' d s' nd => h H' d (s.trans s') nd
  | .count _, h => fun H' d s' nd => h H' d (s.trans s') nd
  | .line _, h => fun H' d s' nd => h H' d (s.trans s') nd
  | .tab _ _, h => fun H' d s' nd => h H' d (s.trans s') nd
/-- what the constructor asks, told by one reason -/
theorem tinit_of {K : PySem.W.Frag} {H : Hp} {Q : VK} {E : XK} {x dx p : Addr} {n : List Nat} {us : List V} {rs : List Rw} (ha : ∀ c ∈ n, c < 128) (nl : n.length ≤ 1400) (hx : H x = some (.ins (CTb K) dx [])) (hp : H p = some (.tup us)) (ro : All2 (RO H) us rs) (rl : rs.length ≤ 1400) (sn : ∀ r ∈ rs, RwS r)
    (h : match fltN n rs with
      | some w => WhyE K H E w
      | none => ∀ H', Rx x H H' → TbO K H' x n rs → Q .non H') : sp_tinit K [.ref x, .str (mk n), .ref p] H Q E := by
  unfold fltN at h
  refine ⟨x, dx, p, n, us, rs, rfl, ha, nl, hx, hp, ro, rl, sn, fun e => ?_, fun e c => ?_, fun e lo hi z ez => ?_, fun e lo hi en => ?_⟩
  · rw [if_neg (by rw [e]; exact Bool.false_ne_true)] at h
    exact h
  · rw [if_pos e, if_neg c] at h
    exact h
  · rw [if_pos e, if_pos ⟨lo, hi⟩, ez] at h
    exact h
  · rw [if_pos e, if_pos ⟨lo, hi⟩, en] at h
    exact h
def sp_tread (K : PySem.W.Frag) : Sp := fun vs H Q E => ∃ d, vs = [.ref (CTb K), .str (mk d)] ∧ (∀ c ∈ d, c < 128) ∧ d.length ≤ 1380 ∧ match rdT d with
  | .inl k => WhyE K H E (.line k)
  | .inr (n, rs) => match fltN n rs with
    | some w => WhyE K H E w
    | none => ∀ H' a, Same H H' → H a = none → TbO K H' a n rs → Q (.ref a) H'
abbrev gTR (K : PySem.W.Frag) : Addr := match PySem.W.recIn K (mTb K "read") "classmethod" with
  | some (.ref g :: _) => g
  | _ => 0
structure Ttr (K : PySem.W.Frag) : Prop where
  rd : ClX.CRead K (CTb K) (.type "type")
  met : ClX.CMet K (CTb K) (.type "type") "read" (mTb K "read") (gTR K)
  d_read : DefAt K "read" "Table.read" s_Table_read (gTR K)
section
variable {P : Program} {w : World} {K : PySem.W.Frag} {mg : Str → Option Value} {base : Heap}
theorem ok_tread (T : Tx K mg) (Z : Tc K mg) (M : Tk K mg) (N : Tn K mg) (CC : Tg mg) (W : Tw K) (O : To K) (B : Tt K) (R : Ttr K) (JT : TeT P K mg) (JN : TeN P K mg) (JL : TeB P K mg) : FnR P w K mg base (L2.CX P w) 8 (gTR K) (sp_tread K) := by
  have G_tinit : FnR P w K mg base (L2.CX P w) 6 (mTb K "__init__") (sp_tstar K) := ok_tinit T Z M N CC W O B JT JN
  refine fnRX R.d_read sc_Table_read (fun _ _ _ _ _ _ us hl => match us, hl with | [_, _], _ => rfl) (fun vs H Q E h => ?_) (fun cdv A outer s H vs Q E hr h => ?_)
  · obtain ⟨d, rfl, _⟩ := h
    rfl
  · obtain ⟨d, rfl, d7, dl, q⟩ := h
    refine ⟨_, (pss_cons (ps_set (i := 2) sc_Table_read.nd rfl (.inl rfl) (pe_split (pv 1) pe_str))
(pss_cons (ps_set (i := 3) sc_Table_read.nd rfl (.inl rfl) (pe_split (pe_ix (r := rIxL K) ix_list (pv 2) pe_int (fun _ _ => rfl)) pe_str))
(pss_cons (ps_if (PW.pt (pw_or (pt_cmpR op_ne (pe_callB call_len (by rfl) T.z_len (by decide +kernel) (pa_cons (pv 3) pa_nil)) pe_int (nomark _)) (pw_or (pt_cmpR op_ne (pe_ix (r := rIxL K) ix_list (pv 3) pe_int (fun _ _ => rfl)) pe_str (nomark _)) (pw_or1 (pt_cmpR op_eq (pe_ix (r := rIxL K) ix_list (pv 3) pe_int (fun _ _ => rfl)) pe_str (nomark _))))))
(pss_one (ps_raiseE JL.e_bl fld_line (hr.mono (by omega)) JL.v_BadLine rfl (takes_of rfl rfl rfl rfl) (pa_cons pe_int pa_nil) (by rfl)))
pss_nil)
(pss_cons (ps_set (i := 4) sc_Table_read.nd rfl (.inl rfl) (pe_lst pa_nil))
(pss_cons (ps_for PassesOwn.leaving rfl (pi_enumC (by rfl) T.z_enumerate (pa_cons (pe_slice sl_list (pv 2) (po_some pe_int) po_none) (pa_cons pe_int pa_nil))) (pg_tup (by rfl) (pgs_cons (pg_name (i := 5) sc_Table_read.nd rfl (.inl rfl)) (pgs_cons (pg_name (i := 6) sc_Table_read.nd rfl (.inl rfl)) pgs_nil)))
(pss_cons (ps_set (i := 7) sc_Table_read.nd rfl (.inl rfl) (pe_split (pv 6) pe_str))
(pss_cons (ps_if (PW.pt (pw_or (pt_cmpR op_lt (pe_callB call_len (by rfl) T.z_len (by decide +kernel) (pa_cons (pv 7) pa_nil)) pe_int (nomark _)) (pw_or (pt_cmpR op_in_seq pe_str (pv 7) (by rfl)) (pw_or (pt_not (pt_val (pe_m1 PySem.F.slot_str_endswith PySem.F.type_str_endswith mt_endswith (pe_ix (r := rIxL K) ix_list (pv 7) pe_int (fun _ _ => rfl)) pe_str))) (pw_or1 (pt_cmpR op_ne (pe_ix (r := rIxL K) ix_list (pv 7) (pe_un un_neg pe_int) (fun _ _ => rfl)) pe_str (nomark _)))))))
(pss_one (ps_raiseE JL.e_bl fld_line (hr.mono (by omega)) JL.v_BadLine rfl (takes_of rfl rfl rfl rfl) (pa_cons (pv 5) pa_nil) (by rfl)))
pss_nil)
(pss_one (ps_expr (pe_bm PySem.F.plainAttrs_list PySem.F.slot_list_append PySem.F.type_list_append mt_append (pv 4) (pa_cons (pe_tup (pa_cons (pe_slice sl_str (pe_ix (r := rIxL K) ix_list (pv 7) pe_int (fun _ _ => rfl)) po_none (po_some (pe_un un_neg pe_int))) (pa_cons (pe_ix (r := rIxL K) ix_list (pv 7) pe_int (fun _ _ => rfl)) (pa_cons (pe_callTy call_tuple_of (by rfl) T.z_tuple (by decide +kernel) (pa_cons (pe_slice sl_list (pv 7) (po_some pe_int) (po_some (pe_un un_neg pe_int))) pa_nil)) (pa_cons (pe_ix (r := rIxL K) ix_list (pv 7) (pe_un un_neg pe_int) (fun _ _ => rfl)) pa_nil))))) pa_nil)))))))
(pss_one (ps_ret (pe_makeLRS (i := 0) B.mk_ G_tinit (hr.mono (by omega)) rfl (.inl rfl) (fun σ => passAt (takes_of rfl rfl rfl rfl) σ) (pa_cons (pe_ix (r := rIxL K) ix_list (pv 3) pe_int (fun _ _ => rfl)) (StX.pa_star (pv 4) pa_nil)))))))))), ?_⟩
    refine ⟨.str (mk d), rfl, ⟨_, rfl⟩, mk d, mk [10], rfl, rfl, rfl, ?_, fun l nl => ?_⟩
    · rw [mk_len]
      exact Nat.le_trans (show d.length + 2 ≤ 3000 by omega) (by decide)
    rw [split_mk (by decide)]
    have s1 := Same.new (o := .lst (((spl 10 d).map mk).map V.str)) nl
    have el : upd H l (.lst (((spl 10 d).map mk).map V.str)) l = some (.lst (strL (spl 10 d))) := by
      rw [upd_same, List.map_map]
      rfl
    generalize upd H l (.lst (((spl 10 d).map mk).map V.str)) = H1 at s1 el
    unfold rdT at q
    dsimp only at q
    have cnt := spl_cnt 10 d
    have sane : ∀ {k : Nat} {rs : List Rw}, rdL ((spl 10 d).drop 1) k = .inr rs → ∀ r ∈ rs, RwS r := fun e r hr => by
      obtain ⟨l', hl, e'⟩ := rdL_mem e r hr
      exact row_sane (List.mem_of_mem_drop hl) e' d7 dl
    have lll : ∀ p ∈ spl 10 d, p.length ≤ 1380 := fun p hp => Nat.le_trans (spl_len hp) dl
    have asc : ∀ p ∈ spl 10 d, ∀ c ∈ p, c < 128 := fun p hp c hc => d7 c (spl_mem hp hc)
    cases esp : spl 10 d with
    | nil => exact absurd esp (spl_nn 10 d)
    | cons l0 lr =>
    rw [esp] at q el cnt sane lll asc
    rw [List.drop_succ_cons, List.drop_zero] at q
    rw [List.drop_succ_cons, List.drop_zero] at sane
    have l0l := lll l0 List.mem_cons_self
    refine ⟨.ref l, rfl, l, _, 0, .str (mk l0), rfl, rfl, SqL.of el, atI_nat (j := 0) rfl, ⟨_, rfl⟩, mk l0, mk [32], rfl, rfl, rfl, ?_, fun h nh => ?_⟩
    · rw [mk_len]
      exact Nat.le_trans (show l0.length + 2 ≤ 3000 by omega) (by decide)
    rw [split_mk (by decide)]
    have s2 := s1.trans (Same.new (o := .lst (((spl 32 l0).map mk).map V.str)) nh)
    have eh : upd H1 h (.lst (((spl 32 l0).map mk).map V.str)) h = some (.lst (strL (spl 32 l0))) := by
      rw [upd_same, List.map_map]
      rfl
    have el2 := Same.new (o := .lst (((spl 32 l0).map mk).map V.str)) nh _ _ el
    generalize upd H1 h (.lst (((spl 32 l0).map mk).map V.str)) = H2 at s2 eh el2
    replace q : match (if headOk (spl 32 l0) = true then match rdL lr 2 with
        | .inl k => .inl k
        | .inr rs => .inr ((spl 32 l0).getD 1 [], rs)
      else Sum.inl 1 : Sum Nat (List Nat × List Rw)) with
      | .inl k => WhyE K H E (.line k)
      | .inr (n, rs) => match fltN n rs with
        | some w => WhyE K H E w
        | none => ∀ H' a, Same H H' → H a = none → TbO K H' a n rs → Q (.ref a) H' := q
    have hsl : ∀ p ∈ spl 32 l0, p.length ≤ 1380 := fun p hp => Nat.le_trans (spl_len hp) l0l
    have hsm : ∀ p ∈ spl 32 l0, ∀ c ∈ p, c < 128 := fun p hp c hc => asc l0 List.mem_cons_self c (spl_mem hp hc)
    generalize spl 32 l0 = hs at q eh hsl hsm
    have sl : (strL hs).length = hs.length := List.length_map _
    refine ⟨.ref h, rfl, .ref h, _, rfl, .inl ⟨_, SqL.of eh, rfl⟩, rfl, _, rfl, ?_⟩
    have bad : headOk hs = false → WhyE K H E (.line 1) := fun e => by
      rw [if_neg (by rw [e]; exact Bool.false_ne_true)] at q
      exact q
    by_cases h2 : hs.length = 2
    case neg =>
      rw [show (!decide (V.int ((strL hs).length : Nat) = V.int 2)) = true from by
        rw [decide_eq_false fun z => h2 (by have := V.int.inj z; omega)]
        rfl]
      have b : headOk hs = false := by
        unfold headOk
        rw [decide_eq_false h2]
        rfl
      exact iteT (iteT ⟨_, rfl, fun d nd => bad b _ d s2 nd⟩)
    obtain ⟨t0, n, rfl⟩ : ∃ a b, hs = [a, b] := by
      match hs, h2 with
      | [a, b], _ => exact ⟨a, b, rfl⟩
    refine iteF ?_
    refine ⟨.ref h, rfl, h, _, 0, .str (mk t0), rfl, rfl, SqL.of eh, atI_nat (j := 0) rfl, rfl, _, rfl, ?_⟩
    by_cases et : t0 = tabW
    case neg =>
      rw [show decide (V.str (mk t0) = V.str (Str.ofString "table")) = false from decide_eq_false fun z => et (mk_inj (V.str.inj z))]
      have b : headOk [t0, n] = false := by
        unfold headOk
        rw [show decide (([t0, n] : List (List Nat)).getD 0 [] = tabW) = false from decide_eq_false et]
        rfl
      exact iteT (iteT ⟨_, rfl, fun d nd => bad b _ d s2 nd⟩)
    subst et
    rw [show decide (V.str (mk tabW) = V.str (Str.ofString "table")) = true from by decide +kernel]
    refine iteF ⟨.ref h, rfl, h, _, 1, _, rfl, rfl, SqL.of eh, atI_nat (j := 1) rfl, rfl, _, rfl, ?_⟩
    by_cases en : n = []
    case pos =>
      subst en
      exact iteT ⟨_, rfl, fun d nd => bad (by decide) _ d s2 nd⟩
    rw [show decide (V.str (mk n) = V.str (Str.ofString "")) = false from decide_eq_false fun z => en (mk_inj (V.str.inj z))]
    refine iteF ?_
    rw [if_pos (show headOk [tabW, n] = true from by
      unfold headOk
      rw [show decide (([tabW, n] : List (List Nat)).getD 1 [] ≠ []) = true from decide_eq_true en]
      rfl)] at q
    have n7 := hsm n (by simp)
    have nln := hsl n (by simp)
    -- rows
    refine ⟨szle, fun g ng => ?_⟩
    have s3 := s2.trans (Same.new (o := .lst []) ng)
    have el3 := Same.new (o := .lst []) ng _ _ el2
    have eh3 := Same.new (o := .lst []) ng _ _ eh
    have eg3 : upd H2 g (.lst []) g = some (.lst []) := upd_same
    have ng0 : H g = none := s2.free ng
    generalize upd H2 g (.lst []) = H3 at s3 el3 eh3 eg3
    refine ⟨.ref l, rfl, 1, rfl, l, _, rfl, SqL.of el3, fun c nc => ?_⟩
    rw [show cutV (strL (l0 :: lr)) (some 1) none = strL lr from cutV_from _ 1]
    have s4 := s3.trans (Same.new (o := .lst (strL lr)) nc)
    have ec : upd H3 c (.lst (strL lr)) c = some (.lst (strL lr)) := upd_same
    have eg4 := Same.new (o := .lst (strL lr)) nc _ _ eg3
    have eh4 := Same.new (o := .lst (strL lr)) nc _ _ eh3
    have gc : g ≠ c := ne_of_none eg3 nc
    generalize upd H3 c (.lst (strL lr)) = H4 at s4 ec eg4 eh4
    refine ⟨c, _, 2, rfl, SqL.of ec, by decide, by decide, for_it (walk_enumC (xs := strL lr)) (fun i σ H5 => ∃ us rs y5 y6 y7, σ = [some (.ref (CTb K)), some (.str (mk d)), some (.ref l), some (.ref h), some (.ref g), y5, y6, y7] ∧ Same H H5 ∧ Rx g H4 H5 ∧ H5 g = some (.lst us) ∧ All2 (RO H5) us rs ∧ rs.length = i ∧ rdL lr 2 = pre rs (rdL (lr.drop i) (2 + i))) ?_ ?_ ?_ ?_⟩
    · exact ⟨[], [], _, _, _, rfl, s4, Rx.same (Same.refl _), eg4, .nil, rfl, by show _ = pre [] (rdL lr 2); cases rdL lr 2 <;> rfl⟩
    · rintro i σ H5 _ ⟨us, rs, y5, y6, y7, _, s5, r5, _⟩
      exact SqL.of (r5 _ _ gc.symm ec)
    · rintro i x σ H5 H6 hi' ⟨us, rs, y5, y6, y7, rfl, s5, r5, e5, ro5, ri, rd⟩ ⟨t, x1, v, rfl, nt', rfl, gx, gy⟩
      replace gy : (strL lr)[i]? = some v := gy
      rw [List.getElem?_map] at gy
      cases er : lr[i]? with
      | none => rw [er] at gy; cases gy
      | some li =>
      rw [er] at gy
      have ev : v = .str (mk li) := (Option.some.inj gy).symm
      subst ev
      have ex : x1 = .int ((2 + i : Nat) : Int) := (Option.some.inj gx).symm
      subst ex
      have il := (List.getElem?_eq_some_iff.mp er).1
      have lim := lll li (List.mem_cons_of_mem _ (List.mem_of_getElem? er))
      have cn := spl_cnt 32 li
      have wsm : ∀ p ∈ spl 32 li, p.length ≤ 1380 := fun p hp => Nat.le_trans (spl_len hp) lim
      rw [drop_at er, rdL] at rd
      have t6 := Same.new (o := .tup [.int ((2 + i : Nat) : Int), .str (mk li)]) nt'
      have et : upd H5 t (.tup [.int ((2 + i : Nat) : Int), .str (mk li)]) t = some (.tup [.int ((2 + i : Nat) : Int), .str (mk li)]) := upd_same
      generalize upd H5 t (.tup [.int ((2 + i : Nat) : Int), .str (mk li)]) = H6 at t6 et
      refine ⟨t, _, rfl, SqT.of et, rfl, .int ((2 + i : Nat) : Int), _, rfl, .str (mk li), [], rfl, rfl, ?_⟩
      refine ⟨_, rfl, ⟨_, rfl⟩, mk li, mk [32], rfl, rfl, rfl, ?_, fun f nf => ?_⟩
      · rw [mk_len]
        exact Nat.le_trans (show li.length + 2 ≤ 3000 by omega) (by decide)
      rw [split_mk (by decide)]
      have t7 := t6.trans (Same.new (o := .lst (((spl 32 li).map mk).map V.str)) nf)
      have ef : upd H6 f (.lst (((spl 32 li).map mk).map V.str)) f = some (.lst (strL (spl 32 li))) := by
        rw [upd_same, List.map_map]
        rfl
      generalize upd H6 f (.lst (((spl 32 li).map mk).map V.str)) = H7 at t7 ef
      generalize spl 32 li = fs at rd ef cn wsm
      have s7 := s5.trans t7
      have fl : (strL fs).length = fs.length := List.length_map _
      have bad' : rowF fs = none → WhyE K H E (.line (2 + i)) := fun e => by
        rw [e] at rd
        rw [rd] at q
        exact q
      by_cases f4 : 4 ≤ fs.length
      case neg =>
        refine ⟨.ref f, rfl, .ref f, _, rfl, .inl ⟨_, SqL.of ef, rfl⟩, _, 4, rfl, rfl, _, rfl, ?_⟩
        rw [decide_eq_true (show (((strL fs).length : Nat) : Int) < 4 by omega)]
        exact iteT (iteT ⟨_, rfl, _, rfl, fun d nd => bad' (rowF_short f4) _ d s7 nd⟩)
      obtain ⟨fa, fb, ws, fy, fz, rfl⟩ := four f4
      have eL : strL (fa :: fb :: (ws ++ [fy, fz])) = .str (mk fa) :: .str (mk fb) :: (strL ws ++ [.str (mk fy), .str (mk fz)]) := by
        show V.str (mk fa) :: V.str (mk fb) :: strL (ws ++ [fy, fz]) = _
        rw [strL_app]
        rfl
      refine ⟨.ref f, rfl, .ref f, _, rfl, .inl ⟨_, SqL.of ef, rfl⟩, _, 4, rfl, rfl, _, rfl, ?_⟩
      rw [decide_eq_false (show ¬ (((strL (fa :: fb :: (ws ++ [fy, fz]))).length : Nat) : Int) < 4 by omega)]
      refine iteF ⟨.ref f, rfl, f, _, rfl, .inl (SqL.of ef), rfl, flat_strL _, _, rfl, ?_⟩
      rw [if_neg Bool.false_ne_true, show inV (V.str (Str.ofString "")) (strL (fa :: fb :: (ws ++ [fy, fz]))) = decide ([] ∈ (fa :: fb :: (ws ++ [fy, fz]))) from in_strL [] _]
      by_cases e0 : [] ∈ (fa :: fb :: (ws ++ [fy, fz]))
      case pos =>
        rw [decide_eq_true e0]
        exact iteT (iteT ⟨_, rfl, _, rfl, fun d nd => bad' (by rw [rowF_at, if_neg fun z => z.1 e0]) _ d s7 nd⟩)
      rw [decide_eq_false e0]
      refine iteF ⟨.ref f, rfl, f, _, 0, .str (mk fa), rfl, rfl, SqL.of ef, atI_nat (j := 0) rfl, ⟨_, rfl⟩, mk fa, mk [58], rfl, rfl, _, rfl, ?_⟩
      rw [ends_58]
      by_cases e1 : fa.getLast? = some 58
      case neg =>
        rw [decide_eq_false e1]
        exact iteT (iteT ⟨_, rfl, _, rfl, fun d nd => bad' (by rw [rowF_at, if_neg fun z => e1 z.2.1]) _ d s7 nd⟩)
      rw [decide_eq_true e1]
      refine iteF ?_
      rw [eL] at ef
      have m2 : atI (V.str (mk fa) :: .str (mk fb) :: (strL ws ++ [.str (mk fy), .str (mk fz)])) (-2) = some (.str (mk fy)) := atI_m2 (.str (mk fa) :: .str (mk fb) :: strL ws)
      have m1 : atI (V.str (mk fa) :: .str (mk fb) :: (strL ws ++ [.str (mk fy), .str (mk fz)])) (-1) = some (.str (mk fz)) := atI_m1 (.str (mk fa) :: .str (mk fb) :: strL ws)
      refine ⟨.ref f, rfl, 2, rfl, f, _, -2, _, rfl, rfl, SqL.of ef, m2, rfl, _, rfl, ?_⟩
      by_cases e2 : fy = [61]
      case neg =>
        rw [show decide (V.str (mk fy) = V.str (Str.ofString "=")) = false from decide_eq_false fun z => e2 (mk_inj (V.str.inj z))]
        exact iteT ⟨_, rfl, _, rfl, fun d nd => bad' (by rw [rowF_at, if_neg fun z => e2 z.2.2]) _ d s7 nd⟩
      subst e2
      rw [show decide (V.str (mk [61]) = V.str (Str.ofString "=")) = true from by decide +kernel]
      refine iteF ?_
      have e7 := t7 _ _ e5
      have kl := wsm fa List.mem_cons_self
      refine ⟨.ref g, rfl, .inl ⟨rfl, _, SqL.of e7⟩, ?_⟩
      refine ⟨.ref f, rfl, f, _, 0, .str (mk fa), rfl, rfl, SqL.of ef, atI_nat (j := 0) rfl, 1, rfl, -1, rfl, mk fa, rfl, ?_, ?_⟩
      · rw [mk_len]
        exact Nat.le_trans (show fa.length ≤ 1400 by omega) szle14
      rw [cutS_last e1]
      refine ⟨.ref f, rfl, f, _, 1, .str (mk fb), rfl, rfl, SqL.of ef, atI_nat (j := 1) rfl, ?_⟩
      refine ⟨.ref f, rfl, 2, rfl, 2, rfl, -2, rfl, f, _, rfl, SqL.of ef, fun e ne => ?_⟩
      rw [cutV_mid]
      refine ⟨e, _, rfl, .inl ⟨SqL.of upd_same, fun w nw => ?_⟩⟩
      have t8 := (Same.new (o := .lst (strL ws)) ne).trans (Same.new (o := .tup (strL ws)) nw)
      have ew : upd (upd H7 e (.lst (strL ws))) w (.tup (strL ws)) w = some (.tup (strL ws)) := upd_same
      generalize upd (upd H7 e (.lst (strL ws))) w (.tup (strL ws)) = H8 at t8 ew
      refine ⟨.ref f, rfl, 1, rfl, f, _, -1, .str (mk fz), rfl, rfl, SqL.of (t8 _ _ ef), m1, szle, fun z nz => ?_⟩
      have t9 := t8.trans (Same.new (o := .tup [.str (mk fa.dropLast), .str (mk fb), .ref w, .str (mk fz)]) nz)
      have ez : upd H8 z (.tup [.str (mk fa.dropLast), .str (mk fb), .ref w, .str (mk fz)]) z = some (.tup [.str (mk fa.dropLast), .str (mk fb), .ref w, .str (mk fz)]) := upd_same
      have ew9 := Same.new (o := .tup [.str (mk fa.dropLast), .str (mk fb), .ref w, .str (mk fz)]) nz _ _ ew
      generalize upd H8 z (.tup [.str (mk fa.dropLast), .str (mk fb), .ref w, .str (mk fz)]) = H9 at t9 ez ew9
      have t59 := t7.trans t9
      have e9 := t59 _ _ e5
      have ul := ro5.len
      have k9 : Kp H9 (upd H9 g (.lst (us ++ [.ref z]))) := Kp.updL e9
      refine ⟨g, us, _, rfl, rfl, e9, small14 (by rw [List.length_cons] at cnt; omega), us ++ [.ref z], rs ++ [⟨fa.dropLast, fb, ws, fz⟩], _, _, _, rfl, Same.updN (s5.trans t59) ng0, ?_, upd_same, ?_, by rw [List.length_append, ri]; rfl, ?_⟩
      · exact r5.trans ((Rx.same t59).trans Rx.at)
      · exact All2.app ((ROs.same t59 ro5).imp fun _ _ y => y.kp k9) (.cons ⟨z, w, rfl, k9 _ _ ez (fun _ y => nomatch y), k9 _ _ ew9 (fun _ y => nomatch y)⟩ .nil)
      · rw [rd, rowF_at, if_pos ⟨e0, e1, rfl⟩, show 2 + (i + 1) = 2 + i + 1 by omega]
        dsimp only
        cases rdL (List.drop (i + 1) lr) (2 + i + 1) with
        | inl j => rfl
        | inr xs =>
          show Sum.inr _ = Sum.inr _
          rw [List.append_assoc]
          rfl
    · rintro σ H5 ⟨us, rs, y5, y6, y7, rfl, s5, r5, e5, ro5, ri, rd⟩
      have hl : (strL lr).length = lr.length := List.length_map _
      rw [hl, List.drop_of_length_le (Nat.le_refl _)] at rd
      replace rd : rdL lr 2 = .inr rs := by
        rw [rd]
        show Sum.inr (rs ++ []) = _
        rw [List.append_nil]
      have sn := sane rd
      rw [rd] at q
      have ul := ro5.len
      rw [List.length_cons] at cnt
      refine ⟨rfl, .ref h, rfl, h, _, 1, .str (mk n), rfl, rfl, SqL.of (r5 _ _ (fun z => by rw [z, eg4] at eh4; cases eh4) eh4), atI_nat (j := 1) rfl, .ref g, rfl, g, us, rfl, .inr (SqL.of e5), fun x dx nx nd ne => ?_⟩
      rw [List.append_nil]
      have s6 : Same H5 (upd (upd H5 dx (.own x)) x (.ins (CTb K) dx [])) := fun b o e => by rw [upd_ne (ne_of_none e nx), upd_ne (ne_of_none e nd)]; exact e
      refine ⟨[.ref x, .str (mk n)], us, rfl, rfl, by rw [ul]; exact Nat.le_trans (show rs.length ≤ 1400 by omega) szle14, fun p np => ?_⟩
      have s7 := s6.trans (Same.new (o := .tup us) np)
      refine tinit_of n7 (by omega) (Same.new np _ _ upd_same) upd_same (ROs.same s7 ro5) (by omega) sn ?_
      replace q : match fltN n rs with
        | some w => WhyE K H E w
        | none => ∀ H' a, Same H H' → H a = none → TbO K H' a n rs → Q (.ref a) H' := q
      cases ef : fltN n rs with
      | some w =>
        rw [ef] at q
        exact q.same (s5.trans s7)
      | none =>
        rw [ef] at q
        refine fun H' rx tb => ⟨rfl, q H' x (fun b o e => ?_) (s5.free nx) tb⟩
        exact rx b o (ne_of_none (s5 _ _ e) nx) (s7 _ _ (s5 _ _ e))
end
end TW

namespace TW
open PySem PySem.Spec PyProof.Rows L2
/-! ### what a table is asked -/
def rowN (rs : List Rw) (n : List Nat) : Option Rw := rs.find? fun r => decide (r.nm = n)
theorem rowN_of {rs : List Rw} {n : List Nat} {r : Rw} (h : rowN rs n = some r) : r ∈ rs ∧ r.nm = n := by
  unfold rowN at h
  have h2 := List.find?_some h
  exact ⟨List.mem_of_find?_eq_some h, of_decide_eq_true h2⟩
theorem All2.unz {α β : Type} {R : α → β → Prop} : ∀ {us : List α} {rs : List β}, All2 R us rs → ∃ zs : List (α × β), us = zs.map (·.1) ∧ rs = zs.map (·.2) ∧ ∀ z ∈ zs, R z.1 z.2
  | _, _, .nil => ⟨[], rfl, rfl, fun z hz => by cases hz⟩
  | _, _, .cons (a := a) (b := b) h t => by
    obtain ⟨zs, h1, h2, h3⟩ := All2.unz t
    refine ⟨(a, b) :: zs, by rw [h1]; rfl, by rw [h2]; rfl, fun z hz => ?_⟩
    rcases List.mem_cons.mp hz with rfl | hz
    · exact h
    · exact h3 z hz
theorem dec_str2 (a b : List Nat) : decide (V.str (mk a) = V.str (mk b)) = decide (a = b) := by
  by_cases h : a = b
  · rw [h, decide_eq_true rfl, decide_eq_true rfl]
  · rw [decide_eq_false h]
    exact decide_eq_false fun z => h (mk_inj (V.str.inj z))
theorem nmK_get {C : Addr} {H : Hp} (n : List Nat) : ∀ {ms : List V} {rs : List Rw}, All2 (MO C H) ms rs → match rowN rs n with
    | none => valV (nmK rs ms) (.inr (mk n)) = none
    | some r => ∃ m, valV (nmK rs ms) (.inr (mk n)) = some m ∧ MO C H m r
  | _, _, .nil => rfl
  | m :: ms, r :: rs, .cons h t => by
    have ih := nmK_get n t
    unfold rowN
    rw [List.find?_cons]
    by_cases e : r.nm = n
    · rw [decide_eq_true e]
      refine ⟨m, ?_, h⟩
      show valV ((Sum.inr (mk r.nm), m) :: nmK rs ms) _ = _
      unfold valV
      rw [List.find?_cons, decide_eq_true (show (Sum.inr (mk r.nm) : Key) = Sum.inr (mk n) by rw [e])]
      rfl
    · rw [decide_eq_false e]
      have ev : valV (nmK (r :: rs) (m :: ms)) (.inr (mk n)) = valV (nmK rs ms) (.inr (mk n)) := by
        show valV ((Sum.inr (mk r.nm), m) :: nmK rs ms) _ = _
        unfold valV
        rw [List.find?_cons, decide_eq_false (show ¬ (Sum.inr (mk r.nm) : Key) = Sum.inr (mk n) from fun z => e (mk_inj (Sum.inr.inj z)))]
      rw [ev]
      exact ih
theorem lc_filtT {K : PySem.W.Frag} {a : Addr} {α : Type} {xs : List α} {h : α → V} {tt : TT} {te : TE} {s : Nat} {σ : L2.St} {H1 : Hp} {D : Addr} {Qd : Hp → Prop} (p : α → Bool) (g : α → V) (hl : H1 a = some (.tup (xs.map h))) (nD : H1 D = none) (small : xs.length ≤ 1000)
    (h2 : ∀ x : V, wipe ((wipe σ [s]).set s (some x)) [s] = wipe σ [s]) (ht : ∀ (c : α) (H' : Hp) (Q : Bool → Hp → Prop), c ∈ xs → Same H1 H' → Q (p c) H' → tt ((wipe σ [s]).set s (some (h c))) H' Q)
    (he : ∀ (c : α) (H' : Hp) (Q : VK), c ∈ xs → Same H1 H' → Q (g c) H' → te ((wipe σ [s]).set s (some (h c))) H' Q) (q : Qd (upd H1 D (.lst ((xs.filter p).map g)))) :
    LcGoal (Itt K a) (gName s) tt te [s] σ H1 D Qd := by
  have sm : ∀ l : List V, Same H1 (upd H1 D (.lst l)) := fun l => Same.new nD
  refine lc_tup (xs := xs.map h) (fun i H3 => i ≤ xs.length ∧ H3 = upd H1 D (.lst (((xs.take i).filter p).map g))) ⟨Nat.zero_le _, rfl⟩ ?_ ?_ ?_
  · rintro i H3 _ ⟨_, rfl⟩
    exact SqT.of (sm _ _ _ hl)
  · rintro i x H3 hx ⟨_, rfl⟩
    rw [List.getElem?_map] at hx
    cases gi : xs[i]? with
    | none => rw [gi] at hx; cases hx
    | some c1 =>
    rw [gi] at hx
    have ex := (Option.some.inj hx).symm
    subst ex
    have hlt : i < xs.length := (List.getElem?_eq_some_iff.mp gi).1
    have cm := List.mem_of_getElem? gi
    refine ⟨h2 _, ?_⟩
    have et : (xs.take (i + 1)).filter p = (xs.take i).filter p ++ (if p c1 then [c1] else []) := by
      rw [take_get gi, List.filter_append, List.filter_cons]
      rfl
    refine ht c1 _ _ cm (sm _) ?_
    cases e : p c1 with
    | true =>
      rw [if_pos e] at et
      rw [if_pos rfl]
      refine he c1 _ _ cm (sm _) ⟨_, upd_same, ?_, hlt, ?_⟩
      · have := List.length_filter_le p (xs.take i)
        rw [List.length_take] at this
        rw [List.length_map]
        exact small1000 (by omega)
      · rw [upd_upd, et, List.map_append]
        rfl
    | false =>
      rw [if_neg (by rw [e]; exact Bool.false_ne_true), List.append_nil] at et
      rw [if_neg Bool.false_ne_true]
      exact ⟨hlt, by rw [et]⟩
  · rintro H3 ⟨_, rfl⟩
    rw [List.length_map, List.take_length]
    exact q
abbrev CUn (K : PySem.W.Frag) : Addr := He.ga K "Unknown"
/-- Unknown -/
structure TeU (P : Program) (K : PySem.W.Frag) (mg : Str → Option Value) : Prop where
  v_Unknown : mg "Unknown" = some (.ref (CUn K))
  e_unk : PySem.TWX.Err P K mg (CUn K) (He.ma K (CUn K) "__init__") "Unknown.__init__" "name" "nothing has this name"
def UnkE (K : PySem.W.Frag) (H : Hp) (E : XK) (k : List Nat) : Prop := ∀ H' d, Same H H' → H' d = none → E (.ref (CUn K)) (some d) (upd H' d (.xd [(("name" : Str), .str (mk k))]))
/-- the class Table's methods that answer -/
structure Til (K : PySem.W.Frag) : Prop where
  at_ : PySem.W.findIn K (.ref (CTb K)) "__iter__" = some (some (.ref (mTb K "__iter__")))
  fn : PySem.W.isFn K (.ref (mTb K "__iter__")) = true
  d_ : DefAt K "__iter__" "Table.__iter__" s_Table_iter (mTb K "__iter__")
  at_contains : PySem.W.findIn K (.ref (CTb K)) "__contains__" = some (some (.ref (mTb K "__contains__")))
  fn_contains : PySem.W.isFn K (.ref (mTb K "__contains__")) = true
  d_contains : DefAt K "__contains__" "Table.__contains__" s_Table_contains (mTb K "__contains__")
  m_maker : Meth K (CTb K) "maker" (mTb K "maker")
  d_maker : DefAt K "maker" "Table.maker" s_Table_maker (mTb K "maker")
  m_makers : Meth K (CTb K) "makers" (mTb K "makers")
  d_makers : DefAt K "makers" "Table.makers" s_Table_makers (mTb K "makers")
  m_least : Meth K (CTb K) "least" (mTb K "least")
  d_least : DefAt K "least" "Table.least" s_Table_least (mTb K "least")
  tic : PySem.W.findIn K (.ref (CTb K)) "__class__" = some (some (.builtin "object.__class__"))
  tim : PySem.W.mroIn K (CTb K) (.type "object") = some true
  at_teq : PySem.W.findIn K (.ref (CTb K)) "__eq__" = some (some (.ref (mTb K "__eq__")))
  fn_teq : PySem.W.isFn K (.ref (mTb K "__eq__")) = true
  d_teq : DefAt K "__eq__" "Table.__eq__" s_Table_eq (mTb K "__eq__")
def iTab (K : PySem.W.Frag) (te : TE) : TI := fun σ H R => te σ H fun x H1 => ∃ a dx fs p xs, x = .ref a ∧ H1 a = some (.ins (CTb K) dx fs) ∧ fs.lookup ("_makers" : Str) = some (V.ref p) ∧ H1 p = some (.tup xs) ∧ R (Itt K p) H1
theorem pi_table {X : Cx} {tg e : Expr} {te : TE} {k : Nat} (T : Tx X.K X.mg) (B : Tt X.K) (I3 : Til X.K) (hr : Room (k + 1) X.A) (he : PE X e te) : PI X tg e (iTab X.K te) := by
  refine ⟨fun pins s σ H R I h => ?_⟩
  refine thn (he.run pins s σ H _ I h) fun v s1 z => ?_
  obtain ⟨x, H1, I1, r1, a, dx, fs, p, xs, ex, ha, hl, hp, q⟩ := z
  subst ex
  cases r1
  obtain ⟨m, F⟩ := I1.fr
  obtain ⟨mA, O, _⟩ := ins_get I1.hok ha
  obtain ⟨od, J, _⟩ := O.look
  refine PySem.W.owit_iter F I1.ok.mod.kin J I3.at_ I3.fn ?_
  have run := run_here (P := X.prog) (w := X.w) (K := X.K) (mg := X.mg) (base := X.base) (CX := CX0) (k := k) (A := X.A) (outer := X.stack) (s := s1) (H := H1) (us := [.ref a]) (vs := [.ref a]) (N := N_Table_iter) (ps := ["self"])
    (Q := fun v H' => ∃ it, v = .ref it ∧ H1 it = none ∧ s1.heap.objs.size ≤ it ∧ H' = upd H1 it (TIt p it)) (E := E0) I3.d_ sc_Table_iter (fun _ _ _ _ _ _ us hl => match us, hl with | [_], _ => rfl) hr I1.env0 (.cons rfl .nil) rfl ?_
  · refine wpAny_call (codeAny_mono run fun r s' hq => ?_)
    cases r with
    | error er => exact False.elim hq
    | ok fl =>
      cases fl with
      | ret u =>
        obtain ⟨v, H', I2, rv, it, ev, ni, hs, eH⟩ := I1.after hq
        subst ev eH
        cases rv
        have ei : upd H1 it (TIt p it) it = some (TIt p it) := upd_same
        have st : s'.heap.IsTupleIter it p 0 := (I2.hok it _ ei).1
        show wpAny _ _ (specialOf (.ref it) "__next__") _ _ _
        refine wpAny_specialOf st.typeIs slot_tupleiter_next.lookup ?_
        have I3' := ItX.inv_drop I2 (show upd H1 it (TIt p it) it = some (.ext _) from upd_same)
        have fp := ItX.inv_fp I2 ei (Nat.le_trans I1.sz hs)
        rw [ItX.dropH_upd ni] at I3' fp
        refine ⟨it, [it], _, _, H1, rfl, I3', turn_tuple p it, st, fun b hb => ?_, q⟩
        have e : b = it := by simpa using hb
        rw [e]
        exact fp
      | next => exact False.elim hq
      | brk => exact False.elim hq
      | cont => exact False.elim hq
  · intro cdv hr2
    suffices g : ∃ t, PSs (cxOf CX0 X.prog X.w X.K X.mg X.base N_Table_iter "Table.__iter__" (defScope s_Table_iter) (mTb X.K "__iter__") cdv X.A X.stack s1 H1 E0).nox (defBody s_Table_iter) t ∧ t { nx := fun _ H' => ∃ it, V.non = .ref it ∧ H1 it = none ∧ s1.heap.objs.size ≤ it ∧ H' = upd H1 it (TIt p it), rt := fun v H' => ∃ it, v = .ref it ∧ H1 it = none ∧ s1.heap.objs.size ≤ it ∧ H' = upd H1 it (TIt p it) } (start N_Table_iter [.ref a]) H1 by
      obtain ⟨t, u, z⟩ := g
      exact ⟨t, u.nox, z⟩
    obtain ⟨K, hK⟩ : ∃ K, K = X.K := ⟨_, rfl⟩
    rw [← hK] at T B ha ⊢
    refine ⟨_, (pss_one (ps_ret (pe_callB call_iterT (by rfl) T.z_iter (by decide +kernel) (pa_cons (pe_fldK K (pv 0) rfl) pa_nil)))), ?_⟩
    refine ⟨.ref a, rfl, a, _, dx, fs, _, rfl, ha, B.cl, B.a_makers, hl, p, xs, rfl, SqT.of hp, fun it ni hn => ⟨it, rfl, ni, hn, rfl⟩⟩
def sp_tcont (K : PySem.W.Frag) : Sp := fun vs H Q _ => ∃ (a : Addr) (n : List Nat) (rs : List Rw) (m : List Nat), vs = [.ref a, .str (mk m)] ∧ TbO K H a n rs ∧ Q (.bl (rowN rs m).isSome) H
def sp_maker (K : PySem.W.Frag) : Sp := fun vs H Q E => ∃ (a : Addr) (m : List Nat) (rs : List Rw) (n : List Nat), vs = [.ref a, .str (mk n)] ∧ TbO K H a m rs ∧ (∀ r, rowN rs n = some r → ∀ x, MO (CM K) H x r → Q x H) ∧ (rowN rs n = none → UnkE K H E n)
def sp_makers (K : PySem.W.Frag) : Sp := fun vs H Q E => ∃ (a : Addr) (n : List Nat) (rs : List Rw) (k : List Nat), vs = [.ref a, .str (mk k)] ∧ TbO K H a n rs ∧ rs.length ≤ 10 ∧ (k ∈ kds rs → 
  ∀ (H' : Hp) (p : Addr) (zs : List (V × Rw)), Same H H' → H' p = some (.tup (zs.map (·.1))) → zs.map (·.2) = rs.filter (fun r => decide (r.kd = k)) → (∀ z ∈ zs, MO (CM K) H' z.1 z.2) → Q (.ref p) H') ∧ (k ∉ kds rs → UnkE K H E k)
def sp_tleast (K : PySem.W.Frag) : Sp := fun vs H Q E => ∃ (a : Addr) (n : List Nat) (rs : List Rw) (k : List Nat), vs = [.ref a, .str (mk k)] ∧ TbO K H a n rs ∧ ∀ L : LM, LOkS rs L → (∀ r ∈ rs, Cl L r) →
  (∀ t, L k = some t → ∀ v, TO (CT K) H v t → Q v H) ∧ (L k = none → UnkE K H E k)
def sp_teq (K : PySem.W.Frag) : Sp := fun vs H Q _ => ∃ (a b : Addr) (n m : List Nat) (rs us : List Rw), vs = [.ref a, .ref b] ∧ TbO K H a n rs ∧ TbO K H b m us ∧ Q (.bl (decide (dsc n rs = dsc m us))) H
section
variable {P : Program} {w : World} {K : PySem.W.Frag} {mg : Str → Option Value} {base : Heap}
theorem ok_tcont (B : Tt K) (V2 : Til K) : FnR P w K mg base CX0 1 (mTb K "__contains__") (sp_tcont K) := by
  refine fnR0 V2.d_contains sc_Table_contains (fun _ _ _ _ _ _ us hl => match us, hl with | [_, _], _ => rfl) (fun vs H Q E h => ?_) (fun cdv A outer s H vs Q E hr h => ?_)
  · obtain ⟨a, n, rs, m, rfl, _⟩ := h
    rfl
  · obtain ⟨a, n, rs, m, rfl, tb, q⟩ := h
    refine ⟨_, (pss_one (ps_ret (pe_cmp (pc_din (u1 hr) (pv 1) (pe_fldK K (pv 0) rfl))))), ?_⟩
    obtain ⟨dx, kp, mp, np, lp, ms, L, ha, _, _, hms, hnp, _⟩ := tb
    have g := nmK_get m hms
    have dg := DGet.k (k := .inr (mk m)) hnp
    refine ⟨_, rfl, .ref a, rfl, a, _, dx, _, _, rfl, ha, B.cl, B.a_named, rfl, np, _, rfl, dg, ?_⟩
    cases er : rowN rs m with
    | some r =>
      rw [er] at g q
      obtain ⟨x, ex, mo⟩ := g
      rw [ex]
      exact q
    | none =>
      rw [er] at g q
      rw [show valV (nmK rs ms) (.inr (mk m)) = none from g]
      exact q
theorem ok_maker (B : Tt K) (V2 : Til K) (J3 : TeU P K mg) : FnR P w K mg base (L2.CX P w) 2 (mTb K "maker") (sp_maker K) := by
  refine fnRX V2.d_maker sc_Table_maker (fun _ _ _ _ _ _ us hl => match us, hl with | [_, _], _ => rfl) (fun vs H Q E h => ?_) (fun cdv A outer s H vs Q E hr h => ?_)
  · obtain ⟨a, m, rs, n, rfl, _⟩ := h
    rfl
  · obtain ⟨a, m, rs, n, rfl, tb, q, qE⟩ := h
    refine ⟨_, (pss_cons (ps_if (pt_cmp (pc_dnotin (u1 hr) (pv 1) (pe_fldK K (pv 0) rfl)))
(pss_one (ps_raiseE J3.e_unk fld_name (hr.mono (by omega)) J3.v_Unknown rfl (takes_of rfl rfl rfl rfl) (pa_cons (pv 1) pa_nil) (by rfl)))
pss_nil)
(pss_one (ps_ret (pe_dget (u1 hr) (pe_fldK K (pv 0) rfl) (pv 1) (fun _ _ => rfl))))), ?_⟩
    obtain ⟨dx, kp, mp, np, lp, ms, L, ha, _, _, hms, hnp, _⟩ := tb
    have g := nmK_get n hms
    have dg := DGet.k (k := .inr (mk n)) hnp
    cases er : rowN rs n with
    | none =>
      rw [er] at g
      rw [show valV (nmK rs ms) (.inr (mk n)) = none from g] at dg
      exact ⟨_, rfl, .ref a, rfl, a, _, dx, _, _, rfl, ha, B.cl, B.a_named, rfl, np, _, rfl, dg, _, rfl, iteT ⟨_, rfl, _, rfl, fun d nd => qE er H d (Same.refl _) nd⟩⟩
    | some r =>
    rw [er] at g
    obtain ⟨x, ex, mo⟩ := g
    rw [ex] at dg
    refine ⟨_, rfl, .ref a, rfl, a, _, dx, _, _, rfl, ha, B.cl, B.a_named, rfl, np, _, rfl, dg, _, rfl, iteF ?_⟩
    exact ⟨.ref a, rfl, a, _, dx, _, _, rfl, ha, B.cl, B.a_named, rfl, _, rfl, np, _, rfl, dg, q r er x mo⟩
theorem ok_makers (T : Tx K mg) (M : Tk K mg) (B : Tt K) (V2 : Til K) (J3 : TeU P K mg) : FnR P w K mg base (L2.CX P w) 2 (mTb K "makers") (sp_makers K) := by
  refine fnRX V2.d_makers sc_Table_makers (fun _ _ _ _ _ _ us hl => match us, hl with | [_, _], _ => rfl) (fun vs H Q E h => ?_) (fun cdv A outer s H vs Q E hr h => ?_)
  · obtain ⟨a, n, rs, k, rfl, _⟩ := h
    rfl
  · obtain ⟨a, n, rs, k, rfl, tb, hi, q, qE⟩ := h
    refine ⟨_, (pss_cons (ps_if (pt_cmpR op_notIn_seq (pv 1) (pe_fldK K (pv 0) rfl) (by rfl))
(pss_one (ps_raiseE J3.e_unk fld_name (hr.mono (by omega)) J3.v_Unknown rfl (takes_of rfl rfl rfl rfl) (pa_cons (pv 1) pa_nil) (by rfl)))
pss_nil)
(pss_one (ps_ret (pe_callTy (call_tupK K) (by rfl) T.z_tuple (by decide +kernel) (pa_cons (pe_lc (own := [("maker", 2)]) (g := gName 2) rfl sc_Table_makers.nd (pi_tup (pe_fldK K (pv 0) rfl)) (blkOk_by (own := [("maker", 2)]) (N := N_Table_makers) (sc := defScope s_Table_makers) (by decide +kernel)) (fun _ _ _ _ _ => pg_name (i := 2) sc_Table_makers.nd rfl (.inl rfl)) (fun _ _ _ _ _ => (pts_one (pt_cmpR op_eq (pe_fldK K (pv 2) rfl) (pv 1) (nomark _)))) (fun _ _ _ _ _ => (pv 2))) pa_nil))))), ?_⟩
    obtain ⟨dx, kp, mp, np, lp, ms, L, ha, hkp, hmp, hms, _⟩ := tb
    obtain ⟨zs, rfl, ers, zm⟩ := hms.unz
    have zl : zs.length ≤ 10 := by
      rw [ers, List.length_map] at hi
      exact hi
    refine ⟨_, rfl, .ref a, rfl, a, _, dx, _, _, rfl, ha, B.cl, B.a_kinds, rfl, kp, _, rfl, .inr (SqT.of hkp), rfl, flat_strL _, _, rfl, ?_⟩
    by_cases hk : k ∈ kds rs
    case neg =>
      rw [in_strL, decide_eq_false hk]
      exact iteT ⟨_, rfl, _, rfl, fun d nd => qE hk H d (Same.refl _) nd⟩
    rw [in_strL, decide_eq_true hk]
    refine iteF ⟨.ref a, rfl, a, _, dx, _, _, rfl, ha, B.cl, B.a_makers, rfl, mp, rfl, ⟨_, SqT.of hmp⟩, fun D nD => ?_⟩
    refine lc_filtT (xs := zs) (h := fun z => z.1) (fun z => decide (z.2.kd = k)) (fun z => z.1) hmp nD (by omega) (fun _ => rfl) (fun z H' Q' hz s' q' => ?_) (fun z H' Q' hz s' q' => ⟨_, rfl, q'⟩) ?_
    · obtain ⟨b, db, pb, eb, hb, hpb⟩ := zm z hz
      rw [eb]
      refine ⟨.ref b, rfl, b, _, db, _, _, rfl, s' _ _ hb, M.cl, M.a_kind, rfl, _, rfl, rfl, _, rfl, ?_⟩
      rw [dec_str2]
      exact q'
    have s2 : Same H (upd H D (.lst ((zs.filter fun z => decide (z.2.kd = k)).map fun z => z.1))) := Same.new nD
    refine ⟨D, _, rfl, .inl ⟨SqL.of upd_same, fun l nl => ?_⟩⟩
    refine q hk _ l (zs.filter fun z => decide (z.2.kd = k)) (s2.trans (Same.new nl)) upd_same ?_ fun z hz => ?_
    · rw [ers, List.filter_map]
      rfl
    · exact MO.same (s2.trans (Same.new nl)) (zm z (List.mem_filter.mp hz).1)
theorem ok_tleast (B : Tt K) (V2 : Til K) (J3 : TeU P K mg) : FnR P w K mg base (L2.CX P w) 2 (mTb K "least") (sp_tleast K) := by
  refine fnRX V2.d_least sc_Table_least (fun _ _ _ _ _ _ us hl => match us, hl with | [_, _], _ => rfl) (fun vs H Q E h => ?_) (fun cdv A outer s H vs Q E hr h => ?_)
  · obtain ⟨a, n, rs, k, rfl, _⟩ := h
    rfl
  · obtain ⟨a, n, rs, k, rfl, tb, q⟩ := h
    refine ⟨_, (pss_cons (ps_if (pt_cmp (pc_dnotin (u1 hr) (pv 1) (pe_fldK K (pv 0) rfl)))
(pss_one (ps_raiseE J3.e_unk fld_name (hr.mono (by omega)) J3.v_Unknown rfl (takes_of rfl rfl rfl rfl) (pa_cons (pv 1) pa_nil) (by rfl)))
pss_nil)
(pss_one (ps_ret (pe_dget (u1 hr) (pe_fldK K (pv 0) rfl) (pv 1) (fun _ _ => rfl))))), ?_⟩
    obtain ⟨dx, kp, mp, np, lp, ms, L, ha, _, _, _, _, dl, lok, cl⟩ := tb
    obtain ⟨q, qE⟩ := q L lok cl
    cases el : L k with
    | none =>
      obtain ⟨o, dg, ho⟩ := dl.get k
      rw [el] at ho
      have ho2 : o = none := by
        cases o with
        | none => rfl
        | some z => cases ho
      subst ho2
      exact ⟨_, rfl, .ref a, rfl, a, _, dx, _, _, rfl, ha, B.cl, B.a_least, rfl, lp, _, rfl, dg, _, rfl, iteT ⟨_, rfl, _, rfl, fun d nd => qE el H d (Same.refl _) nd⟩⟩
    | some t =>
      obtain ⟨v, dg, tv⟩ := dl.hit el
      refine ⟨_, rfl, .ref a, rfl, a, _, dx, _, _, rfl, ha, B.cl, B.a_least, rfl, lp, _, rfl, dg, _, rfl, iteF ?_⟩
      exact ⟨.ref a, rfl, a, _, dx, _, _, rfl, ha, B.cl, B.a_least, rfl, _, rfl, lp, _, rfl, dg, q t el v tv⟩
theorem ok_teq (T : Tx K mg) (N : Tn K mg) (B : Tt K) (W : Tw K) (TQ : Til K) : FnR P w K mg base CX0 1 (mTb K "__eq__") (sp_teq K) := by
  refine fnR0 TQ.d_teq sc_Table_eq (fun _ _ _ _ _ _ us hl => match us, hl with | [_, _], _ => rfl) (fun vs H Q E h => ?_) (fun cdv A outer s H vs Q E hr h => ?_)
  · obtain ⟨a, b, n, m, rs, us, rfl, _⟩ := h
    rfl
  · obtain ⟨a, b, n, m, rs, us, rfl, ta, tb, q⟩ := h
    refine ⟨_, (pss_one (ps_ret (pe_and (pe_callB call_isi (by rfl) T.z_isinstance (by decide +kernel) (pa_cons (pv 1) (pa_cons (pe_glob (v := .ref (CTb K)) (by rfl) N.v_Table rfl) pa_nil))) (pe_one (pe_cmpR op_eq (pe_fldK K (pv 0) rfl) (pe_fldK K (pv 1) rfl) (nomark _)))))), ?_⟩
    obtain ⟨dxa, kpa, mpa, npa, lpa, msa, La, haa, _⟩ := ta
    obtain ⟨dxb, kpb, mpb, npb, lpb, msb, Lb, hab, _⟩ := tb
    have ins : TyX K H (.ref b) (.ref (CTb K)) := .base (.ins hab B.cl TQ.tic W.ig W.it TQ.tim)
    refine ⟨.ref b, rfl, .ref b, .ref (CTb K), _, _, _, rfl, .own _, ins, kit_same _, _, rfl, iteT ⟨.ref a, rfl, a, _, dxa, _, _, rfl, haa, B.cl, B.a_desc, rfl, .ref b, rfl, b, _, dxb, _, _, rfl, hab, B.cl, B.a_desc, rfl, rfl, ?_⟩⟩
    rw [dec_str2]
    exact q
end
end TW

namespace TW
open PySem PySem.Spec PyProof.Rows L2
abbrev lodS : Str := "abcdefghijklmnopqrstuvwxyz0123456789"
theorem lod_at : ∀ j : Nat, j < 36 → ∃ c, lodS.cps.toList[j]? = some c ∧ (lowC c || digC c) = true ∧ (j < 26 → lowC c = true) := by decide +kernel
theorem lod_len : lodS.length = 36 := by decide +kernel
theorem lod_get {v : Int} (h0 : 0 ≤ v) (h1 : v < 36) : ∃ c, atI lodS.cps.toList v = some c ∧ (lowC c || digC c) = true ∧ (v < 26 → lowC c = true) := by
  obtain ⟨c, e, a, b⟩ := lod_at v.toNat (by omega)
  refine ⟨c, ?_, a, fun h => b (by omega)⟩
  have := atI_nat e
  rw [show ((v.toNat : Nat) : Int) = v by omega] at this
  exact this
def sp_lsmall : Sp := fun vs H Q _ => ∃ (p r : Addr), vs = [.ref p] ∧ PoolAt H p r ∧ ∀ H' n, smallN n = true → Drew p r H H' → Q (.str (mk n)) H'
section
variable {P : Program} {w : World} {K : PySem.W.Frag} {mg : Str → Option Value} {base : Heap}
theorem ok_lsmall (T : Tx K mg) (G_law_draw : FnR P w K mg base CX0 1 (He.ga K "_law_draw") sp_draw) : FnR P w K mg base CX0 2 (He.ga K "_law_small") sp_lsmall := by
  refine fnR0 T.d_law_small sc_law_small (fun _ _ _ _ _ _ us hl => match us, hl with | [_], _ => rfl) (fun vs H Q E h => ?_) (fun cdv A outer s H vs Q E hr h => ?_)
  · obtain ⟨p, r, rfl, _⟩ := h
    rfl
  · obtain ⟨p, r, rfl, hP, q⟩ := h
    refine ⟨_, (pss_cons (ps_set (i := 1) sc_law_small.nd rfl (.inl rfl) pe_str)
(pss_cons (ps_set (i := 2) sc_law_small.nd rfl (.inl rfl) (pe_ix ix_str (pv 1) (pe_cr G_law_draw (hr.mono (by omega)) (by rfl) T.v_law_draw T.k_law_draw pass0 (pa_cons (pv 0) (pa_cons pe_int pa_nil))) (fun _ _ => rfl)))
(pss_cons (ps_for PassesOwn.never rfl (pi_range1 (by rfl) T.z_range (pa_cons (pe_cr G_law_draw (hr.mono (by omega)) (by rfl) T.v_law_draw T.k_law_draw pass0 (pa_cons (pv 0) (pa_cons pe_int pa_nil))) pa_nil)) (pg_name (i := 3) sc_law_small.nd rfl (.inl rfl))
(pss_one (ps_set (i := 2) sc_law_small.nd rfl (.inl rfl) (pe_op op_add_str (pv 2) (pe_ix ix_str (pv 1) (pe_cr G_law_draw (hr.mono (by omega)) (by rfl) T.v_law_draw T.k_law_draw pass0 (pa_cons (pv 0) (pa_cons pe_int pa_nil))) (fun _ _ => rfl))))))
(pss_cons (ps_if (pt_cmpR op_eq (pv 2) pe_str (nomark _))
(pss_one (ps_ret pe_str))
pss_nil)
(pss_one (ps_ret (pv 2))))))), ?_⟩
    refine ⟨_, rfl, .ref p, rfl, p, r, 26, rfl, by decide, by decide, hP, fun H1 v v0 v1 D1 => ?_⟩
    obtain ⟨c, ec, _, cc⟩ := lod_get v0 (by omega)
    refine ⟨lodS, v, c, rfl, rfl, by rw [lod_len]; exact szle, ec, ?_⟩
    refine ⟨.ref p, rfl, p, r, 8, rfl, by decide, by decide, D1.pool, fun H2 u u0 u1 D2 => ?_⟩
    refine ⟨u, rfl, by omega, by omega, for_range (lo := 0) (n := u.toNat) (fun i σ H3 => ∃ y3 l, σ = [some (.ref p), some (.str lodS), some (.str (mk (c :: l))), y3] ∧ Drew p r H H3 ∧ l.all (fun c => lowC c || digC c) = true ∧ l.length = i) ?_ ?_ ?_⟩
    · exact ⟨none, [], rfl, D1.trans D2, rfl, rfl⟩
    · rintro i σ H3 hi ⟨y3, l, rfl, D3, al, el⟩
      refine ⟨_, rfl, _, rfl, .ref p, rfl, p, r, 36, rfl, by decide, by decide, D3.pool, fun H4 x x0 x1 D4 => ?_⟩
      obtain ⟨d, ed, da, _⟩ := lod_get x0 x1
      refine ⟨lodS, x, d, rfl, rfl, by rw [lod_len]; exact szle, ed, mk (c :: l), mk [d], rfl, rfl, ?_, ?_⟩
      · rw [mk_len, mk_len, List.length_cons, el]
        exact Nat.le_trans (show i + 1 + 1 ≤ 1000 by omega) szle
      · rw [mk_app]
        refine ⟨some (.int (0 + i)), l ++ [d], rfl, D3.trans D4, ?_, ?_⟩
        · rw [List.all_append, al]
          show (true && ((lowC d || digC d) && true)) = true
          rw [da]
          rfl
        · rw [List.length_append, el]
          rfl
    · rintro σ H3 ⟨y3, l, rfl, D3, al, el⟩
      refine ⟨_, rfl, rfl, _, rfl, ?_⟩
      rw [dec_strW]
      by_cases e : c :: l = digW
      · rw [decide_eq_true e]
        exact iteT (q H3 [100, 105, 103, 105, 116, 48] (by decide) D3)
      · rw [decide_eq_false e]
        refine iteF ⟨_, rfl, q H3 (c :: l) ?_ D3⟩
        show (lowC c && l.all (fun c => lowC c || digC c) && Nat.ble (l.length + 1) 8 && decide (c :: l ≠ digW)) = true
        rw [cc v1, al, show Nat.ble (l.length + 1) 8 = true from Nat.ble_eq_true_of_le (by omega), decide_eq_true e]
        rfl
end
end TW

namespace TW
open PySem PySem.Spec PyProof.Rows L2
theorem pig : ∀ (l ws : List (List Nat)), l.Nodup → (∀ x ∈ l, x ∈ ws) → l.length ≤ ws.length
  | [], _, _, _ => Nat.zero_le _
  | x :: r, ws, nd, h => by
    obtain ⟨n1, n2⟩ := List.nodup_cons.mp nd
    have m := h x List.mem_cons_self
    have ih := pig r (ws.erase x) n2 fun y hy => (List.mem_erase_of_ne (fun (z : y = x) => n1 (by rw [← z]; exact hy))).mpr (h y (List.mem_cons_of_mem _ hy))
    rw [List.length_erase_of_mem m] at ih
    have : 0 < ws.length := List.length_pos_of_mem m
    rw [List.length_cons]
    omega
abbrev spS : List Nat := [48, 49, 50, 51, 52, 53, 54, 55, 56, 57, 97]
abbrev spL : List (List Nat) := spS.map fun c => [88, c]
theorem spL_big : ∀ n ∈ spL, bigN n = true := by decide +kernel
theorem spare_ex {ws : List (List Nat)} (h : ws.length ≤ 10) : ∃ n r, spL.filter (fun n => decide (n ∉ ws)) = n :: r ∧ bigN n = true ∧ n ∉ ws := by
  cases e : spL.filter (fun n => decide (n ∉ ws)) with
  | nil =>
    have : ∀ x ∈ spL, x ∈ ws := fun x hx => by
      refine Decidable.byContradiction fun z => ?_
      have := List.filter_eq_nil_iff.mp e x hx
      exact this (decide_eq_true z)
    have := pig spL ws (by decide +kernel) this
    have l11 : spL.length = 11 := rfl
    omega
  | cons n r =>
    have m : n ∈ spL.filter (fun n => decide (n ∉ ws)) := by rw [e]; exact List.mem_cons_self
    obtain ⟨h1, h2⟩ := List.mem_filter.mp m
    exact ⟨n, r, rfl, spL_big n h1, of_decide_eq_true h2⟩
def sp_fresh : Sp := fun vs H Q _ => ∃ (p r l : Addr) (ws : List (List Nat)), vs = [.ref p, .ref l] ∧ PoolAt H p r ∧ ¬ PR p r l ∧ H l = some (.lst (strL ws)) ∧ ws.length ≤ 10 ∧ ∀ H' n, bigN n = true → n ∉ ws → Drew p r H H' → Q (.str (mk n)) H'
section
variable {P : Program} {w : World} {K : PySem.W.Frag} {mg : Str → Option Value} {base : Heap}
theorem ok_fresh (T : Tx K mg) (G_law_draw : FnR P w K mg base CX0 1 (He.ga K "_law_draw") sp_draw) : FnR P w K mg base CX0 3 (He.ga K "_law_fresh") sp_fresh := by
  have G_law_name_of : FnR P w K mg base CX0 2 (He.ga K "_law_name_of") sp_name := ok_name T G_law_draw
  refine fnR0 T.d_law_fresh sc_law_fresh (fun _ _ _ _ _ _ us hl => match us, hl with | [_, _], _ => rfl) (fun vs H Q E h => ?_) (fun cdv A outer s H vs Q E hr h => ?_)
  · obtain ⟨p, r, l, ws, rfl, _⟩ := h
    rfl
  · obtain ⟨p, r, l, ws, rfl, hP, nPl, hl, w10, q⟩ := h
    refine ⟨_, (pss_cons (ps_set (i := 2) sc_law_fresh.nd rfl (.inl rfl) (pe_cr G_law_name_of (hr.mono (by omega)) (by rfl) T.v_law_name_of T.k_law_name_of pass0 (pa_cons (pv 0) pa_nil)))
(pss_cons (ps_if (pt_cmpR op_notIn_seq (pv 2) (pv 1) (by rfl))
(pss_one (ps_ret (pv 2)))
pss_nil)
(pss_cons (ps_setLc (i := 3) (own := [("_law_sign", 4)]) (g := gName 4) rfl sc_law_fresh.nd rfl rfl (sw_true rfl rfl rfl (by decide +kernel)) (pi_str pe_str) (blkOk_by (own := [("_law_sign", 4)]) (N := N_law_fresh) (sc := defScope s_law_fresh) (by decide +kernel)) (fun _ _ _ _ _ => pg_name (i := 4) sc_law_fresh.nd rfl (.inl rfl)) (fun _ _ _ _ _ => pts_nil) (fun _ _ _ _ _ => (pe_op op_add_str pe_str (pv 4))))
(pss_one (ps_ret (pe_ix (r := rIxL K) ix_list (pe_lc (own := [("_law_one", 5)]) (g := gName 5) rfl sc_law_fresh.nd (pi_list (pv 3)) (blkOk_by (own := [("_law_one", 5)]) (N := N_law_fresh) (sc := defScope s_law_fresh) (by decide +kernel)) (fun _ _ _ _ _ => pg_name (i := 5) sc_law_fresh.nd rfl (.inl rfl)) (fun _ _ _ _ _ => (pts_one (pt_cmpR (r := rIn K true) op_notIn_seq (pv 5) (pv 1) (by rfl)))) (fun _ _ _ _ _ => (pv 5))) pe_int (fun _ _ => rfl))))))), ?_⟩
    refine ⟨.ref p, rfl, p, r, rfl, hP, fun H1 n bn D1 => ?_⟩
    have hl1 := D1.frm _ _ nPl hl
    refine ⟨.str (mk n), rfl, .ref l, rfl, l, _, rfl, .inl (SqL.of hl1), rfl, flat_strL _, _, rfl, ?_⟩
    rw [if_pos rfl, in_strL]
    by_cases e : n ∈ ws
    case neg =>
      rw [decide_eq_false e]
      exact iteT ⟨_, rfl, q H1 n bn e D1⟩
    rw [decide_eq_true e]
    refine iteF ?_
    refine ⟨mk spS, rfl, fun D nD => ?_⟩
    refine lc_pureS (n := spS) (fun c => .str (mk [88, c])) nD (by decide) (fun _ => rfl) (fun x H' Q' hx s' q' => ?_) ?_
    · refine ⟨_, rfl, mk [88], mk [x], rfl, rfl, (by rw [mk_len, mk_len]; exact szle), ?_⟩
      rw [mk_app]
      exact q'
    have D2 := D1.new (o := .lst (spS.map fun c => V.str (mk [88, c]))) nD
    have eD : upd H1 D (.lst (spS.map fun c => V.str (mk [88, c]))) D = some (.lst (strL spL)) := by
      rw [upd_same]
      rfl
    have s2 := Same.new (o := .lst (spS.map fun c => V.str (mk [88, c]))) nD
    generalize upd H1 D (.lst (spS.map fun c => V.str (mk [88, c]))) = H2 at D2 eD s2
    refine ⟨.ref D, rfl, D, rfl, ⟨_, SqL.of eD⟩, fun D3 nD3 => ?_⟩
    refine lc_list (xs := strL spL) (fun k H3 => ∃ ys, H3 D3 = some (.lst ys) ∧ Same H2 H3 ∧ ys = strL ((spL.take k).filter fun n => decide (n ∉ ws)) ∧ k ≤ 11) ?_ ?_ ?_ ?_
    · exact ⟨[], upd_same, Same.new nD3, rfl, Nat.zero_le _⟩
    · rintro k H3 _ ⟨ys, _, s3, _⟩
      exact SqL.of (s3 _ _ eD)
    · rintro k x H3 hx ⟨ys, eD3, s3, rfl, k11⟩
      have klt : k < 11 := (List.getElem?_eq_some_iff.mp hx).1
      rw [List.getElem?_map] at hx
      cases ew : spL[k]? with
      | none => rw [ew] at hx; cases hx
      | some w0 =>
        rw [ew] at hx
        have e1 := Option.some.inj hx
        subst e1
        have hl3 := s3 _ _ (s2 _ _ hl1)
        have et : (spL.take (k + 1)).filter (fun n => decide (n ∉ ws)) = (spL.take k).filter (fun n => decide (n ∉ ws)) ++ (if w0 ∈ ws then [] else [w0]) := by
          rw [take_get ew, List.filter_append, List.filter_cons]
          by_cases h : w0 ∈ ws
          · rw [if_pos h, decide_eq_false (fun z => z h)]
            rfl
          · rw [if_neg h, decide_eq_true h]
            rfl
        refine ⟨rfl, _, rfl, .ref l, rfl, l, _, rfl, .inl (SqL.of hl3), rfl, flat_strL _, _, rfl, ?_⟩
        rw [if_pos rfl, in_strL]
        by_cases h : w0 ∈ ws
        · rw [decide_eq_true h]
          rw [if_pos h, List.append_nil] at et
          exact iteF ⟨_, eD3, s3, by rw [et], klt⟩
        · rw [decide_eq_false h]
          rw [if_neg h] at et
          refine iteT ⟨_, rfl, _, eD3, small1000 ?_, _, upd_same, ?_, ?_, klt⟩
          · rw [List.length_map]
            have h1 := List.length_filter_le (fun n => decide (n ∉ ws)) (spL.take k)
            rw [List.length_take] at h1
            omega
          · intro b' o e
            rw [upd_ne (ne_of_none e nD3)]
            exact s3 _ _ e
          · rw [et, strL_app]
            rfl
    rintro H3 ⟨ys, eD3, s3, rfl, _⟩
    obtain ⟨n0, rr, en, b0, nin⟩ := spare_ex w10
    rw [show (strL spL).length = 11 from rfl, show spL.take 11 = spL from rfl, en] at eD3
    exact ⟨D3, _, 0, .str (mk n0), rfl, rfl, SqL.of eD3, atI_nat (j := 0) rfl, q H3 n0 b0 nin ⟨fun b o nb e => s3 _ _ (D2.frm b o nb e), D2.pool.keep s3⟩⟩
end
end TW

namespace TW
open PySem PySem.Spec PyProof.Rows L2
structure WsOk (ks ws : List (List Nat)) : Prop where
  len : ws.length ≤ 3
  from_ : ∀ w ∈ ws, w = digW ∨ w ∈ ks
  trees : (trW ws).length ≤ 2
def sp_wanted : Sp := fun vs H Q _ => ∃ (p r l : Addr) (ks : List (List Nat)), vs = [.ref p, .ref l] ∧ PoolAt H p r ∧ ¬ PR p r l ∧ H l = some (.lst (strL ks)) ∧ ks.length ≤ 3 ∧ ∀ H' a ws, WsOk ks ws → Drew p r H H' → H' a = some (.tup (strL ws)) → Q (.ref a) H'
section
variable {P : Program} {w : World} {K : PySem.W.Frag} {mg : Str → Option Value} {base : Heap}
theorem ok_wanted (T : Tx K mg) (G_law_draw : FnR P w K mg base CX0 1 (He.ga K "_law_draw") sp_draw) : FnR P w K mg base CX0 2 (He.ga K "_law_wanted") sp_wanted := by
  refine fnR0 T.d_law_wanted sc_law_wanted (fun _ _ _ _ _ _ us hl => match us, hl with | [_, _], _ => rfl) (fun vs H Q E h => ?_) (fun cdv A outer s H vs Q E hr h => ?_)
  · obtain ⟨p, r, l, ks, rfl, _⟩ := h
    rfl
  · obtain ⟨p, r, l, ks, rfl, hP, nPl, hl, k3, q⟩ := h
    refine ⟨_, (pss_cons (ps_set (i := 2) sc_law_wanted.nd rfl (.inl rfl) (pe_lst pa_nil))
(pss_cons (ps_for PassesOwn.never rfl (pi_range1 (by rfl) T.z_range (pa_cons (pe_ix (r := rIxL K) ix_list (pe_lst (pa_cons pe_int (pa_cons pe_int (pa_cons pe_int (pa_cons pe_int (pa_cons pe_int pa_nil)))))) (pe_cr G_law_draw (hr.mono (by omega)) (by rfl) T.v_law_draw T.k_law_draw pass0 (pa_cons (pv 0) (pa_cons pe_int pa_nil))) (fun _ _ => rfl)) pa_nil)) (pg_name (i := 3) sc_law_wanted.nd rfl (.inl rfl))
(pss_cons (ps_set (i := 4) sc_law_wanted.nd rfl (.inl rfl) (pe_op op_fdiv (pe_cr G_law_draw (hr.mono (by omega)) (by rfl) T.v_law_draw T.k_law_draw pass0 (pa_cons (pv 0) (pa_cons (pe_op op_add (pe_op op_mul pe_int (pe_callB call_len (by rfl) T.z_len (by decide +kernel) (pa_cons (pv 1) pa_nil))) pe_int) pa_nil))) pe_int))
(pss_cons (ps_setLc (i := 5) (own := [("_law_want", 6)]) (g := gName 6) rfl sc_law_wanted.nd rfl rfl (sw_true rfl rfl rfl (by decide +kernel)) (pi_list (pv 2)) (blkOk_by (own := [("_law_want", 6)]) (N := N_law_wanted) (sc := defScope s_law_wanted) (by decide +kernel)) (fun _ _ _ _ _ => pg_name (i := 6) sc_law_wanted.nd rfl (.inl rfl)) (fun _ _ _ _ _ => (pts_one (pt_cmpR op_ne (pv 6) pe_str (nomark _)))) (fun _ _ _ _ _ => (pv 6)))
(pss_one (ps_if (PW.pt (pw_or (pt_cmpR op_eq (pv 4) (pe_callB call_len (by rfl) T.z_len (by decide +kernel) (pa_cons (pv 1) pa_nil)) (nomark _)) (pw_or1 (pt_cmpR op_eq (pe_callB call_len (by rfl) T.z_len (by decide +kernel) (pa_cons (pv 5) pa_nil)) pe_int (nomark _)))))
(pss_one (ps_expr (pe_bm PySem.F.plainAttrs_list PySem.F.slot_list_append PySem.F.type_list_append mt_append (pv 2) (pa_cons pe_str pa_nil))))
(pss_one (ps_expr (pe_bm PySem.F.plainAttrs_list PySem.F.slot_list_append PySem.F.type_list_append mt_append (pv 2) (pa_cons (pe_ix (r := rIxL K) ix_list (pv 1) (pv 4) (fun _ _ => rfl)) pa_nil)))))))))
(pss_one (ps_ret (pe_callTy call_tuple_of (by rfl) T.z_tuple (by decide +kernel) (pa_cons (pv 2) pa_nil)))))), ?_⟩
    refine ⟨szle, fun wl nw => ⟨szle, fun t5 n5 => ?_⟩⟩
    have D1 : Drew p r H (upd H wl (.lst [])) := (Drew.refl hP).new nw
    have D2 := D1.new (o := .lst [.int 0, .int 1, .int 2, .int 2, .int 3]) n5
    have nPw : ¬ PR p r wl := fun z => PoolAt.some hP wl z nw
    have nP5 : ¬ PR p r t5 := fun z => PoolAt.some D1.pool t5 z n5
    refine ⟨.ref p, rfl, p, r, 5, rfl, by decide, by decide, D2.pool, fun H3 x x0 x1 D3 => ?_⟩
    obtain ⟨k, ek, kk0, kk3⟩ : ∃ k : Int, atI [V.int 0, .int 1, .int 2, .int 2, .int 3] x = some (.int k) ∧ 0 ≤ k ∧ k ≤ 3 := by
      have : x = 0 ∨ x = 1 ∨ x = 2 ∨ x = 3 ∨ x = 4 := by omega
      rcases this with rfl | rfl | rfl | rfl | rfl
      · exact ⟨0, rfl, by decide, by decide⟩
      · exact ⟨1, rfl, by decide, by decide⟩
      · exact ⟨2, rfl, by decide, by decide⟩
      · exact ⟨2, rfl, by decide, by decide⟩
      · exact ⟨3, rfl, by decide, by decide⟩
    have wlt : wl ≠ t5 := ne_of_none upd_same n5
    have ew3 : H3 wl = some (.lst (strL [])) := D3.frm _ _ nPw (by rw [upd_ne wlt, upd_same]; rfl)
    have D03 := D2.trans D3
    refine ⟨t5, _, x, _, rfl, rfl, SqL.of (D3.frm _ _ nP5 upd_same), ek, k, rfl, by omega, by omega, for_range (lo := 0) (n := k.toNat) (fun i σ H4 => ∃ y3 y4 y5 ws, σ = [some (.ref p), some (.ref l), some (.ref wl), y3, y4, y5, none] ∧ Drew p r H H4 ∧ H4 wl = some (.lst (strL ws)) ∧ ws.length = i ∧ (∀ w ∈ ws, w = digW ∨ w ∈ ks) ∧ (trW ws).length ≤ 2) ⟨_, _, _, [], rfl, D03, ew3, rfl, (fun w hw => nomatch hw), by decide⟩ ?_ ?_⟩
    · rintro i σ H4 hi ⟨y3, y4, y5, ws, rfl, D4, ew, el, hf, ht⟩
      have hl4 := D4.frm _ _ nPl hl
      have kl : (strL ks).length = ks.length := List.length_map _
      refine ⟨.ref p, rfl, .ref l, rfl, .ref l, ks.length, rfl, .inl ⟨_, SqL.of hl4, kl.symm⟩, 3, (ks.length : Int), rfl, rfl, (.inl ⟨by decide, by decide⟩), 3 * (ks.length : Int), 1, rfl, rfl, p, r, 3 * (ks.length : Int) + 1, rfl, by omega, by omega, D4.pool, fun H5 y y0 y1 D5 => ?_⟩
      refine ⟨y, 3, rfl, rfl, ⟨by decide, by decide⟩, ?_⟩
      have D05 := D4.trans D5
      have ew5 := D5.frm _ _ nPw ew
      have hl5 := D5.frm _ _ nPl hl4
      have il : i < 3 := by
        have : i < k.toNat := hi
        omega
      have wl' : (strL ws).length = ws.length := List.length_map _
      -- the trees
      refine ⟨.ref wl, rfl, wl, rfl, ⟨_, SqL.of ew5⟩, fun D nD => ?_⟩
      refine lc_list (xs := strL ws) (fun m H6 => ∃ ys, H6 D = some (.lst ys) ∧ Same H5 H6 ∧ ys = strL (trW (ws.take m))) ?_ ?_ ?_ ?_
      · exact ⟨[], upd_same, Same.new nD, rfl⟩
      · rintro m H6 _ ⟨ys, _, s6, _⟩
        exact SqL.of (s6 _ _ ew5)
      · rintro m x' H6 hx ⟨ys, eD, s6, rfl⟩
        rw [List.getElem?_map] at hx
        cases ew0 : ws[m]? with
        | none => rw [ew0] at hx; cases hx
        | some w0 =>
          rw [ew0] at hx
          have := Option.some.inj hx
          subst this
          refine ⟨rfl, _, rfl, rfl, _, rfl, ?_⟩
          rw [dec_strW]
          have et : trW (ws.take (m + 1)) = trW (ws.take m) ++ (if w0 = digW then [] else [w0]) := by
            rw [take_get ew0]
            show List.filter _ _ = _
            rw [List.filter_append, List.filter_cons]
            by_cases h : w0 = digW
            · rw [if_pos h, decide_eq_false (fun z => z h)]
              rfl
            · rw [if_neg h, decide_eq_true h]
              rfl
          have ml : (strL (trW (ws.take m))).length ≤ 1000 := by
            rw [List.length_map]
            have h1 := List.length_filter_le (fun w => decide (w ≠ digW)) (ws.take m)
            have h2 : (ws.take m).length ≤ ws.length := by rw [List.length_take]; omega
            exact Nat.le_trans h1 (by omega)
          by_cases h : w0 = digW
          · rw [decide_eq_true h]
            rw [if_pos h, List.append_nil] at et
            exact iteF ⟨_, eD, s6, by rw [et]⟩
          · rw [decide_eq_false h]
            rw [if_neg h] at et
            refine iteT ⟨_, rfl, _, eD, small1000 ml, _, upd_same, ?_, ?_⟩
            · intro b' o e
              rw [upd_ne (ne_of_none e nD)]
              exact s6 _ _ e
            · rw [et, strL_app]
              rfl
      rintro H6 ⟨ys, eD, s6, rfl⟩
      rw [wl', List.take_length] at eD
      have D06 : Drew p r H H6 := ⟨fun b o nb e => s6 _ _ (D05.frm b o nb e), D05.pool.keep s6⟩
      have ew6 := s6 _ _ ew5
      have hl6 := s6 _ _ hl5
      have tl : (strL (trW ws)).length = (trW ws).length := List.length_map _
      have put : ∀ w0, (w0 = digW ∨ w0 ∈ ks) → (trW (ws ++ [w0])).length ≤ 2 → Drew p r H (upd H6 wl (.lst (strL ws ++ [.str (mk w0)]))) ∧ upd H6 wl (.lst (strL ws ++ [.str (mk w0)])) wl = some (.lst (strL (ws ++ [w0]))) ∧ (ws ++ [w0]).length = i + 1 ∧ (∀ w ∈ ws ++ [w0], w = digW ∨ w ∈ ks) := fun w0 h1 h2 => by
        refine ⟨⟨fun b o nb e => ?_, ?_⟩, by rw [upd_same, strL_app]; rfl, by rw [List.length_append, el]; rfl, fun w hw => ?_⟩
        · rw [upd_ne (ne_of_none e nw)]
          exact D06.frm b o nb e
        · exact D06.pool.upd (fun z => nPw (.inl z)) (fun z => nPw (.inr z))
        · rcases List.mem_append.mp hw with z | z
          · exact hf w z
          · rw [List.mem_singleton.mp z]
            exact h1
      have yb : 0 ≤ y / 3 ∧ y / 3 ≤ (ks.length : Int) := by omega
      have trd : trW (ws ++ [digW]) = trW ws := by
        show List.filter _ _ = _
        rw [List.filter_append, List.filter_cons, decide_eq_false (fun z => z rfl)]
        exact List.append_nil _
      have addD : ∀ (D0 : Ends), D0.nx = (fun σ H4 => ∃ y3 y4 y5 ws, σ = [some (V.ref p), some (.ref l), some (.ref wl), y3, y4, y5, none] ∧ Drew p r H H4 ∧ H4 wl = some (.lst (strL ws)) ∧ ws.length = i + 1 ∧ (∀ w ∈ ws, w = digW ∨ w ∈ ks) ∧ (trW ws).length ≤ 2) →
          tDrop (tBM K "list" rAppend (tVar 2) (tCons (tC (.str "digit")) tNil)) D0 [some (.ref p), some (.ref l), some (.ref wl), some (.int (0 + (i : Nat))), some (.int (y / 3)), some (.ref D), none] H6 := fun D0 e0 => by
        obtain ⟨h1, h2, h3, h4⟩ := put digW (.inl rfl) (by rw [trd]; exact ht)
        refine ⟨.ref wl, rfl, .inl ⟨rfl, _, SqL.of ew6⟩, wl, _, _, rfl, rfl, ew6, small1000 (by rw [wl']; omega), ?_⟩
        rw [e0]
        exact ⟨_, _, _, ws ++ [digW], rfl, h1, h2, h3, h4, by rw [trd]; exact ht⟩
      refine ⟨.int (y / 3), rfl, .ref l, rfl, .ref l, ks.length, rfl, .inl ⟨_, SqL.of hl6, kl.symm⟩, rfl, _, rfl, ?_⟩
      by_cases hp : y / 3 = (ks.length : Int)
      · rw [decide_eq_true (show V.int (y / 3) = V.int (ks.length : Int) by rw [hp])]
        exact iteT (iteT (addD _ rfl))
      rw [decide_eq_false (fun z => hp (V.int.inj z))]
      refine iteF ⟨.ref D, rfl, .ref D, (trW ws).length, rfl, .inl ⟨_, SqL.of eD, tl.symm⟩, rfl, _, rfl, ?_⟩
      by_cases h2 : (trW ws).length = 2
      · rw [decide_eq_true (show V.int ((trW ws).length : Int) = V.int 2 by rw [h2]; rfl)]
        exact iteT (addD _ rfl)
      rw [decide_eq_false (fun z => h2 (by have := V.int.inj z; omega))]
      have yl : (y / 3).toNat < ks.length := by omega
      have gk : ks[(y / 3).toNat]? = some ks[(y / 3).toNat] := List.getElem?_eq_getElem yl
      have mk_ := List.mem_of_getElem? gk
      have tr2 : (trW (ws ++ [ks[(y / 3).toNat]])).length ≤ 2 := by
        show (List.filter _ _).length ≤ 2
        rw [List.filter_append, List.length_append]
        have h1 := List.length_filter_le (fun w => decide (w ≠ digW)) [ks[(y / 3).toNat]]
        have h3 : (List.filter (fun w => decide (w ≠ digW)) ws).length = (trW ws).length := rfl
        have h4 : [ks[(y / 3).toNat]].length = 1 := rfl
        omega
      obtain ⟨h3, h4, h5, h6⟩ := put _ (.inr mk_) tr2
      refine iteF ⟨.ref wl, rfl, .inl ⟨rfl, _, SqL.of ew6⟩, .ref l, rfl, .int (y / 3), rfl, l, _, y / 3, _, rfl, rfl, SqL.of hl6, ?_, wl, _, _, rfl, rfl, ew6, small1000 (by rw [wl']; omega), _, _, _, _, rfl, h3, h4, h5, h6, tr2⟩
      have := atI_nat (show (strL ks)[(y / 3).toNat]? = some (.str (mk ks[(y / 3).toNat])) by rw [List.getElem?_map, gk]; rfl)
      rw [Int.toNat_of_nonneg yb.1] at this
      exact this
    · rintro σ H4 ⟨y3, y4, y5, ws, rfl, D4, ew, el, hf, ht⟩
      refine ⟨.ref wl, rfl, wl, _, rfl, .inl ⟨SqL.of ew, fun a na => ?_⟩⟩
      exact q _ a ws ⟨by omega, hf, ht⟩ (D4.new na) upd_same
end
end TW

namespace TW
open PySem PySem.Spec PyProof.Rows L2
/-- what is due at a place of the form -/
def wtA (r : Rw) (i : Nat) : List Nat := match r.fm[i]? with
  | none => []
  | some c => if digC c then (r.ws[c - 49]?).getD [] else [c]
theorem fs_nodig : ∀ c ∈ fsS.cps.toList, digC c = false := by decide +kernel
def sp_wantat (C : Addr) : Sp := fun vs H Q _ => ∃ v r, ∃ i : Nat, vs = [v, .int i] ∧ MO C H v r ∧ FmOk r.fm r.ws ∧ i < r.fm.length ∧ Q (.str (mk (wtA r i))) H
section
variable {P : Program} {w : World} {K : PySem.W.Frag} {mg : Str → Option Value} {base : Heap}
end
end TW

namespace TW
/-! ## written tables are right: plain Lean -/
def rwB (bs : List Rw) (r : Rw) : Bool :=
  bigN r.kd && (bigN r.nm && (r.ws.all (fun w => decide (w = digW) || bigN w) && ((decide (r.kd ∈ kds bs) || decide ((kds bs).length ≠ 3)) && (decide (r.nm ∉ bs.map (·.nm)) && (decide ((trW r.ws).length ≤ 2) && (Nat.ble r.ws.length 3 && fmB r.fm r.ws))))))
theorem rwB_ok {bs : List Rw} {r : Rw} (h : rwB bs r = true) : RwOk bs r := by
  unfold rwB at h
  simp only [Bool.and_eq_true, decide_eq_true_eq, List.all_eq_true, Bool.or_eq_true] at h
  obtain ⟨h1, h2, h3, h4, h5, h6, hw3, h7⟩ := h
  exact ⟨h1, h2, fun w hw ne => (h3 w hw).resolve_left ne, h4, h5, h6, fmB_ok (Nat.le_of_ble_eq_true hw3) h7⟩
def trB (rs : List Rw) : Bool :=
  decide (1 ≤ rs.length) && (decide (rs.length ≤ 10) && ((List.range rs.length).all (fun i => match rs[i]? with
  | some r => rwB (rs.take i) r
  | none => true) && (decide ((kds rs).length ≤ 3) && (rs.all (fun r => r.ws.all fun w => decide (w = digW) || decide (w ∈ kds rs)) &&
  (List.range rs.length).all (fun j => (List.range j).all fun i => match rs[i]?, rs[j]? with
  | some r, some r' => !decide (r.kd = r'.kd) || decide (stW r ≠ stW r')
  | _, _ => true)))))
theorem trB_ok {rs : List Rw} (h : trB rs = true) (g : Gr rs) : TR rs := by
  unfold trB at h
  simp only [Bool.and_eq_true, decide_eq_true_eq, List.all_eq_true, Bool.or_eq_true] at h
  obtain ⟨h1, h2, h3, h4, h5, h6⟩ := h
  refine ⟨h1, h2, fun i r er => ?_, h4, h5, fun i j r r' hij er er' ek => ?_, g⟩
  · have il := (List.getElem?_eq_some_iff.mp er).1
    have := h3 i (List.mem_range.mpr il)
    rw [er] at this
    exact rwB_ok this
  · have jl := (List.getElem?_eq_some_iff.mp er').1
    have := h6 j (List.mem_range.mpr jl) i (List.mem_range.mpr hij)
    rw [er, er'] at this
    simp only [Bool.or_eq_true, Bool.not_eq_true', decide_eq_false_iff_not, decide_eq_true_eq] at this
    exact this.resolve_left fun z => z ek
/-- a kind with a row without wants is grounded -/
theorem gr0 {rs : List Rw} (h : (kds rs).all (fun k => rs.any fun r => decide (r.kd = k) && decide (r.ws = [])) = true) : Gr rs := by
  refine ⟨fun _ => 0, fun k hk => ?_⟩
  obtain ⟨r, hr, e⟩ := List.any_eq_true.mp (List.all_eq_true.mp h k hk)
  obtain ⟨e1, e2⟩ := Bool.and_eq_true_iff.mp e
  refine ⟨r, hr, of_decide_eq_true e1, fun w hw => ?_⟩
  rw [of_decide_eq_true e2] at hw
  cases hw
def mn0 : List Rw := [⟨[75], [83], [[75]], [115, 49]⟩, ⟨[75], [90], [], [122]⟩]
theorem mn0_tr : TR mn0 := trB_ok (by decide +kernel) (gr0 (by decide +kernel))
def mn1 : List Rw := [⟨[75], [83], [[100, 105, 103, 105, 116], [75]], [115, 49, 50]⟩, ⟨[75], [80], [[75], [75]], [40, 49, 50, 41]⟩, ⟨[75], [90], [], [122]⟩]
theorem mn1_tr : TR mn1 := trB_ok (by decide +kernel) (gr0 (by decide +kernel))
def mn2 : List Rw := [⟨[69, 120, 112, 114], [65, 100, 100], [[69, 120, 112, 114], [69, 120, 112, 114]], [40, 49, 43, 50, 41]⟩, ⟨[69, 120, 112, 114], [78, 101, 103], [[69, 120, 112, 114]], [45, 49]⟩, ⟨[69, 120, 112, 114], [78, 117, 109], [[100, 105, 103, 105, 116]], [49]⟩, ⟨[69, 120, 112, 114], [78, 105, 108], [], [122]⟩]
theorem mn2_tr : TR mn2 := trB_ok (by decide +kernel) (gr0 (by decide +kernel))
def mn3 : List Rw := [⟨[69, 120, 112, 114], [65, 100, 100], [[69, 120, 112, 114], [69, 120, 112, 114]], [40, 50, 43, 49, 41]⟩, ⟨[69, 120, 112, 114], [78, 101, 103], [[69, 120, 112, 114]], [45, 49]⟩, ⟨[69, 120, 112, 114], [78, 117, 109], [[100, 105, 103, 105, 116]], [49]⟩, ⟨[69, 120, 112, 114], [78, 105, 108], [], [122]⟩]
theorem mn3_tr : TR mn3 := trB_ok (by decide +kernel) (gr0 (by decide +kernel))
def mn4 : List Rw := [⟨[83, 116, 109, 116], [68, 111], [[69, 120, 112, 114], [83, 116, 109, 116]], [100, 49, 59, 50]⟩, ⟨[83, 116, 109, 116], [69, 110, 100], [], [101]⟩, ⟨[69, 120, 112, 114], [86, 97, 114], [[100, 105, 103, 105, 116]], [118, 49]⟩, ⟨[69, 120, 112, 114], [78, 111, 116], [[69, 120, 112, 114]], [45, 49]⟩, ⟨[69, 120, 112, 114], [76, 105, 116], [], [116]⟩]
theorem mn4_tr : TR mn4 := trB_ok (by decide +kernel) (gr0 (by decide +kernel))
end TW

namespace TW
open PySem PySem.Spec PyProof.Rows L2
def tcs : List (List Nat) → TA
  | [] => tNil
  | w :: r => tCons (tC (.str (mk w))) (tcs r)
theorem rd_tcs : ∀ (ws : List (List Nat)) (σ : L2.St) (H : Hp) (Q : List V → Hp → Prop), Q (strL ws) H → tcs ws σ H Q
  | [], _, _, _, h => h
  | w :: r, σ, H, Q, h => rd_tcs r σ H (fun xs H1 => Q (.str (mk w) :: xs) H1) h
def tRow (r : Rw) : TE := tTup (tCons (tC (.str (mk r.kd))) (tCons (tC (.str (mk r.nm))) (tCons (tTup (tcs r.ws)) (tCons (tC (.str (mk r.fm))) tNil))))
theorem rd_row {σ : L2.St} {H : Hp} {Q : VK} (r : Rw) (hl : r.ws.length ≤ 3) (c : ∀ H' a, Same H H' → RO H' (.ref a) r → Q (.ref a) H') : tRow r σ H Q := by
  refine rd_tcs r.ws σ H _ ⟨?_, fun p np => ⟨szle, fun a na => ?_⟩⟩
  · rw [List.length_map]
    exact Nat.le_trans hl szle
  · exact c _ a ((Same.new np).trans (Same.new na)) ⟨a, p, rfl, upd_same, Same.new na _ _ upd_same⟩
def tRows : List Rw → TA
  | [] => tNil
  | r :: rs => tCons (tRow r) (tRows rs)
theorem rd_rows : ∀ (rs : List Rw) (σ : L2.St) (H : Hp) (Q : List V → Hp → Prop), (∀ r ∈ rs, r.ws.length ≤ 3) → (∀ H' us, Same H H' → All2 (RO H') us rs → Q us H') → tRows rs σ H Q
  | [], σ, H, Q, _, h => h H [] (Same.refl _) .nil
  | r :: rs, σ, H, Q, hl, h => by
    show tRow r σ H (fun v H1 => tRows rs σ H1 fun us H2 => Q (v :: us) H2)
    refine rd_row r (hl r List.mem_cons_self) fun H1 a s1 ro => ?_
    exact rd_rows rs σ H1 _ (fun x hx => hl x (List.mem_cons_of_mem _ hx)) fun H2 us s2 ros => h H2 (.ref a :: us) (s1.trans s2) (.cons (ro.same s2) ros)
theorem rd_lst {rs : List Rw} {σ : L2.St} {H : Hp} {Q : VK} (hl : (rs.all fun r => decide (r.ws.length ≤ 3)) = true) (h10 : rs.length ≤ 10) (c : ∀ H' l us, Same H H' → H l = none → H' l = some (.lst us) → All2 (RO H') us rs → Q (.ref l) H') : tLst (tRows rs) σ H Q := by
  refine rd_rows rs σ H _ (fun r hr => of_decide_eq_true (List.all_eq_true.mp hl r hr)) fun H1 us s1 ros => ⟨?_, fun l nl => ?_⟩
  · rw [ros.len]
    exact Nat.le_trans h10 szle
  · exact c _ l us (s1.trans (Same.new nl)) (s1.free nl) upd_same (ROs.same (Same.new nl) ros)
theorem cutV_fr (xs : List V) (i : Nat) : cutV xs (some (i : Int)) none = xs.drop i := by
  unfold cutV
  rw [HT.sIx_nat, HT.sIx_none]
  by_cases h : i ≤ xs.length
  · rw [Nat.min_eq_left h, List.take_of_length_le (by rw [List.length_drop]; exact Nat.le_refl _)]
  · rw [Nat.min_eq_right (by omega), List.drop_length, List.take_nil, List.drop_of_length_le (by omega)]
theorem All2.drop1 {α β : Type} {R : α → β → Prop} : ∀ {as : List α} {bs : List β}, All2 R as bs → All2 R (as.drop 1) (bs.drop 1)
  | _, _, .nil => .nil
  | _, _, .cons _ t => t
def sp_menu : Sp := fun vs H Q _ => ∃ i : Nat, vs = [.int i] ∧ i ≤ 4 ∧ ∀ H' l us rs, TR rs → Same H H' → H l = none → H' l = some (.lst us) → All2 (RO H') us rs → Q (.ref l) H'
section
variable {P : Program} {w : World} {K : PySem.W.Frag} {mg : Str → Option Value} {base : Heap}
theorem ok_menu (T : Tx K mg) : FnR P w K mg base CX0 1 (He.ga K "_law_menu") sp_menu := by
  refine fnR0 T.d_law_menu sc_law_menu (fun _ _ _ _ _ _ us hl => match us, hl with | [_], _ => rfl) (fun vs H Q E h => ?_) (fun cdv A outer s H vs Q E hr h => ?_)
  · obtain ⟨i, rfl, _⟩ := h
    rfl
  · obtain ⟨i, rfl, hi, q⟩ := h
    refine ⟨_, (pss_cons (ps_set (i := 1) sc_law_menu.nd rfl (.inl rfl) (pe_lst (pa_cons (pe_tup (pa_cons pe_str (pa_cons pe_str (pa_cons (pe_tup (pa_cons pe_str (pa_cons pe_str pa_nil))) (pa_cons pe_str pa_nil))))) (pa_cons (pe_tup (pa_cons pe_str (pa_cons pe_str (pa_cons (pe_tup (pa_cons pe_str pa_nil)) (pa_cons pe_str pa_nil))))) pa_nil))))
(pss_cons (ps_set (i := 1) sc_law_menu.nd rfl (.inl rfl) (pe_op op_cat (pv 1) (pe_lst (pa_cons (pe_tup (pa_cons pe_str (pa_cons pe_str (pa_cons (pe_tup (pa_cons pe_str pa_nil)) (pa_cons pe_str pa_nil))))) (pa_cons (pe_tup (pa_cons pe_str (pa_cons pe_str (pa_cons (pe_tup pa_nil) (pa_cons pe_str pa_nil))))) pa_nil)))))
(pss_cons (ps_if (pt_cmpR op_eq (pv 0) pe_int (nomark _))
(pss_one (ps_ret (pe_lst (pa_cons (pe_tup (pa_cons pe_str (pa_cons pe_str (pa_cons (pe_tup (pa_cons pe_str pa_nil)) (pa_cons pe_str pa_nil))))) (pa_cons (pe_tup (pa_cons pe_str (pa_cons pe_str (pa_cons (pe_tup pa_nil) (pa_cons pe_str pa_nil))))) pa_nil)))))
pss_nil)
(pss_cons (ps_if (pt_cmpR op_eq (pv 0) pe_int (nomark _))
(pss_one (ps_ret (pe_lst (pa_cons (pe_tup (pa_cons pe_str (pa_cons pe_str (pa_cons (pe_tup (pa_cons pe_str (pa_cons pe_str pa_nil))) (pa_cons pe_str pa_nil))))) (pa_cons (pe_tup (pa_cons pe_str (pa_cons pe_str (pa_cons (pe_tup (pa_cons pe_str (pa_cons pe_str pa_nil))) (pa_cons pe_str pa_nil))))) (pa_cons (pe_tup (pa_cons pe_str (pa_cons pe_str (pa_cons (pe_tup pa_nil) (pa_cons pe_str pa_nil))))) pa_nil))))))
pss_nil)
(pss_cons (ps_if (pt_cmpR op_eq (pv 0) pe_int (nomark _))
(pss_one (ps_ret (pv 1)))
pss_nil)
(pss_cons (ps_if (pt_cmpR op_eq (pv 0) pe_int (nomark _))
(pss_one (ps_ret (pe_op op_cat (pe_lst (pa_cons (pe_tup (pa_cons pe_str (pa_cons pe_str (pa_cons (pe_tup (pa_cons pe_str (pa_cons pe_str pa_nil))) (pa_cons pe_str pa_nil))))) pa_nil)) (pe_slice sl_list (pv 1) (po_some pe_int) po_none))))
pss_nil)
(pss_cons (ps_set (i := 2) sc_law_menu.nd rfl (.inl rfl) (pe_lst (pa_cons (pe_tup (pa_cons pe_str (pa_cons pe_str (pa_cons (pe_tup (pa_cons pe_str (pa_cons pe_str pa_nil))) (pa_cons pe_str pa_nil))))) (pa_cons (pe_tup (pa_cons pe_str (pa_cons pe_str (pa_cons (pe_tup pa_nil) (pa_cons pe_str pa_nil))))) pa_nil))))
(pss_cons (ps_set (i := 2) sc_law_menu.nd rfl (.inl rfl) (pe_op op_cat (pv 2) (pe_lst (pa_cons (pe_tup (pa_cons pe_str (pa_cons pe_str (pa_cons (pe_tup (pa_cons pe_str pa_nil)) (pa_cons pe_str pa_nil))))) (pa_cons (pe_tup (pa_cons pe_str (pa_cons pe_str (pa_cons (pe_tup (pa_cons pe_str pa_nil)) (pa_cons pe_str pa_nil))))) pa_nil)))))
(pss_one (ps_ret (pe_op op_cat (pv 2) (pe_lst (pa_cons (pe_tup (pa_cons pe_str (pa_cons pe_str (pa_cons (pe_tup pa_nil) (pa_cons pe_str pa_nil))))) pa_nil))))))))))))), ?_⟩
    unfold tSeq tAsg
    refine rd_lst (rs := mn2.take 2) (by decide +kernel) (by decide) fun H1 l1 us1 s1 n1 e1 r1 => ?_
    refine ⟨.ref l1, rfl, ?_⟩
    refine rd_lst (rs := mn2.drop 2) (by decide +kernel) (by decide) fun H2 l2 us2 s2 n2 e2 r2 => ?_
    have s12 := s1.trans s2
    refine ⟨l1, l2, us1, us2, rfl, rfl, s2 _ _ e1, e2, ?_, fun l3 n3 => ?_⟩
    · rw [r1.len, r2.len]
      exact szle
    have s13 := s12.trans (Same.new (o := .lst (us1 ++ us2)) n3)
    have e3 : upd H2 l3 (.lst (us1 ++ us2)) l3 = some (.lst (us1 ++ us2)) := upd_same
    have r3 : All2 (RO (upd H2 l3 (.lst (us1 ++ us2)))) (us1 ++ us2) mn2 := All2.app (ROs.same (s2.trans (Same.new n3)) r1) (ROs.same (Same.new n3) r2)
    have n3' : H l3 = none := s12.free n3
    generalize upd H2 l3 (.lst (us1 ++ us2)) = H3 at s13 e3 r3
    have : i = 0 ∨ i = 1 ∨ i = 2 ∨ i = 3 ∨ i = 4 := by omega
    rcases this with rfl | rfl | rfl | rfl | rfl
    · refine ⟨_, rfl, rfl, _, rfl, ite2 (fun _ => ?_) (fun e => absurd (by decide) e)⟩
      exact rd_lst (rs := mn0) (by decide +kernel) (by decide) fun H4 l us s4 nl e4 r4 => q H4 l us mn0 mn0_tr (s13.trans s4) (s13.free nl) e4 r4
    · refine ⟨_, rfl, rfl, _, rfl, ite2 (fun e => absurd e (by decide)) (fun _ => ?_)⟩
      refine ⟨_, rfl, rfl, _, rfl, ite2 (fun _ => ?_) (fun e => absurd (by decide) e)⟩
      exact rd_lst (rs := mn1) (by decide +kernel) (by decide) fun H4 l us s4 nl e4 r4 => q H4 l us mn1 mn1_tr (s13.trans s4) (s13.free nl) e4 r4
    · refine ⟨_, rfl, rfl, _, rfl, ite2 (fun e => absurd e (by decide)) (fun _ => ?_)⟩
      refine ⟨_, rfl, rfl, _, rfl, ite2 (fun e => absurd e (by decide)) (fun _ => ?_)⟩
      refine ⟨_, rfl, rfl, _, rfl, ite2 (fun _ => ?_) (fun e => absurd (by decide) e)⟩
      exact ⟨.ref l3, rfl, q H3 l3 _ mn2 mn2_tr s13 n3' e3 r3⟩
    · refine ⟨_, rfl, rfl, _, rfl, ite2 (fun e => absurd e (by decide)) (fun _ => ?_)⟩
      refine ⟨_, rfl, rfl, _, rfl, ite2 (fun e => absurd e (by decide)) (fun _ => ?_)⟩
      refine ⟨_, rfl, rfl, _, rfl, ite2 (fun e => absurd e (by decide)) (fun _ => ?_)⟩
      refine ⟨_, rfl, rfl, _, rfl, ite2 (fun _ => ?_) (fun e => absurd (by decide) e)⟩
      unfold tRet tOp
      refine rd_lst (rs := mn3.take 1) (by decide +kernel) (by decide) fun H4 l4 us4 s4 n4 e4 r4 => ?_
      refine ⟨.ref l3, rfl, 1, rfl, l3, _, rfl, SqL.of (s4 _ _ e3), fun l5 n5 => ?_⟩
      rw [show cutV (us1 ++ us2) (some 1) none = (us1 ++ us2).drop 1 from cutV_fr _ 1]
      have r5 : All2 (RO H4) ((us1 ++ us2).drop 1) (mn3.drop 1) := show All2 (RO H4) ((us1 ++ us2).drop 1) (mn2.drop 1) from All2.drop1 (ROs.same s4 r3)
      have t5 := Same.new (o := .lst ((us1 ++ us2).drop 1)) n5
      refine ⟨l4, l5, us4, _, rfl, rfl, t5 _ _ e4, upd_same, ?_, fun l6 n6 => ?_⟩
      · rw [r4.len, r5.len]
        exact szle
      have t6 := Same.new (o := .lst (us4 ++ (us1 ++ us2).drop 1)) n6
      exact q _ l6 _ mn3 mn3_tr (s13.trans (s4.trans (t5.trans t6))) ((s13.trans (s4.trans t5)).free n6) upd_same (All2.app (ROs.same (t5.trans t6) r4) (ROs.same (t5.trans t6) r5))
    · refine ⟨_, rfl, rfl, _, rfl, ite2 (fun e => absurd e (by decide)) (fun _ => ?_)⟩
      refine ⟨_, rfl, rfl, _, rfl, ite2 (fun e => absurd e (by decide)) (fun _ => ?_)⟩
      refine ⟨_, rfl, rfl, _, rfl, ite2 (fun e => absurd e (by decide)) (fun _ => ?_)⟩
      refine ⟨_, rfl, rfl, _, rfl, ite2 (fun e => absurd e (by decide)) (fun _ => ?_)⟩
      unfold tNext
      dsimp only
      refine rd_lst (rs := mn4.take 2) (by decide +kernel) (by decide) fun H4 l4 us4 s4 n4 e4 r4 => ?_
      refine ⟨.ref l4, rfl, ?_⟩
      refine rd_lst (rs := (mn4.drop 2).take 2) (by decide +kernel) (by decide) fun H5 l5 us5 s5 n5 e5 r5 => ?_
      refine ⟨l4, l5, us4, us5, rfl, rfl, s5 _ _ e4, e5, ?_, fun l6 n6 => ?_⟩
      · rw [r4.len, r5.len]
        exact szle
      have t6 := Same.new (o := .lst (us4 ++ us5)) n6
      have e6 : upd H5 l6 (.lst (us4 ++ us5)) l6 = some (.lst (us4 ++ us5)) := upd_same
      have r6 : All2 (RO (upd H5 l6 (.lst (us4 ++ us5)))) (us4 ++ us5) (mn4.take 4) := All2.app (ROs.same (s5.trans t6) r4) (ROs.same t6 r5)
      generalize upd H5 l6 (.lst (us4 ++ us5)) = H6 at t6 e6 r6
      refine ⟨.ref l6, rfl, ?_⟩
      refine rd_lst (rs := mn4.drop 4) (by decide +kernel) (by decide) fun H7 l7 us7 s7 n7 e7 r7 => ?_
      refine ⟨l6, l7, _, us7, rfl, rfl, s7 _ _ e6, e7, ?_, fun l8 n8 => ?_⟩
      · rw [r6.len, r7.len]
        exact szle
      have t8 := Same.new (o := .lst ((us4 ++ us5) ++ us7)) n8
      have s17 := s13.trans (s4.trans (s5.trans (t6.trans s7)))
      exact q _ l8 _ mn4 mn4_tr (s17.trans t8) (s17.free n8) upd_same (All2.app (ROs.same (s7.trans t8) r6) (ROs.same t8 r7))
end
end TW

namespace TW
open PySem PySem.Spec PyProof.Rows L2
abbrev chL (l : List Nat) : List V := l.map fun c => V.str (mk [c])
/-- [f(c) for c in text if p(c)], f and p pure -/
theorem lc_filtS {n : List Nat} {tt : TT} {te : TE} {s : Nat} {σ : L2.St} {H1 : Hp} {D : Addr} {Qd : Hp → Prop} (p : Nat → Bool) (g : Nat → V) (nD : H1 D = none) (small : n.length ≤ 1000)
    (h2 : ∀ x : V, wipe ((wipe σ [s]).set s (some x)) [s] = wipe σ [s]) (ht : ∀ (c : Nat) (H' : Hp) (Q : Bool → Hp → Prop), c ∈ n → Same H1 H' → Q (p c) H' → tt ((wipe σ [s]).set s (some (.str (mk [c])))) H' Q)
    (he : ∀ (c : Nat) (H' : Hp) (Q : VK), c ∈ n → Same H1 H' → Q (g c) H' → te ((wipe σ [s]).set s (some (.str (mk [c])))) H' Q) (q : Qd (upd H1 D (.lst ((n.filter p).map g)))) :
    LcGoal (Its (mk n)) (gName s) tt te [s] σ H1 D Qd := by
  have sm : ∀ l : List V, Same H1 (upd H1 D (.lst l)) := fun l => Same.new nD
  have ge : ∀ (i : Nat) (x : Nat), (mk n).cps[i]? = some x → n[i]? = some x := fun i x h => by
    rw [← List.getElem?_toArray]
    exact h
  refine lc_it walk_str (fun i H3 => i ≤ n.length ∧ H3 = upd H1 D (.lst (((n.take i).filter p).map g))) ⟨Nat.zero_le _, rfl⟩ (fun _ _ _ _ => trivial) ?_ ?_
  · rintro i x H3 H4 hi ⟨_, rfl⟩ ⟨rfl, c1, hc1, rfl⟩
    have gi := ge i c1 hc1
    have hlt : i < n.length := (List.getElem?_eq_some_iff.mp gi).1
    have cm := List.mem_of_getElem? gi
    refine ⟨h2 _, ?_⟩
    have et : (n.take (i + 1)).filter p = (n.take i).filter p ++ (if p c1 then [c1] else []) := by
      rw [take_get gi, List.filter_append, List.filter_cons]
      rfl
    refine ht c1 _ _ cm (sm _) ?_
    cases e : p c1 with
    | true =>
      rw [if_pos e] at et
      rw [if_pos rfl]
      refine he c1 _ _ cm (sm _) ⟨_, upd_same, ?_, hlt, ?_⟩
      · have := List.length_filter_le p (n.take i)
        rw [List.length_take] at this
        rw [List.length_map]
        exact small1000 (by omega)
      · rw [upd_upd, et, List.map_append]
        rfl
    | false =>
      rw [if_neg (by rw [e]; exact Bool.false_ne_true), List.append_nil] at et
      rw [if_neg Bool.false_ne_true]
      exact ⟨hlt, by rw [et]⟩
  · rintro H3 ⟨_, rfl⟩
    rw [show (mk n).cps.size = n.length from rfl, List.take_length]
    exact q
/-- [f(x) for x in list if p(x)], the list's values of a kind, f and p pure -/
theorem lc_filtL {K : PySem.W.Frag} {a : Addr} {α : Type} {xs : List α} {h : α → V} {tt : TT} {te : TE} {s : Nat} {σ : L2.St} {H1 : Hp} {D : Addr} {Qd : Hp → Prop} (p : α → Bool) (g : α → V) (hl : SqL K H1 a (xs.map h)) (nD : H1 D = none) (small : xs.length ≤ 1000)
    (h2 : ∀ x : V, wipe ((wipe σ [s]).set s (some x)) [s] = wipe σ [s]) (ht : ∀ (c : α) (H' : Hp) (Q : Bool → Hp → Prop), c ∈ xs → Same H1 H' → Q (p c) H' → tt ((wipe σ [s]).set s (some (h c))) H' Q)
    (he : ∀ (c : α) (H' : Hp) (Q : VK), c ∈ xs → Same H1 H' → Q (g c) H' → te ((wipe σ [s]).set s (some (h c))) H' Q) (q : Qd (upd H1 D (.lst ((xs.filter p).map g)))) :
    LcGoal (Itl K a) (gName s) tt te [s] σ H1 D Qd := by
  have sm : ∀ l : List V, Same H1 (upd H1 D (.lst l)) := fun l => Same.new nD
  refine lc_list (xs := xs.map h) (fun i H3 => i ≤ xs.length ∧ H3 = upd H1 D (.lst (((xs.take i).filter p).map g))) ⟨Nat.zero_le _, rfl⟩ ?_ ?_ ?_
  · rintro i H3 _ ⟨_, rfl⟩
    exact (sm _).seq hl
  · rintro i x H3 hx ⟨_, rfl⟩
    rw [List.getElem?_map] at hx
    cases gi : xs[i]? with
    | none => rw [gi] at hx; cases hx
    | some c1 =>
    rw [gi] at hx
    have ex := (Option.some.inj hx).symm
    subst ex
    have hlt : i < xs.length := (List.getElem?_eq_some_iff.mp gi).1
    have cm := List.mem_of_getElem? gi
    refine ⟨h2 _, ?_⟩
    have et : (xs.take (i + 1)).filter p = (xs.take i).filter p ++ (if p c1 then [c1] else []) := by
      rw [take_get gi, List.filter_append, List.filter_cons]
      rfl
    refine ht c1 _ _ cm (sm _) ?_
    cases e : p c1 with
    | true =>
      rw [if_pos e] at et
      rw [if_pos rfl]
      refine he c1 _ _ cm (sm _) ⟨_, upd_same, ?_, hlt, ?_⟩
      · have := List.length_filter_le p (xs.take i)
        rw [List.length_take] at this
        rw [List.length_map]
        exact small1000 (by omega)
      · rw [upd_upd, et, List.map_append]
        rfl
    | false =>
      rw [if_neg (by rw [e]; exact Bool.false_ne_true), List.append_nil] at et
      rw [if_neg Bool.false_ne_true]
      exact ⟨hlt, by rw [et]⟩
  · rintro H3 ⟨_, rfl⟩
    rw [List.length_map, List.take_length]
    exact q
/-! ### forms: plain -/
theorem cnt_count (c : Nat) : ∀ l : List Nat, cnt c l = ((l.count c : Nat) : Int)
  | [] => rfl
  | x :: r => by
    rw [cnt_cons, cnt_count c r, List.count_cons]
    by_cases h : x = c
    · subst h
      simp
      omega
    · simp [h]
/-- the sign of a beginning -/
def sS : List Nat → List Nat
  | [] => []
  | c :: _ => if digC c then [48] else [c]
theorem shaped_ok {c0 : Nat} {os ex : List Nat} {ws : List (List Nat)} (wl : ws.length ≤ 3) (hp : os.Perm ((plc ws.length).filter (fun c => decide (c ≠ c0)) ++ ex)) (hx : ∀ c ∈ ex, c ∈ fsS.cps.toList) (xl : ex.length ≤ 4)
    (hc : c0 ∈ fsS.cps.toList ∨ (c0 ∈ plc ws.length ∧ ws[c0 - 49]? = some digW)) : FmOk (c0 :: os) ws := by
  have pl : (plc ws.length).length ≤ 3 := by
    rw [List.length_take]
    exact Nat.min_le_right _ _
  have ol := hp.length_eq
  rw [List.length_append] at ol
  have fl := List.length_filter_le (fun c => decide (c ≠ c0)) (plc ws.length)
  refine ⟨wl, Nat.succ_le_succ (Nat.zero_le _), by rw [List.length_cons]; omega, fun c h => ?_, fun p h => ?_, fun c r e h => ?_⟩
  · rcases List.mem_cons.mp h with rfl | h
    · exact hc.imp id And.left
    · rcases List.mem_append.mp (hp.mem_iff.mp h) with z | z
      · exact .inr (List.mem_filter.mp z).1
      · exact .inl (hx c z)
  · have pd : digC p = true := by rcases plc_sub h with rfl | rfl | rfl <;> rfl
    have ex0 : ex.count p = 0 := List.count_eq_zero_of_not_mem fun z => by
      rw [fs_nodig p (hx p z)] at pd
      cases pd
    have p1 : (plc ws.length).count p = 1 := by
      have : ∀ n, n ≤ 3 → ∀ p ∈ plc n, (plc n).count p = 1 := by decide
      exact this _ wl p h
    rw [cnt_cons, cnt_count, hp.count_eq, List.count_append, ex0]
    by_cases e : c0 = p
    · have z0 : ((plc ws.length).filter (fun c => decide (c ≠ c0))).count p = 0 := List.count_eq_zero_of_not_mem fun z => by
        have := of_decide_eq_true (List.mem_filter.mp z).2
        exact this e.symm
      rw [if_pos e, z0]
      rfl
    · have z1 : ((plc ws.length).filter (fun c => decide (c ≠ c0))).count p = (plc ws.length).count p := List.count_filter (by rw [decide_eq_true (Ne.symm e)])
      rw [if_neg e, z1, p1]
      rfl
  · have ec := (List.cons.inj e).1
    subst ec
    rcases hc with z | z
    · have pd : digC c0 = true := by rcases plc_sub h with rfl | rfl | rfl <;> rfl
      rw [fs_nodig c0 z] at pd
      cases pd
    · exact z.2
theorem ins_perm (l : List Nat) (c k : Nat) : (l.take k ++ [c] ++ l.drop k).Perm (c :: l) := by
  rw [List.append_assoc]
  show (l.take k ++ (c :: l.drop k)).Perm _
  refine List.perm_middle.trans ?_
  rw [List.take_append_drop]
theorem join_ch : ∀ l : List Nat, Str.join (mk []) (l.map fun c => mk [c]) = mk l
  | [] => rfl
  | [c] => rfl
  | c :: d :: r => by
    show mk [c] ++ mk [] ++ Str.join (mk []) ((d :: r).map fun c => mk [c]) = mk (c :: d :: r)
    rw [join_ch (d :: r), mk_app, mk_app]
    rfl
theorem fs_at : ∀ j : Nat, j < 49 → ∃ c, fsS.cps.toList[j]? = some c ∧ c ∈ fsS.cps.toList := by decide +kernel
theorem fs_len : fsS.length = 49 := by decide +kernel
theorem fs_nodup : (fsS.cps.toList.map fun c => [c]).Nodup := by decide +kernel
theorem fs_left {ss : List (List Nat)} (h : ss.length ≤ 40) : 0 < (fsS.cps.toList.filter fun c => decide ([c] ∉ ss)).length := by
  refine Nat.pos_of_ne_zero fun z => ?_
  have all : ∀ x ∈ fsS.cps.toList.map fun c => [c], x ∈ ss := fun x hx => by
    obtain ⟨c, hc, rfl⟩ := List.mem_map.mp hx
    refine Decidable.byContradiction fun y => ?_
    exact List.filter_eq_nil_iff.mp (List.length_eq_zero_iff.mp z) c hc (decide_eq_true y)
  have := pig (fsS.cps.toList.map fun c => [c]) ss fs_nodup all
  rw [List.length_map] at this
  have l : fsS.cps.toList.length = 49 := fs_len
  omega
theorem Frm.updN {S : Addr → Prop} {H H' : Hp} {q : Addr} {o : HO} (f : Frm S H H') (n : H q = none) : Frm S H (upd H' q o) := fun b x nb e => by
  rw [upd_ne (ne_of_none e n)]
  exact f b x nb e
theorem plc_step : ∀ n : Nat, n ≤ 3 → ∀ i : Nat, i < n → (plc n).take (i + 1) = (plc n).take i ++ [49 + i] := by decide
theorem plc_len {n : Nat} (h : n ≤ 3) : (plc n).length = n := by
  rw [List.length_take]
  exact Nat.min_eq_left h
theorem chL_strs (l : List Nat) : chL l = (((l.map fun c => [c]).map mk).map V.str) := by
  rw [List.map_map, List.map_map]
  rfl
theorem chL_strL (l : List Nat) : chL l = strL (l.map fun c => [c]) := by
  show _ = (l.map fun c => [c]).map _
  rw [List.map_map]
  rfl
theorem chL_app (a b : List Nat) : chL (a ++ b) = chL a ++ chL b := List.map_append
def sp_shaped : Sp := fun vs H Q _ => ∃ (p r wa sl : Addr) (ws ss : List (List Nat)), vs = [.ref p, .ref wa, .ref sl] ∧ PoolAt H p r ∧ sl ≠ p ∧ sl ≠ r ∧ H wa = some (.tup (strL ws)) ∧ H sl = some (.lst (strL ss)) ∧ ws.length ≤ 3 ∧ ss.length ≤ 40 ∧
  ∀ H' f, FmOk f ws → sS f ∉ ss → Frm (PRM p r sl) H H' → PoolAt H' p r → H' sl = some (.lst (strL (ss ++ [sS f]))) → Q (.str (mk f)) H'
section
variable {P : Program} {w : World} {K : PySem.W.Frag} {mg : Str → Option Value} {base : Heap}
theorem ok_shaped (T : Tx K mg) (G_law_draw : FnR P w K mg base CX0 1 (He.ga K "_law_draw") sp_draw) : FnR P w K mg base CX0 2 (He.ga K "_law_shaped") sp_shaped := by
  refine fnR0 T.d_law_shaped sc_law_shaped (fun _ _ _ _ _ _ us hl => match us, hl with | [_, _, _], _ => rfl) (fun vs H Q E h => ?_) (fun cdv A outer s H vs Q E hr h => ?_)
  · obtain ⟨p, r, wa, sl, ws, ss, rfl, _⟩ := h
    rfl
  · obtain ⟨p, r, wa, sl, ws, ss, rfl, hP, np, nr, hwa, hsl, wl, s40, q⟩ := h
    refine ⟨_, (pss_cons (ps_set (i := 3) sc_law_shaped.nd rfl (.inl rfl) pe_str)
(pss_cons (ps_setLc (i := 4) (own := [("_law_sign", 11)]) (g := gName 11) rfl sc_law_shaped.nd rfl rfl (sw_true rfl rfl rfl (by decide +kernel)) (pi_str (pv 3)) (blkOk_by (own := [("_law_sign", 11)]) (N := N_law_shaped) (sc := defScope s_law_shaped) (by decide +kernel)) (fun _ _ _ _ _ => pg_name (i := 11) sc_law_shaped.nd rfl (.inl rfl)) (fun _ _ _ _ _ => (pts_one (pt_cmpR (r := rIn K true) op_notIn_seq (pv 11) (pv 2) (by rfl)))) (fun _ _ _ _ _ => (pv 11)))
(pss_cons (ps_set (i := 5) sc_law_shaped.nd rfl (.inl rfl) (pe_ix (r := rIxL K) ix_list (pv 4) (pe_cr G_law_draw (hr.mono (by omega)) (by rfl) T.v_law_draw T.k_law_draw pass0 (pa_cons (pv 0) (pa_cons (pe_callB call_len (by rfl) T.z_len (by decide +kernel) (pa_cons (pv 4) pa_nil)) pa_nil))) (fun _ _ => rfl)))
(pss_cons (ps_setLc (i := 6) (own := [("_law_k", 10)]) (g := gName 10) rfl sc_law_shaped.nd rfl rfl (sw_true rfl rfl rfl (by decide +kernel)) (pi_range1 (by rfl) T.z_range (pa_cons (pe_callB call_len (by rfl) T.z_len (by decide +kernel) (pa_cons (pv 1) pa_nil)) pa_nil)) (blkOk_by (own := [("_law_k", 10)]) (N := N_law_shaped) (sc := defScope s_law_shaped) (by decide +kernel)) (fun _ _ _ _ _ => pg_name (i := 10) sc_law_shaped.nd rfl (.inl rfl)) (fun _ _ _ _ _ => pts_nil) (fun _ _ _ _ _ => (pe_callTy call_str_int (by rfl) T.z_str (by decide +kernel) (pa_cons (pe_op op_add (pv 10) pe_int) pa_nil))))
(pss_cons (ps_setLc (i := 7) (own := [("_law_place", 9)]) (g := gName 9) rfl sc_law_shaped.nd rfl rfl (sw_true rfl rfl rfl (by decide +kernel)) (pi_list (pv 6)) (blkOk_by (own := [("_law_place", 9)]) (N := N_law_shaped) (sc := defScope s_law_shaped) (by decide +kernel)) (fun _ _ _ _ _ => pg_name (i := 9) sc_law_shaped.nd rfl (.inl rfl)) (fun _ _ _ _ _ => (pts_one (pt_cmpR op_eq (pe_ix (r := rIxT K) ix_tup (pv 1) (pe_op op_sub (pe_callTy call_int_str (by rfl) T.z_int (by decide +kernel) (pa_cons (pv 9) pa_nil)) pe_int) (fun _ _ => rfl)) pe_str (nomark _)))) (fun _ _ _ _ _ => (pv 9)))
(pss_mid (ps_if (PW.pt (pw_and (pt_cmpR (op_neD hr.units) (pv 7) (pe_lst pa_nil) (nomark _)) (pw_and (pt_cmpR (r := rIn K true) op_notIn_seq pe_str (pv 2) (by rfl)) (pw_and1 (pt_cmpR op_eq (pe_cr G_law_draw (hr.mono (by omega)) (by rfl) T.v_law_draw T.k_law_draw pass0 (pa_cons (pv 0) (pa_cons pe_int pa_nil))) pe_int (nomark _))))))
(pss_cons (ps_set (i := 5) sc_law_shaped.nd rfl (.inl rfl) (pe_ix (r := rIxL K) ix_list (pv 7) (pe_cr G_law_draw (hr.mono (by omega)) (by rfl) T.v_law_draw T.k_law_draw pass0 (pa_cons (pv 0) (pa_cons (pe_callB call_len (by rfl) T.z_len (by decide +kernel) (pa_cons (pv 7) pa_nil)) pa_nil))) (fun _ _ => rfl)))
(pss_one (ps_expr (pe_bm PySem.F.plainAttrs_list PySem.F.slot_list_append PySem.F.type_list_append mt_append (pv 2) (pa_cons pe_str pa_nil)))))
(pss_one (ps_expr (pe_bm PySem.F.plainAttrs_list PySem.F.slot_list_append PySem.F.type_list_append mt_append (pv 2) (pa_cons (pv 5) pa_nil)))))
(pss_cons (ps_set (i := 8) sc_law_shaped.nd rfl (.inl rfl) (pe_lst pa_nil))
(pss_cons (ps_for PassesOwn.never rfl (pi_list (pv 6)) (pg_name (i := 9) sc_law_shaped.nd rfl (.inl rfl))
(pss_one (ps_if (pt_cmpR op_ne (pv 9) (pv 5) (nomark _))
(pss_one (ps_expr (pe_bm PySem.F.plainAttrs_list PySem.F.slot_list_insert PySem.F.type_list_insert mt_insert (pv 8) (pa_cons (pe_cr G_law_draw (hr.mono (by omega)) (by rfl) T.v_law_draw T.k_law_draw pass0 (pa_cons (pv 0) (pa_cons (pe_op op_add (pe_callB call_len (by rfl) T.z_len (by decide +kernel) (pa_cons (pv 8) pa_nil)) pe_int) pa_nil))) (pa_cons (pv 9) pa_nil)))))
pss_nil)))
(pss_cons (ps_for PassesOwn.never rfl (pi_range1 (by rfl) T.z_range (pa_cons (pe_cr G_law_draw (hr.mono (by omega)) (by rfl) T.v_law_draw T.k_law_draw pass0 (pa_cons (pv 0) (pa_cons pe_int pa_nil))) pa_nil)) (pg_name (i := 10) sc_law_shaped.nd rfl (.inl rfl))
(pss_one (ps_expr (pe_bm PySem.F.plainAttrs_list PySem.F.slot_list_insert PySem.F.type_list_insert mt_insert (pv 8) (pa_cons (pe_cr G_law_draw (hr.mono (by omega)) (by rfl) T.v_law_draw T.k_law_draw pass0 (pa_cons (pv 0) (pa_cons (pe_op op_add (pe_callB call_len (by rfl) T.z_len (by decide +kernel) (pa_cons (pv 8) pa_nil)) pe_int) pa_nil))) (pa_cons (pe_ix ix_str (pv 3) (pe_cr G_law_draw (hr.mono (by omega)) (by rfl) T.v_law_draw T.k_law_draw pass0 (pa_cons (pv 0) (pa_cons pe_int pa_nil))) (fun _ _ => rfl)) pa_nil))))))
(pss_one (ps_ret (pe_op op_add_str (pv 5) (pe_join pe_str (pv 8)))))))))))))), ?_⟩
    -- left
    refine ⟨.str fsS, rfl, mk fsS.cps.toList, by rw [mk_of], fun D nD => ?_⟩
    refine lc_filtS (n := fsS.cps.toList) (fun c => decide ([c] ∉ ss)) (fun c => .str (mk [c])) nD (by show fsS.length ≤ 1000; rw [fs_len]; decide) (fun _ => rfl) (fun c H' Q' hc s' q' => ?_) (fun c H' Q' hc s' q' => ⟨_, rfl, q'⟩) ?_
    · refine ⟨_, rfl, .ref sl, rfl, sl, _, rfl, .inl (SqL.of (s' _ _ hsl)), rfl, flat_strL _, _, rfl, ?_⟩
      rw [if_pos rfl, in_strL]
      by_cases e : [c] ∈ ss
      · rw [decide_eq_true e]
        rw [decide_eq_false (fun z => z e)] at q'
        exact q'
      · rw [decide_eq_false e]
        rw [decide_eq_true e] at q'
        exact q'
    obtain ⟨lf, elf⟩ : ∃ lf, lf = fsS.cps.toList.filter (fun c => decide ([c] ∉ ss)) := ⟨_, rfl⟩
    have lpos := fs_left s40
    rw [← elf] at lpos ⊢
    have llen : lf.length ≤ 49 := by
      have := List.length_filter_le (fun c => decide ([c] ∉ ss)) fsS.cps.toList
      rw [← elf] at this
      exact Nat.le_trans this (by show fsS.length ≤ 49; rw [fs_len]; decide)
    have lmem : ∀ c ∈ lf, c ∈ fsS.cps.toList ∧ [c] ∉ ss := fun c hc => by
      rw [elf] at hc
      obtain ⟨h1, h2⟩ := List.mem_filter.mp hc
      exact ⟨h1, of_decide_eq_true h2⟩
    have D1 : Drew p r H (upd H D (.lst (chL lf))) := (Drew.refl hP).new nD
    have e1 : upd H D (.lst (chL lf)) D = some (.lst (chL lf)) := upd_same
    generalize upd H D (.lst (chL lf)) = H1 at D1 e1
    have nPD : ¬ PR p r D := fun z => PoolAt.some hP D z nD
    have nPs : ¬ PR p r sl := fun z => z.elim np nr
    have nPw : ¬ PR p r wa := fun z => by
      obtain ⟨xs, ex⟩ := hP.lst wa z _ hwa
      cases ex
    have Ds : D ≠ sl := (ne_of_none hsl nD).symm
    have ws' : wa ≠ sl := fun z => by rw [z, hsl] at hwa; cases hwa
    -- form
    refine ⟨.ref D, rfl, .ref p, rfl, .ref D, rfl, .ref D, lf.length, rfl, .inl ⟨_, SqL.of e1, (List.length_map _).symm⟩, p, r, (lf.length : Int), rfl, by omega, by omega, D1.pool, fun H2 v v0 v1 D2 => ?_⟩
    obtain ⟨x0, ex0, mx0⟩ := atI_get (xs := chL lf) v0 (by rw [List.length_map]; exact v1)
    obtain ⟨f0, mf0, rfl⟩ := List.mem_map.mp mx0
    have D02 := D1.trans D2
    have e2 := D2.frm _ _ nPD e1
    refine ⟨D, _, v, _, rfl, rfl, SqL.of e2, ex0, ?_⟩
    have hwa2 := D02.frm _ _ nPw hwa
    have hsl2 := D02.frm _ _ nPs hsl
    have wsl : (strL ws).length = ws.length := List.length_map _
    -- places
    refine ⟨.ref wa, rfl, .ref wa, ws.length, rfl, .inr ⟨_, SqT.of hwa2, wsl.symm⟩, ws.length, rfl, by omega, by omega, fun C nC => ?_⟩
    have pL := plc_len wl
    refine lc_range (lo := 0) (n := ((ws.length : Int)).toNat) (fun i H3 => i ≤ ws.length ∧ H3 = upd H2 C (.lst (chL ((plc ws.length).take i)))) ⟨Nat.zero_le _, rfl⟩ ?_ ?_
    · rintro i H3 hi ⟨_, rfl⟩
      have il : i < ws.length := hi
      have ei : (0 : Int) + (i : Nat) + 1 = ((i + 1 : Nat) : Int) := by omega
      refine ⟨rfl, _, rfl, _, 1, rfl, rfl, 0 + (i : Nat) + 1, rfl, ?_, ?_⟩
      · rw [ei]
        have : ∀ i : Nat, i ≤ 9 → (i : Int).natAbs.log2 < 1920 := by decide +kernel
        exact this _ (by omega)
      · rw [ei, str_mk (i + 1) (by omega), show 48 + (i + 1) = 49 + i by omega]
        refine ⟨_, upd_same, small1000 ?_, il, ?_⟩
        · rw [List.length_map, List.length_take]
          omega
        · rw [upd_upd, plc_step _ wl i il, chL_app]
          rfl
    rintro H3 ⟨_, rfl⟩
    rw [show (plc ws.length).take ((ws.length : Int)).toNat = plc ws.length from List.take_of_length_le (by rw [pL]; exact Nat.le_refl _)]
    have D3 := D02.new (o := .lst (chL (plc ws.length))) nC
    have e3 : upd H2 C (.lst (chL (plc ws.length))) C = some (.lst (chL (plc ws.length))) := upd_same
    have s3 := Same.new (o := .lst (chL (plc ws.length))) nC
    generalize upd H2 C (.lst (chL (plc ws.length))) = H3 at D3 e3 s3
    have nPC : ¬ PR p r C := fun z => PoolAt.some D02.pool C z nC
    have Cs : C ≠ sl := (ne_of_none hsl2 nC).symm
    -- first
    refine ⟨.ref C, rfl, C, rfl, ⟨_, SqL.of e3⟩, fun F nF => ?_⟩
    have pcd : ∀ c ∈ plc ws.length, c = 49 ∨ c = 50 ∨ c = 51 := fun c hc => plc_sub hc
    refine lc_filtL (xs := plc ws.length) (h := fun c => V.str (mk [c])) (fun c => decide (ws[c - 49]? = some digW)) (fun c => .str (mk [c])) (SqL.of e3) nF (by rw [pL]; omega) (fun _ => rfl) (fun c H' Q' hc s' q' => ?_) (fun c H' Q' hc s' q' => ⟨_, rfl, q'⟩) ?_
    · have h1 := plc_idx wl hc
      have h3 := plc_sub hc
      have gw : ws[c - 49]? = some ws[c - 49] := List.getElem?_eq_getElem h1.2
      rw [gw] at q'
      refine ⟨.ref wa, rfl, _, rfl, mk [c], _, rfl, int_dig c (by omega) (by omega), (by rw [mk_len]; show 1 ≤ 640; decide), _, 1, rfl, rfl, wa, strL ws, _, .str (mk ws[c - 49]), rfl, rfl, SqT.of (s' _ _ (D3.frm _ _ nPw hwa)), ?_, rfl, _, rfl, ?_⟩
      · rw [show (((c - 48 : Nat) : Nat) : Int) - 1 = ((c - 49 : Nat) : Int) by omega]
        refine atI_nat ?_
        rw [List.getElem?_map, gw]
        rfl
      · rw [dec_strW]
        by_cases e : ws[c - 49] = digW
        · rw [decide_eq_true e]
          rw [e, decide_eq_true rfl] at q'
          exact q'
        · rw [decide_eq_false e]
          rw [decide_eq_false (fun z => e (Option.some.inj z))] at q'
          exact q'
    obtain ⟨ff, eff⟩ : ∃ ff, ff = (plc ws.length).filter (fun c => decide (ws[c - 49]? = some digW)) := ⟨_, rfl⟩
    rw [← eff]
    have fmem : ∀ c ∈ ff, c ∈ plc ws.length ∧ ws[c - 49]? = some digW := fun c hc => by
      rw [eff] at hc
      obtain ⟨h1, h2⟩ := List.mem_filter.mp hc
      exact ⟨h1, of_decide_eq_true h2⟩
    have flen : ff.length ≤ 3 := by
      have := List.length_filter_le (fun c => decide (ws[c - 49]? = some digW)) (plc ws.length)
      rw [← eff, pL] at this
      omega
    have D4 := D3.new (o := .lst (chL ff)) nF
    have e4 : upd H3 F (.lst (chL ff)) F = some (.lst (chL ff)) := upd_same
    have s4 := Same.new (o := .lst (chL ff)) nF
    generalize upd H3 F (.lst (chL ff)) = H4 at D4 e4 s4
    have nPF : ¬ PR p r F := fun z => PoolAt.some D3.pool F z nF
    have hsl3 := D3.frm _ _ nPs hsl
    have Fs : F ≠ sl := (ne_of_none hsl3 nF).symm
    have c4 := s4 _ _ e3
    have hsl4 := s4 _ _ hsl3
    refine ⟨fun σ' H' => ∃ c0, σ' = [some (.ref p), some (.ref wa), some (.ref sl), some (.str fsS), some (.ref D), some (.str (mk [c0])), some (.ref C), some (.ref F), none, none, none, none] ∧ Frm (PRM p r sl) H H' ∧ PoolAt H' p r ∧ H' sl = some (.lst (strL (ss ++ [sS [c0]]))) ∧ sS [c0] ∉ ss ∧
      (c0 ∈ fsS.cps.toList ∨ (c0 ∈ plc ws.length ∧ ws[c0 - 49]? = some digW)) ∧ H' C = some (.lst (chL (plc ws.length))), ?_, ?_⟩
    · have els : ∀ H5, Drew p r H H5 → H5 sl = some (.lst (strL ss)) → H5 C = some (.lst (chL (plc ws.length))) → Frm (PRM p r sl) H (upd H5 sl (.lst (strL ss ++ [.str (mk [f0])]))) ∧ PoolAt (upd H5 sl (.lst (strL ss ++ [.str (mk [f0])]))) p r ∧ upd H5 sl (.lst (strL ss ++ [.str (mk [f0])])) sl = some (.lst (strL (ss ++ [sS [f0]]))) ∧ sS [f0] ∉ ss ∧
          (f0 ∈ fsS.cps.toList ∨ (f0 ∈ plc ws.length ∧ ws[f0 - 49]? = some digW)) ∧ upd H5 sl (.lst (strL ss ++ [.str (mk [f0])])) C = some (.lst (chL (plc ws.length))) := fun H5 D5 hs hc => by
        have e0 : sS [f0] = [f0] := if_neg (by rw [fs_nodig f0 (lmem f0 mf0).1]; exact Bool.false_ne_true)
        refine ⟨(PRM.of D5).trans (Frm.at (.inr (.inr rfl))), D5.pool.upd np nr, ?_, by rw [e0]; exact (lmem f0 mf0).2, .inl (lmem f0 mf0).1, by rw [upd_ne Cs]; exact hc⟩
        rw [upd_same, e0, strL_app]
        rfl
      have ssl : (strL ss).length ≤ 1000 := by rw [List.length_map]; omega
      refine ⟨.ref F, rfl, Nat.zero_le _, fun z nz => ?_⟩
      have s5 := Same.new (o := .lst []) nz
      have D5 := D4.new (o := .lst []) nz
      have asc : ∀ l ∈ ff.map (fun c => [c]), ∀ c ∈ l, c < 128 := fun l hl c hc => by
        obtain ⟨x, hx, rfl⟩ := List.mem_map.mp hl
        rw [List.mem_singleton.mp hc]
        have := plc_sub (fmem x hx).1
        omega
      refine ⟨.list (((ff.map fun c => [c]).map mk).map PyData.str), .list [], .lst (SqL.of (by rw [s5 _ _ e4, chL_strs])) (dpStrs _), .lst (SqL.of upd_same) .nil, shapedStrs asc, rfl, _, rfl, ?_⟩
      have hsl5 := s5 _ _ hsl4
      have c5 := s5 _ _ c4
      have f5 := s5 _ _ e4
      generalize upd H4 z (.lst []) = H5 at s5 D5 hsl5 c5 f5
      have r0 : ∀ x, inV (V.str (Str.ofString "0")) (strL x) = decide ([48] ∈ x) := fun x => in_strL [48] x
      have goE : ∀ H5, Drew p r H H5 → H5 sl = some (.lst (strL ss)) → H5 C = some (.lst (chL (plc ws.length))) → _ := els
      cases hf : ff with
      | nil => exact iteF (iteF ⟨.ref sl, rfl, .inl ⟨rfl, _, SqL.of hsl5⟩, _, rfl, sl, _, _, rfl, rfl, hsl5, small1000 ssl, f0, rfl, els H5 D5 hsl5 c5⟩)
      | cons f1 fr =>
      refine iteT ⟨.ref sl, rfl, sl, _, rfl, .inl (SqL.of hsl5), rfl, flat_strL _, _, rfl, ?_⟩
      rw [if_pos rfl, r0]
      by_cases e48 : [48] ∈ ss
      · rw [decide_eq_true e48]
        exact iteF (iteF ⟨.ref sl, rfl, .inl ⟨rfl, _, SqL.of hsl5⟩, _, rfl, sl, _, _, rfl, rfl, hsl5, small1000 ssl, f0, rfl, els H5 D5 hsl5 c5⟩)
      rw [decide_eq_false e48]
      refine iteT ⟨.ref p, rfl, p, r, 3, rfl, by decide, by decide, D5.pool, fun H6 x y0 y1 D6 => ⟨rfl, _, rfl, ?_⟩⟩
      have D06 := D5.trans D6
      have hsl6 := D6.frm _ _ nPs hsl5
      have c6 := D6.frm _ _ nPC c5
      have f6 := D6.frm _ _ nPF f5
      by_cases ex : x = 0
      case neg =>
        rw [decide_eq_false (fun z => ex (V.int.inj z))]
        exact iteF ⟨.ref sl, rfl, .inl ⟨rfl, _, SqL.of hsl6⟩, _, rfl, sl, _, _, rfl, rfl, hsl6, small1000 ssl, f0, rfl, els H6 D06 hsl6 c6⟩
      rw [decide_eq_true (show V.int x = V.int 0 by rw [ex])]
      have fpos : 0 < ff.length := by rw [hf]; exact Nat.succ_pos _
      refine iteT ⟨.ref F, rfl, .ref p, rfl, .ref F, rfl, .ref F, ff.length, rfl, .inl ⟨_, SqL.of f6, (List.length_map _).symm⟩, p, r, (ff.length : Int), rfl, by omega, by omega, D06.pool, fun H7 u u0 u1 D7 => ?_⟩
      obtain ⟨xc, exc, mxc⟩ := atI_get (xs := chL ff) u0 (by rw [List.length_map]; exact u1)
      obtain ⟨c0, mc0, rfl⟩ := List.mem_map.mp mxc
      have D07 := D06.trans D7
      have hsl7 := D7.frm _ _ nPs hsl6
      have c7 := D7.frm _ _ nPC c6
      obtain ⟨fm1, fm2⟩ := fmem c0 mc0
      have pd : digC c0 = true := by rcases plc_sub fm1 with rfl | rfl | rfl <;> rfl
      have e0 : sS [c0] = [48] := if_pos pd
      refine ⟨F, _, u, _, rfl, rfl, SqL.of (D7.frm _ _ nPF f6), exc, .ref sl, rfl, .inl ⟨rfl, _, SqL.of hsl7⟩, sl, _, _, rfl, rfl, hsl7, small1000 ssl, c0, rfl, (PRM.of D07).trans (Frm.at (.inr (.inr rfl))), D07.pool.upd np nr, ?_, by rw [e0]; exact e48, .inr ⟨fm1, fm2⟩, by rw [upd_ne Cs]; exact c7⟩
      rw [upd_same, e0, strL_app]
      rfl
    rintro σ' H5 ⟨c0, rfl, F5, P5, hsl5, nin, hc0, c5⟩
    -- order
    refine ⟨Nat.zero_le _, fun ol nol => ?_⟩
    have olP : ¬ PRM p r sl ol := fun z => by
      rcases z with z | z | z
      · exact PoolAt.some P5 ol (.inl z) nol
      · exact PoolAt.some P5 ol (.inr z) nol
      · rw [z, hsl5] at nol
        cases nol
    have ol0 : H ol = none := by
      cases e : H ol with
      | none => rfl
      | some o =>
        rw [F5 ol o olP e] at nol
        cases nol
    have F6 : Frm (PRM p r sl) H (upd H5 ol (.lst [])) := F5.trans (Frm.new nol)
    have P6 : PoolAt (upd H5 ol (.lst [])) p r := P5.keep (Same.new nol)
    have hsl6 := Same.new (o := .lst []) nol _ _ hsl5
    have c6 := Same.new (o := .lst []) nol _ _ c5
    have o6 : upd H5 ol (.lst []) ol = some (.lst (chL [])) := upd_same
    generalize upd H5 ol (.lst []) = H6 at F6 P6 hsl6 c6 o6
    have nolP : ¬ PR p r ol := fun z => olP (z.elim .inl fun y => .inr (.inl y))
    have ols : ol ≠ sl := fun z => olP (.inr (.inr z))
    have olC : C ≠ ol := fun z => by rw [z, nol] at c5; cases c5
    refine ⟨.ref C, rfl, C, rfl, ⟨_, SqL.of c6⟩, for_list (xs := chL (plc ws.length)) (fun i σ' H' => ∃ os y9, σ' = [some (.ref p), some (.ref wa), some (.ref sl), some (.str fsS), some (.ref D), some (.str (mk [c0])), some (.ref C), some (.ref F), some (.ref ol), y9, none, none] ∧ Frm (PRM p r sl) H H' ∧ PoolAt H' p r ∧
      H' sl = some (.lst (strL (ss ++ [sS [c0]]))) ∧ H' C = some (.lst (chL (plc ws.length))) ∧ H' ol = some (.lst (chL os)) ∧ os.Perm (((plc ws.length).take i).filter fun c => decide (c ≠ c0))) ?_ ?_ ?_ ?_⟩
    · exact ⟨[], none, rfl, F6, P6, hsl6, c6, o6, List.Perm.refl _⟩
    · rintro i σ' H' _ ⟨os, y9, _, _, _, _, c7, _⟩
      exact SqL.of c7
    · rintro i x σ' H7 hx ⟨os, y9, rfl, F7, P7, hsl7, c7, o7, pm⟩
      rw [List.getElem?_map] at hx
      cases gi : (plc ws.length)[i]? with
      | none => rw [gi] at hx; cases hx
      | some c =>
      rw [gi] at hx
      have ex := (Option.some.inj hx).symm
      subst ex
      refine ⟨_, rfl, _, rfl, rfl, _, rfl, ?_⟩
      have et : ((plc ws.length).take (i + 1)).filter (fun c => decide (c ≠ c0)) = ((plc ws.length).take i).filter (fun c => decide (c ≠ c0)) ++ (if c = c0 then [] else [c]) := by
        rw [take_get gi, List.filter_append, List.filter_cons]
        by_cases h : c = c0
        · rw [if_pos h, decide_eq_false (fun z => z h)]
          rfl
        · rw [if_neg h, decide_eq_true h]
          rfl
      by_cases e : c = c0
      · rw [if_pos e, List.append_nil] at et
        rw [decide_eq_true (show V.str (mk [c]) = V.str (mk [c0]) by rw [e])]
        exact iteF ⟨os, _, rfl, F7, P7, hsl7, c7, o7, by rw [et]; exact pm⟩
      rw [if_neg e] at et
      rw [decide_eq_false (fun z => e (List.cons.inj (mk_inj (V.str.inj z))).1)]
      have osl : os.length ≤ 3 := by
        rw [pm.length_eq]
        have h1 := List.length_filter_le (fun c => decide (c ≠ c0)) ((plc ws.length).take i)
        rw [List.length_take, pL] at h1
        omega
      have cl : (chL os).length = os.length := List.length_map _
      refine iteT ⟨.ref ol, rfl, .inl ⟨rfl, _, SqL.of o7⟩, .ref p, rfl, .ref ol, rfl, .ref ol, os.length, rfl, .inl ⟨_, SqL.of o7, cl.symm⟩, (os.length : Int), 1, rfl, rfl, p, r, (os.length : Int) + 1, rfl, by omega, by omega, P7, fun H8 v v0 v1 D8 => ?_⟩
      have o8 := D8.frm _ _ nolP o7
      have hsl8 := D8.frm _ _ nPs hsl7
      have c8 := D8.frm _ _ nPC c7
      refine ⟨_, rfl, ol, _, v, _, rfl, rfl, o8, small1000 (by omega), v0, by omega, os.take v.toNat ++ [c] ++ os.drop v.toNat, _, rfl, Frm.updN (F7.trans (PRM.of D8)) ol0, D8.pool.upd (fun z => nolP (.inl z)) (fun z => nolP (.inr z)), by rw [upd_ne ols.symm]; exact hsl8, by rw [upd_ne olC]; exact c8, ?_, ?_⟩
      · rw [upd_same, chL_app, chL_app]
        show some (HO.lst ((chL os).take v.toNat ++ chL [c] ++ (chL os).drop v.toNat)) = _
        rw [← List.map_take, ← List.map_drop]
      · rw [et]
        refine (ins_perm os c v.toNat).trans ?_
        exact (List.Perm.cons c pm).trans (List.perm_append_singleton c _).symm
    rintro σ' H7 ⟨os0, y9, rfl, F7, P7, hsl7, c7, o7, pm⟩
    have hcl : (chL (plc ws.length)).length = ws.length := by rw [List.length_map, pL]
    rw [hcl, List.take_of_length_le (by rw [pL]; exact Nat.le_refl _)] at pm
    have b3 : ((plc ws.length).filter fun c => decide (c ≠ c0)).length ≤ 3 := by
      have h1 := List.length_filter_le (fun c => decide (c ≠ c0)) (plc ws.length)
      rw [pL] at h1
      omega
    refine ⟨.ref p, rfl, p, r, 5, rfl, by decide, by decide, P7, fun H8 m m0 m1 D8 => ?_⟩
    refine ⟨m, rfl, by omega, by omega, for_range (lo := 0) (n := m.toNat) (fun i σ' H' => ∃ os ex y10, σ' = [some (.ref p), some (.ref wa), some (.ref sl), some (.str fsS), some (.ref D), some (.str (mk [c0])), some (.ref C), some (.ref F), some (.ref ol), y9, y10, none] ∧ Frm (PRM p r sl) H H' ∧ PoolAt H' p r ∧
      H' sl = some (.lst (strL (ss ++ [sS [c0]]))) ∧ H' ol = some (.lst (chL os)) ∧ os.Perm (((plc ws.length).filter fun c => decide (c ≠ c0)) ++ ex) ∧ (∀ c ∈ ex, c ∈ fsS.cps.toList) ∧ ex.length = i) ?_ ?_ ?_⟩
    · exact ⟨os0, [], none, rfl, F7.trans (PRM.of D8), D8.pool, D8.frm _ _ nPs hsl7, D8.frm _ _ nolP o7, by rw [List.append_nil]; exact pm, (fun c hc => nomatch hc), rfl⟩
    · rintro i σ' H9 hi ⟨os, ex, y10, rfl, F9, P9, hsl9, o9, pm9, xs9, xl9⟩
      have i4 : i < 4 := by omega
      have osl : os.length ≤ 7 := by
        rw [pm9.length_eq, List.length_append]
        omega
      have cl : (chL os).length = os.length := List.length_map _
      refine ⟨.ref ol, rfl, .inl ⟨rfl, _, SqL.of o9⟩, .ref p, rfl, .ref ol, rfl, .ref ol, os.length, rfl, .inl ⟨_, SqL.of o9, cl.symm⟩, (os.length : Int), 1, rfl, rfl, p, r, (os.length : Int) + 1, rfl, by omega, by omega, P9, fun H10 v v0 v1 D10 => ?_⟩
      refine ⟨_, rfl, .ref p, rfl, p, r, 49, rfl, by decide, by decide, D10.pool, fun H11 u u0 u1 D11 => ?_⟩
      obtain ⟨c, ec, mc⟩ := fs_at u.toNat (by omega)
      have ea : atI fsS.cps.toList u = some c := by
        have := atI_nat ec
        rw [Int.toNat_of_nonneg u0] at this
        exact this
      have D9 := D10.trans D11
      have o11 := D9.frm _ _ nolP o9
      have hsl11 := D9.frm _ _ nPs hsl9
      refine ⟨fsS, u, c, rfl, rfl, by rw [fs_len]; exact szle, ea, ol, _, v, _, rfl, rfl, o11, small1000 (by omega), v0, by omega, os.take v.toNat ++ [c] ++ os.drop v.toNat, ex ++ [c], _, rfl, Frm.updN (F9.trans (PRM.of D9)) ol0, D9.pool.upd (fun z => nolP (.inl z)) (fun z => nolP (.inr z)), by rw [upd_ne ols.symm]; exact hsl11, ?_, ?_, ?_, by rw [List.length_append, xl9]; rfl⟩
      · rw [upd_same, chL_app, chL_app]
        show some (HO.lst ((chL os).take v.toNat ++ chL [c] ++ (chL os).drop v.toNat)) = _
        rw [← List.map_take, ← List.map_drop]
      · refine (ins_perm os c v.toNat).trans ((List.Perm.cons c pm9).trans ?_)
        rw [← List.append_assoc]
        exact (List.perm_append_singleton c _).symm
      · intro x hx
        rcases List.mem_append.mp hx with z | z
        · exact xs9 x z
        · rw [List.mem_singleton.mp z]
          exact mc
    · rintro σ' H9 ⟨os, ex, y10, rfl, F9, P9, hsl9, o9, pm9, xs9, xl9⟩
      have osl : os.length ≤ 7 := by
        rw [pm9.length_eq, List.length_append]
        omega
      have ej : Txt.join (mk []) (os.map fun c => mk [c]) = mk os := (TL.join_eq _ _).trans (join_ch os)
      refine ⟨_, rfl, ⟨_, rfl⟩, .ref ol, rfl, mk [], ol, os.map (fun c => mk [c]), rfl, rfl, .inl (SqL.of (by rw [o9, List.map_map]; rfl)), ?_, ?_⟩
      · have : ((os.map fun c => mk [c]).map (·.length)).sum = os.length := by
          clear pm9 o9 ej osl
          induction os with
          | nil => rfl
          | cons x r ih =>
            rw [List.map_cons, List.map_cons, List.sum_cons, ih, mk_len]
            show 1 + r.length = r.length + 1
            omega
        rw [List.length_map, mk_len, this]
        exact Nat.le_trans (show os.length + os.length * 0 ≤ 1000 by omega) szle
      rw [ej]
      refine ⟨mk [c0], mk os, rfl, rfl, ?_, ?_⟩
      · rw [mk_len, mk_len]
        exact Nat.le_trans (show 1 + os.length ≤ 1000 by omega) szle
      rw [mk_app]
      exact q H9 (c0 :: os) (shaped_ok wl pm9 xs9 (by omega) hc0) nin F9 P9 hsl9
end
end TW

namespace TW
open PySem PySem.Spec PyProof.Rows L2
/-! ### drawn tables are right: plain -/
structure Dr (ks : List (List Nat)) (rs : List Rw) : Prop where
  row : ∀ r ∈ rs, r.kd ∈ ks ∧ bigN r.nm = true ∧ WsOk ks r.ws ∧ FmOk r.fm r.ws
  nms : (rs.map (·.nm)).Nodup
  sts : (rs.map fun r => (r.kd, sS r.fm)).Nodup
structure KsOk (ks : List (List Nat)) : Prop where
  nd : ks.Nodup
  big : ∀ k ∈ ks, bigN k = true
  len : ks.length ≤ 3
/-- the kind of index k has a row over the kinds ahead of it -/
def Gd (ks : List (List Nat)) (rs : List Rw) (k : Nat) : Prop := ∃ r ∈ rs, ks[k]? = some r.kd ∧ ∀ w ∈ r.ws, w = digW ∨ w ∈ ks.take k
theorem Dr.ins {ks : List (List Nat)} {rs rs' : List Rw} {r : Rw} (d : Dr ks rs) (pm : rs'.Perm (r :: rs)) (h : r.kd ∈ ks ∧ bigN r.nm = true ∧ WsOk ks r.ws ∧ FmOk r.fm r.ws) (hn : r.nm ∉ rs.map (·.nm)) (hs : ∀ x ∈ rs, x.kd = r.kd → sS x.fm ≠ sS r.fm) : Dr ks rs' := by
  refine ⟨fun x hx => ?_, ?_, ?_⟩
  · rcases List.mem_cons.mp (pm.mem_iff.mp hx) with rfl | z
    · exact h
    · exact d.row x z
  · rw [(pm.map _).nodup_iff]
    exact List.nodup_cons.mpr ⟨hn, d.nms⟩
  · rw [(pm.map _).nodup_iff]
    refine List.nodup_cons.mpr ⟨fun z => ?_, d.sts⟩
    obtain ⟨x, hx, e⟩ := List.mem_map.mp z
    have e' := Prod.mk.inj e
    exact hs x hx e'.1 e'.2
theorem Gd.perm {ks : List (List Nat)} {rs rs' : List Rw} {r : Rw} {k : Nat} (pm : rs'.Perm (r :: rs)) (h : Gd ks rs k) : Gd ks rs' k := by
  obtain ⟨x, hx, e⟩ := h
  exact ⟨x, pm.mem_iff.mpr (List.mem_cons_of_mem _ hx), e⟩
theorem stW_sS {r r' : Rw} (f : FmOk r.fm r.ws) (f' : FmOk r'.fm r'.ws) (h : stW r = stW r') : sS r.fm = sS r'.fm := by
  obtain ⟨kd, nm, ws, fm⟩ := r
  obtain ⟨kd', nm', ws', fm'⟩ := r'
  cases fm with
  | nil => exact (Nat.not_succ_le_zero _ f.lo).elim
  | cons c l =>
    cases fm' with
    | nil => exact (Nat.not_succ_le_zero _ f'.lo).elim
    | cons c' l' =>
      replace h : (if digC c = true then digW else [c]) = (if digC c' = true then digW else [c']) := h
      show (if digC c = true then [48] else [c]) = (if digC c' = true then [48] else [c'])
      by_cases e : digC c = true
      · by_cases e' : digC c' = true
        · rw [if_pos e, if_pos e']
        · rw [if_pos e, if_neg e'] at h
          cases h
      · by_cases e' : digC c' = true
        · rw [if_neg e, if_pos e'] at h
          cases h
        · rw [if_neg e, if_neg e'] at h ⊢
          exact h
theorem nd_get {α : Type} {l : List α} (h : l.Nodup) {i j : Nat} {x : α} (hi : l[i]? = some x) (hj : l[j]? = some x) : i = j := by
  exact (List.getElem?_inj (List.getElem?_eq_some_iff.mp hi).1 h).mp (hi.trans hj.symm)
theorem kds_sub {ks : List (List Nat)} {rs : List Rw} (h : ∀ r ∈ rs, r.kd ∈ ks) : ∀ k ∈ kds rs, k ∈ ks := fun k hk => by
  rcases (kdsF_sub rs [] List.nodup_nil).2.2.2 k hk with z | ⟨r, hr, rfl⟩
  · cases z
  · exact h r hr
theorem drawn_tr {ks : List (List Nat)} {rs : List Rw} (K : KsOk ks) (d : Dr ks rs) (g : ∀ k, k < ks.length → Gd ks rs k) (hk : 0 < ks.length) (hi : rs.length ≤ 10) : TR rs := by
  have kk : ∀ k ∈ kds rs, k ∈ ks := kds_sub fun r hr => (d.row r hr).1
  have kin : ∀ k ∈ ks, k ∈ kds rs := fun k hk => by
    obtain ⟨i, ei⟩ := List.mem_iff_getElem?.mp hk
    obtain ⟨r, hr, e, _⟩ := g i (List.getElem?_eq_some_iff.mp ei).1
    rw [ei] at e
    rw [Option.some.inj e]
    exact kds_mem hr
  refine ⟨?_, hi, fun i r er => ?_, Nat.le_trans (pig _ _ (kds_nodup rs) kk) K.len, fun r hr w hw => ?_, fun i j r r' hij ei ej ek es => ?_, ⟨fun w => ks.idxOf w, fun k hk => ?_⟩⟩
  · obtain ⟨r, hr, _⟩ := g 0 hk
    exact List.length_pos_of_mem hr
  · have hr := List.mem_of_getElem? er
    obtain ⟨h1, h2, h3, h4⟩ := d.row r hr
    have il := (List.getElem?_eq_some_iff.mp er).1
    refine ⟨K.big _ h1, h2, fun w hw nd => ?_, ?_, fun z => ?_, h3.trees, h4⟩
    · exact K.big _ ((h3.from_ w hw).resolve_left nd)
    · by_cases m : r.kd ∈ kds (rs.take i)
      · exact .inl m
      · refine .inr fun l3 => ?_
        have nd : (r.kd :: kds (rs.take i)).Nodup := List.nodup_cons.mpr ⟨m, kds_nodup _⟩
        have sub : ∀ k ∈ r.kd :: kds (rs.take i), k ∈ ks := fun k hk => by
          rcases List.mem_cons.mp hk with rfl | hk
          · exact h1
          · exact kds_sub (fun x hx => (d.row x (List.mem_of_mem_take hx)).1) k hk
        have := pig _ _ nd sub
        have := K.len
        rw [List.length_cons] at *
        omega
    · obtain ⟨x, hx, ex⟩ := List.mem_map.mp z
      obtain ⟨j, ej⟩ := List.mem_iff_getElem?.mp hx
      have jl := (List.getElem?_eq_some_iff.mp ej).1
      rw [List.length_take] at jl
      rw [List.getElem?_take, if_pos (by omega)] at ej
      have := nd_get d.nms (i := j) (j := i) (x := r.nm) (by rw [List.getElem?_map, ej, ← ex]; rfl) (by rw [List.getElem?_map, er]; rfl)
      omega
  · obtain ⟨_, _, h3, _⟩ := d.row r hr
    exact (h3.from_ w hw).imp id (kin w)
  · have h1 := (d.row r (List.mem_of_getElem? ei)).2.2.2
    have h2 := (d.row r' (List.mem_of_getElem? ej)).2.2.2
    have := nd_get d.sts (i := i) (j := j) (x := (r'.kd, sS r'.fm)) (by rw [List.getElem?_map, ei, ← ek, ← stW_sS h1 h2 es]; rfl) (by rw [List.getElem?_map, ej]; rfl)
    omega
  · obtain ⟨i, ei⟩ := List.mem_iff_getElem?.mp (kk k hk)
    obtain ⟨il, eg⟩ := List.getElem?_eq_some_iff.mp ei
    obtain ⟨r, hr, e, hw⟩ := g i il
    rw [ei] at e
    have ek := Option.some.inj e
    refine ⟨r, hr, ek.symm, fun w hw' => ?_⟩
    rcases hw w hw' with z | z
    · exact .inl z
    · refine .inr ⟨kin w (List.mem_of_mem_take z), ?_⟩
      obtain ⟨j, ej⟩ := List.mem_iff_getElem?.mp z
      have jl := (List.getElem?_eq_some_iff.mp ej).1
      rw [List.length_take] at jl
      rw [List.getElem?_take, if_pos (by omega)] at ej
      obtain ⟨jl2, ew⟩ := List.getElem?_eq_some_iff.mp ej
      show ks.idxOf w < ks.idxOf k
      have h1 := K.nd.idxOf_getElem j jl2
      have h2 := K.nd.idxOf_getElem i il
      rw [ew] at h1
      rw [eg] at h2
      omega
theorem WsOk.take {ks ws : List (List Nat)} {k : Nat} (h : WsOk (ks.take k) ws) : WsOk ks ws := ⟨h.len, fun w hw => (h.from_ w hw).imp id List.mem_of_mem_take, h.trees⟩
theorem atI_last {y : V} (xs : List V) : atI (xs ++ [y]) (-1) = some y := by
  unfold atI ixN
  have l : ((xs ++ [y]).length : Int) = xs.length + 1 := by simp
  rw [if_neg (by decide), if_pos (by rw [l]; omega)]
  show (xs ++ [y])[((-1 : Int) + ((xs ++ [y]).length : Int)).toNat]? = _
  rw [l, show ((-1 : Int) + ((xs.length : Int) + 1)).toNat = xs.length by omega, List.getElem?_append_right (Nat.le_refl _), Nat.sub_self]
  rfl
/-! ### the state of the drawing -/
structure RS (p r kl nl rl : Addr) (H H' : Hp) (ks ns : List (List Nat)) (us : List V) (rs : List Rw) : Prop where
  drew : Drew p r H H'
  k : H' kl = some (.lst (strL ks))
  n : H' nl = some (.lst (strL ns))
  l : H' rl = some (.lst us)
  ro : All2 (RO H') us rs
theorem RS.frm {p r kl nl rl : Addr} {H H1 H2 : Hp} {ks ns : List (List Nat)} {us : List V} {rs : List Rw} {S : Addr → Prop} (f : Frm S H1 H2) (nk : ¬ S kl) (nn : ¬ S nl) (nl' : ¬ S rl) (hL : ∀ b, S b → ∀ o, H1 b = some o → ∃ xs, o = .lst xs) (d : Drew p r H H2)
    (h : RS p r kl nl rl H H1 ks ns us rs) : RS p r kl nl rl H H2 ks ns us rs := ⟨d, f _ _ nk h.k, f _ _ nn h.n, f _ _ nl' h.l, h.ro.imp fun _ _ z => z.kp (f.kp hL)⟩
theorem RS.drew' {p r kl nl rl : Addr} {H H1 H2 : Hp} {ks ns : List (List Nat)} {us : List V} {rs : List Rw} (h : RS p r kl nl rl H H1 ks ns us rs) (d : Drew p r H1 H2) (nk : ¬ PR p r kl) (nn : ¬ PR p r nl) (nl' : ¬ PR p r rl) : RS p r kl nl rl H H2 ks ns us rs :=
  h.frm d.frm nk nn nl' h.drew.pool.lst (h.drew.trans d)
theorem Drew.updN {p r q : Addr} {H H' : Hp} {o : HO} (d : Drew p r H H') (n : H q = none) (nP : ¬ PR p r q) : Drew p r H (upd H' q o) := ⟨Frm.updN d.frm n, d.pool.upd (fun z => nP (.inl z)) (fun z => nP (.inr z))⟩
theorem RS.new {p r kl nl rl q : Addr} {H H1 : Hp} {o : HO} {ks ns : List (List Nat)} {us : List V} {rs : List Rw} (h : RS p r kl nl rl H H1 ks ns us rs) (n : H1 q = none) : RS p r kl nl rl H (upd H1 q o) ks ns us rs :=
  ⟨h.drew.new n, Same.new n _ _ h.k, Same.new n _ _ h.n, Same.new n _ _ h.l, ROs.same (Same.new n) h.ro⟩
def capN : Nat → Nat
  | 1 => 10
  | 2 => 5
  | _ => 3
theorem All2.drop {α β : Type} {R : α → β → Prop} : ∀ {as : List α} {bs : List β} (i : Nat), All2 R as bs → All2 R (as.drop i) (bs.drop i)
  | _, _, 0, h => h
  | _, _, _ + 1, .nil => .nil
  | _, _, i + 1, .cons _ t => All2.drop i t
theorem ins_permG {α : Type} (l : List α) (c : α) (k : Nat) : (l.take k ++ [c] ++ l.drop k).Perm (c :: l) := by
  rw [List.append_assoc]
  show (l.take k ++ (c :: l.drop k)).Perm _
  refine List.perm_middle.trans ?_
  rw [List.take_append_drop]
theorem RS.names {p r kl nl rl : Addr} {H H1 : Hp} {ks ns : List (List Nat)} {us : List V} {rs : List Rw} (h : RS p r kl nl rl H H1 ks ns us rs) (n0 : H nl = none) (nP : ¬ PR p r nl) (nk : kl ≠ nl) (nr : rl ≠ nl) (n : List Nat) : RS p r kl nl rl H (upd H1 nl (.lst (strL ns ++ [.str (TW.mk n)]))) ks (ns ++ [n]) us rs :=
  ⟨h.drew.updN n0 nP, by rw [upd_ne nk]; exact h.k, by rw [upd_same, strL_app]; rfl, by rw [upd_ne nr]; exact h.l, h.ro.imp fun _ _ z => z.kp (Kp.updL h.n)⟩
def sp_rows : Sp := fun vs H Q _ => ∃ (p r : Addr), vs = [.ref p] ∧ PoolAt H p r ∧ ∀ H' l us rs, TR rs → Drew p r H H' → H l = none → H' l = some (.lst us) → All2 (RO H') us rs → Q (.ref l) H'
section
variable {P : Program} {w : World} {K : PySem.W.Frag} {mg : Str → Option Value} {base : Heap}
theorem ok_rows (T : Tx K mg) (G_law_draw : FnR P w K mg base CX0 1 (He.ga K "_law_draw") sp_draw) : FnR P w K mg base CX0 4 (He.ga K "_law_table_rows") sp_rows := by
  have G_law_menu : FnR P w K mg base CX0 1 (He.ga K "_law_menu") sp_menu := ok_menu T
  have G_law_fresh : FnR P w K mg base CX0 3 (He.ga K "_law_fresh") sp_fresh := ok_fresh T G_law_draw
  have G_law_wanted : FnR P w K mg base CX0 2 (He.ga K "_law_wanted") sp_wanted := ok_wanted T G_law_draw
  have G_law_shaped : FnR P w K mg base CX0 2 (He.ga K "_law_shaped") sp_shaped := ok_shaped T G_law_draw
  refine fnR0 T.d_law_table_rows sc_law_table_rows (fun _ _ _ _ _ _ us hl => match us, hl with | [_], _ => rfl) (fun vs H Q E h => ?_) (fun cdv A outer s H vs Q E hr h => ?_)
  · obtain ⟨p, r, rfl, _⟩ := h
    rfl
  · obtain ⟨p, r, rfl, hP, q⟩ := h
    refine ⟨_, (pss_cons (ps_set (i := 1) sc_law_table_rows.nd rfl (.inl rfl) (pe_cr G_law_draw (hr.mono (by omega)) (by rfl) T.v_law_draw T.k_law_draw pass0 (pa_cons (pv 0) (pa_cons pe_int pa_nil))))
(pss_cons (ps_if (pt_cmpR op_lt (pv 1) pe_int (nomark _))
(pss_one (ps_ret (pe_cr G_law_menu (hr.mono (by omega)) (by rfl) T.v_law_menu T.k_law_menu pass0 (pa_cons (pv 1) pa_nil))))
pss_nil)
(pss_cons (ps_set (i := 2) sc_law_table_rows.nd rfl (.inl rfl) (pe_lst pa_nil))
(pss_cons (ps_for PassesOwn.never rfl (pi_range1 (by rfl) T.z_range (pa_cons (pe_op op_add pe_int (pe_cr G_law_draw (hr.mono (by omega)) (by rfl) T.v_law_draw T.k_law_draw pass0 (pa_cons (pv 0) (pa_cons pe_int pa_nil)))) pa_nil)) (pg_name (i := 3) sc_law_table_rows.nd rfl (.inl rfl))
(pss_one (ps_expr (pe_bm PySem.F.plainAttrs_list PySem.F.slot_list_append PySem.F.type_list_append mt_append (pv 2) (pa_cons (pe_cr G_law_fresh (hr.mono (by omega)) (by rfl) T.v_law_fresh T.k_law_fresh pass0 (pa_cons (pv 0) (pa_cons (pv 2) pa_nil))) pa_nil)))))
(pss_cons (ps_set (i := 4) sc_law_table_rows.nd rfl (.inl rfl) (pe_lst pa_nil))
(pss_cons (ps_set (i := 5) sc_law_table_rows.nd rfl (.inl rfl) (pe_lst pa_nil))
(pss_cons (ps_for PassesOwn.never rfl (pi_range1 (by rfl) T.z_range (pa_cons (pe_callB call_len (by rfl) T.z_len (by decide +kernel) (pa_cons (pv 2) pa_nil)) pa_nil)) (pg_name (i := 3) sc_law_table_rows.nd rfl (.inl rfl))
(pss_cons (ps_set (i := 6) sc_law_table_rows.nd rfl (.inl rfl) (pe_lst pa_nil))
(pss_one (ps_for PassesOwn.never rfl (pi_range1 (by rfl) T.z_range (pa_cons (pe_op op_add pe_int (pe_cr G_law_draw (hr.mono (by omega)) (by rfl) T.v_law_draw T.k_law_draw pass0 (pa_cons (pv 0) (pa_cons (pe_ix (r := rIxL K) ix_list (pe_lst (pa_cons pe_int (pa_cons pe_int (pa_cons pe_int pa_nil)))) (pe_op op_sub (pe_callB call_len (by rfl) T.z_len (by decide +kernel) (pa_cons (pv 2) pa_nil)) pe_int) (fun _ _ => rfl)) pa_nil)))) pa_nil)) (pg_name (i := 7) sc_law_table_rows.nd rfl (.inl rfl))
(pss_cons (ps_set (i := 8) sc_law_table_rows.nd rfl (.inl rfl) (pe_cr G_law_wanted (hr.mono (by omega)) (by rfl) T.v_law_wanted T.k_law_wanted pass0 (pa_cons (pv 0) (pa_cons (pe_ix (r := rIxL K) ix_list (pe_lst (pa_cons (pe_slice sl_list (pv 2) po_none (po_some (pv 3))) (pa_cons (pv 2) pa_nil))) (pe_callTy call_int1 (by rfl) T.z_int (by decide +kernel) (pa_cons (pe_cmpR op_gt (pv 7) pe_int (nomark _)) pa_nil)) (fun _ _ => rfl)) pa_nil))))
(pss_cons (ps_expr (pe_bm PySem.F.plainAttrs_list PySem.F.slot_list_append PySem.F.type_list_append mt_append (pv 4) (pa_cons (pe_cr G_law_fresh (hr.mono (by omega)) (by rfl) T.v_law_fresh T.k_law_fresh pass0 (pa_cons (pv 0) (pa_cons (pv 4) pa_nil))) pa_nil)))
(pss_cons (ps_set (i := 9) sc_law_table_rows.nd rfl (.inl rfl) (pe_cr G_law_shaped (hr.mono (by omega)) (by rfl) T.v_law_shaped T.k_law_shaped pass0 (pa_cons (pv 0) (pa_cons (pv 8) (pa_cons (pv 6) pa_nil)))))
(pss_cons (ps_set (i := 10) sc_law_table_rows.nd rfl (.inl rfl) (pe_tup (pa_cons (pe_ix (r := rIxL K) ix_list (pv 2) (pv 3) (fun _ _ => rfl)) (pa_cons (pe_ix (r := rIxL K) ix_list (pv 4) (pe_un un_neg pe_int) (fun _ _ => rfl)) (pa_cons (pv 8) (pa_cons (pv 9) pa_nil))))))
(pss_one (ps_expr (pe_bm PySem.F.plainAttrs_list PySem.F.slot_list_insert PySem.F.type_list_insert mt_insert (pv 5) (pa_cons (pe_cr G_law_draw (hr.mono (by omega)) (by rfl) T.v_law_draw T.k_law_draw pass0 (pa_cons (pv 0) (pa_cons (pe_op op_add (pe_callB call_len (by rfl) T.z_len (by decide +kernel) (pa_cons (pv 5) pa_nil)) pe_int) pa_nil))) (pa_cons (pv 10) pa_nil)))))))))))))
(pss_one (ps_ret (pv 5)))))))))), ?_⟩
    refine ⟨.ref p, rfl, p, r, 10, rfl, by decide, by decide, hP, fun H1 v v0 v1 D1 => ?_⟩
    refine ⟨_, rfl, v, 5, rfl, rfl, _, rfl, ?_⟩
    by_cases h5 : v < 5
    · rw [decide_eq_true h5]
      obtain ⟨i, rfl⟩ : ∃ i : Nat, v = i := ⟨v.toNat, by omega⟩
      exact iteT ⟨_, rfl, i, rfl, by omega, fun H2 l us rs tr s2 nl el ro => q H2 l us rs tr (D1.trans ⟨Same.frm s2, D1.pool.keep s2⟩) (D1.free nl) el ro⟩
    rw [decide_eq_false h5]
    refine iteF ?_
    -- kinds
    refine ⟨Nat.zero_le _, fun kl nkl => ?_⟩
    have kl0 : H kl = none := D1.free nkl
    have nPk : ¬ PR p r kl := fun z => PoolAt.some hP kl z kl0
    have D2 : Drew p r H (upd H1 kl (.lst [])) := D1.new nkl
    have k2 : upd H1 kl (.lst []) kl = some (.lst (strL [])) := upd_same
    generalize upd H1 kl (.lst []) = H2 at D2 k2
    refine ⟨.ref p, rfl, p, r, 3, rfl, by decide, by decide, D2.pool, fun H3 m m0 m1 D3 => ?_⟩
    refine ⟨1, m, rfl, rfl, 1 + m, rfl, by omega, by omega, for_range (lo := 0) (n := (1 + m).toNat) (fun i σ H4 => ∃ ks y3, σ = [some (.ref p), some (.int v), some (.ref kl), y3, none, none, none, none, none, none, none] ∧ Drew p r H H4 ∧ H4 kl = some (.lst (strL ks)) ∧ ks.Nodup ∧ (∀ k ∈ ks, bigN k = true) ∧ ks.length = i) ?_ ?_ ?_⟩
    · exact ⟨[], none, rfl, D2.trans D3, D3.frm _ _ nPk k2, List.nodup_nil, (fun k hk => nomatch hk), rfl⟩
    · rintro i σ H4 hi ⟨ks, y3, rfl, D4, k4, nd, bg, kl4⟩
      refine ⟨.ref kl, rfl, .inl ⟨rfl, _, SqL.of k4⟩, .ref p, rfl, .ref kl, rfl, p, r, kl, ks, rfl, D4.pool, nPk, k4, by omega, fun H5 n bn nin D5 => ?_⟩
      have k5 := D5.frm _ _ nPk k4
      refine ⟨kl, _, _, rfl, rfl, k5, small1000 (by rw [List.length_map]; omega), ks ++ [n], _, rfl, (D4.trans D5).updN kl0 nPk, by rw [upd_same, strL_app]; rfl, ?_, fun k hk => ?_, by rw [List.length_append, kl4]; rfl⟩
      · exact (List.perm_append_singleton n ks).nodup_iff.mpr (List.nodup_cons.mpr ⟨nin, nd⟩)
      · rcases List.mem_append.mp hk with z | z
        · exact bg k z
        · rw [List.mem_singleton.mp z]
          exact bn
    rintro σ H4 ⟨ks, y3, rfl, D4, k4, nd, bg, kl4⟩
    have KO : KsOk ks := ⟨nd, bg, by omega⟩
    have k3 := KO.len
    have kpos : 0 < ks.length := by omega
    have ksl : (strL ks).length = ks.length := List.length_map _
    -- names, rows
    refine ⟨Nat.zero_le _, fun nl nnl => ⟨Nat.zero_le _, fun rl nrl => ?_⟩⟩
    have nl0 : H nl = none := D4.free nnl
    have D5 := D4.new (o := .lst []) nnl
    have rl0 : H rl = none := D5.free nrl
    have nPn : ¬ PR p r nl := fun z => PoolAt.some hP nl z nl0
    have nPr : ¬ PR p r rl := fun z => PoolAt.some hP rl z rl0
    have nkn : kl ≠ nl := ne_of_none k4 nnl
    have nkr : kl ≠ rl := ne_of_none (Same.new (o := .lst []) nnl _ _ k4) nrl
    have nnr : nl ≠ rl := ne_of_none (o := .lst []) upd_same nrl
    have R5 : RS p r kl nl rl H (upd (upd H4 nl (.lst [])) rl (.lst [])) ks [] [] [] :=
      ⟨D5.new nrl, Same.new nrl _ _ (Same.new nnl _ _ k4), Same.new nrl _ _ upd_same, upd_same, .nil⟩
    generalize upd (upd H4 nl (.lst [])) rl (.lst []) = H5 at R5
    obtain ⟨cap, ecap⟩ : ∃ cap, cap = capN ks.length := ⟨_, rfl⟩
    have capk : cap * ks.length ≤ 10 ∧ (1 ≤ cap ∧ cap ≤ 10) ∧ atI [V.int 10, .int 5, .int 3] ((ks.length : Int) - 1) = some (.int (cap : Nat)) := by
      have : ks.length = 1 ∨ ks.length = 2 ∨ ks.length = 3 := by omega
      rcases this with z | z | z <;> rw [ecap, z] <;> exact ⟨by decide, by decide, rfl⟩
    refine ⟨.ref kl, rfl, .ref kl, ks.length, rfl, .inl ⟨_, SqL.of R5.k, ksl.symm⟩, ks.length, rfl, by omega, by omega, for_range (lo := 0) (n := ((ks.length : Int)).toNat) (fun i σ H6 => ∃ ns us rs y3 y6 y7 y8 y9 y10, σ = [some (.ref p), some (.int v), some (.ref kl), y3, some (.ref nl), some (.ref rl), y6, y7, y8, y9, y10] ∧ RS p r kl nl rl H H6 ks ns us rs ∧ Dr ks rs ∧
      (∀ k, k < i → Gd ks rs k) ∧ (∀ x ∈ rs, ∃ k, k < i ∧ ks[k]? = some x.kd) ∧ (∀ x ∈ rs, x.nm ∈ ns) ∧ ns.length = rs.length ∧ rs.length ≤ cap * i) ?_ ?_ ?_⟩
    · exact ⟨[], [], [], _, _, _, _, _, _, rfl, R5, ⟨(fun x hx => nomatch hx), List.nodup_nil, List.nodup_nil⟩, (fun k hk => absurd hk (Nat.not_lt_zero _)), (fun x hx => nomatch hx), (fun x hx => nomatch hx), rfl, Nat.zero_le _⟩
    · rintro i σ H6 hi ⟨ns, us, rs, y3, y6, y7, y8, y9, y10, rfl, R6, dr, gd, kin, nin, nlen, rlen⟩
      have il : i < ks.length := hi
      have gi : ks[i]? = some ks[i] := List.getElem?_eq_getElem il
      refine ⟨Nat.zero_le _, fun sl nsl => ?_⟩
      have sl0 : H sl = none := R6.drew.free nsl
      have nPs : ¬ PR p r sl := fun z => PoolAt.some hP sl z sl0
      have slk : sl ≠ kl := (ne_of_none R6.k nsl).symm
      have sln : sl ≠ nl := (ne_of_none R6.n nsl).symm
      have slr : sl ≠ rl := (ne_of_none R6.l nsl).symm
      have R7 := R6.new (o := .lst []) nsl
      have s7 : upd H6 sl (.lst []) sl = some (.lst (strL [])) := upd_same
      generalize upd H6 sl (.lst []) = H7 at R7 s7
      refine ⟨.ref p, rfl, szle, fun c nc => ?_⟩
      have R8 := R7.new (o := .lst [.int 10, .int 5, .int 3]) nc
      have s8 := Same.new (o := .lst [.int 10, .int 5, .int 3]) nc _ _ s7
      have c8 : upd H7 c (.lst [.int 10, .int 5, .int 3]) c = some (.lst [.int 10, .int 5, .int 3]) := upd_same
      generalize upd H7 c (.lst [.int 10, .int 5, .int 3]) = H8 at R8 s8 c8
      refine ⟨.ref kl, rfl, .ref kl, ks.length, rfl, .inl ⟨_, SqL.of R8.k, ksl.symm⟩, (ks.length : Int), 1, rfl, rfl, c, _, (ks.length : Int) - 1, _, rfl, rfl, SqL.of c8, capk.2.2, p, r, (cap : Int), rfl, by omega, by omega, R8.drew.pool, fun H9 u u0 u1 D9 => ?_⟩
      have R9 := R8.drew' D9 nPk nPn nPr
      have s9 := D9.frm _ _ nPs s8
      refine ⟨1, u, rfl, rfl, 1 + u, rfl, by omega, by omega, for_range (lo := 0) (n := (1 + u).toNat) (fun j σ H10 => ∃ ns us rs ss y7 y8 y9 y10, σ = [some (.ref p), some (.int v), some (.ref kl), some (.int (0 + (i : Nat))), some (.ref nl), some (.ref rl), some (.ref sl), y7, y8, y9, y10] ∧ RS p r kl nl rl H H10 ks ns us rs ∧ H10 sl = some (.lst (strL ss)) ∧ Dr ks rs ∧
        (∀ k, k < i → Gd ks rs k) ∧ (0 < j → Gd ks rs i) ∧ (∀ x ∈ rs, ∃ k, k < i + 1 ∧ ks[k]? = some x.kd) ∧ (∀ x ∈ rs, ks[i]? = some x.kd → sS x.fm ∈ ss) ∧ ss.length = j ∧ (∀ x ∈ rs, x.nm ∈ ns) ∧ ns.length = rs.length ∧ rs.length ≤ cap * i + j) ?_ ?_ ?_⟩
      · refine ⟨ns, us, rs, [], _, _, _, _, rfl, R9, s9, dr, gd, fun z => absurd z (Nat.lt_irrefl _), fun x hx => ?_, fun x hx e => ?_, rfl, nin, nlen, rlen⟩
        · obtain ⟨k, h1, h2⟩ := kin x hx
          exact ⟨k, by omega, h2⟩
        · obtain ⟨k, h1, h2⟩ := kin x hx
          have := nd_get nd e h2
          omega
      · rintro j σ H10 hj ⟨ns, us, rs, ss, y7, y8, y9, y10, rfl, R10, s10, dr, gd, gi', kin, sin, sj, nin, nlen, rlen⟩
        have jc : j < cap := by omega
        have e0i : (0 : Int) + (i : Nat) = (i : Nat) := by omega
        have hcap : cap * i + cap ≤ 10 := by
          have : cap * (i + 1) ≤ cap * ks.length := Nat.mul_le_mul_left _ il
          rw [Nat.mul_succ] at this
          omega
        refine ⟨.ref p, rfl, .ref kl, rfl, .int (0 + (i : Nat)), rfl, (0 + (i : Nat) : Int), rfl, kl, _, rfl, SqL.of R10.k, fun d nd1 => ?_⟩
        rw [show cutV (strL ks) none (some ((0 : Int) + (i : Nat))) = strL (ks.take i) from by rw [e0i, cutV_to, ← List.map_take]]
        have R11 := R10.new (o := .lst (strL (ks.take i))) nd1
        have s11 := Same.new (o := .lst (strL (ks.take i))) nd1 _ _ s10
        have d11 : upd H10 d (.lst (strL (ks.take i))) d = some (.lst (strL (ks.take i))) := upd_same
        have nPd : ¬ PR p r d := fun z => PoolAt.some R10.drew.pool d z nd1
        generalize upd H10 d (.lst (strL (ks.take i))) = H11 at R11 s11 d11
        refine ⟨.ref kl, rfl, szle, fun e ne => ?_⟩
        have R12 := R11.new (o := .lst [.ref d, .ref kl]) ne
        have s12 := Same.new (o := .lst [.ref d, .ref kl]) ne _ _ s11
        have d12 := Same.new (o := .lst [.ref d, .ref kl]) ne _ _ d11
        have e12 : upd H11 e (.lst [.ref d, .ref kl]) e = some (.lst [.ref d, .ref kl]) := upd_same
        generalize upd H11 e (.lst [.ref d, .ref kl]) = H12 at R12 s12 d12 e12
        obtain ⟨w, ks', ew, hw, nPw, l3, hws⟩ : ∃ w ks', atI [V.ref d, V.ref kl] (if decide ((0 : Int) + (j : Nat) > 0) = true then 1 else 0) = some (.ref w) ∧ H12 w = some (.lst (strL ks')) ∧ ¬ PR p r w ∧ ks'.length ≤ 3 ∧ ∀ ws, WsOk ks' ws → WsOk ks ws ∧ (j = 0 → ∀ w ∈ ws, w = digW ∨ w ∈ ks.take i) := by
          by_cases j0 : j = 0
          · refine ⟨d, ks.take i, ?_, d12, nPd, by rw [List.length_take]; omega, fun ws h => ⟨h.take, fun _ => h.from_⟩⟩
            rw [j0, decide_eq_false (by omega)]
            rfl
          · refine ⟨kl, ks, ?_, R12.k, nPk, KO.len, fun ws h => ⟨h, fun z => absurd z j0⟩⟩
            rw [decide_eq_true (by omega)]
            rfl
        refine ⟨_, rfl, (0 : Int) + (j : Nat), 0, rfl, rfl, .inr ⟨_, rfl, e, _, _, _, rfl, rfl, SqL.of e12, ew, ?_⟩⟩
        refine ⟨p, r, w, ks', rfl, R12.drew.pool, nPw, hw, l3, fun H13 wa ws wo D13 ewa => ?_⟩
        obtain ⟨wo, w0⟩ := hws ws wo
        have R13 := R12.drew' D13 nPk nPn nPr
        have s13 := D13.frm _ _ nPs s12
        -- the name
        refine ⟨.ref nl, rfl, .inl ⟨rfl, _, SqL.of R13.n⟩, .ref p, rfl, .ref nl, rfl, p, r, nl, ns, rfl, R13.drew.pool, nPn, R13.n, by omega, fun H14 n bn nin14 D14 => ?_⟩
        have R14 := R13.drew' D14 nPk nPn nPr
        have s14 := D14.frm _ _ nPs s13
        have ewa14 : H14 wa = some (.tup (strL ws)) := D14.frm _ _ (fun z => by
          obtain ⟨xs, ex⟩ := R13.drew.pool.lst wa z _ ewa
          cases ex) ewa
        refine ⟨nl, _, _, rfl, rfl, R14.n, small1000 (by rw [List.length_map]; omega), ?_⟩
        have R15 := R14.names nl0 nPn nkn nnr.symm n
        have s15 : upd H14 nl (.lst (strL ns ++ [.str (mk n)])) sl = some (.lst (strL ss)) := by
          rw [upd_ne sln]
          exact s14
        have ewa15 : upd H14 nl (.lst (strL ns ++ [.str (mk n)])) wa = some (.tup (strL ws)) := by
          rw [upd_ne (fun z => by rw [z, R14.n] at ewa14; cases ewa14)]
          exact ewa14
        generalize upd H14 nl (.lst (strL ns ++ [.str (mk n)])) = H15 at R15 s15 ewa15
        -- the form
        refine ⟨.ref p, rfl, .ref wa, rfl, .ref sl, rfl, p, r, wa, sl, ws, ss, rfl, R15.drew.pool, (fun z => nPs (.inl z)), (fun z => nPs (.inr z)), ewa15, s15, wo.len, by omega, fun H16 f fo sn F16 P16 e16 => ?_⟩
        have D16 : Drew p r H H16 := ⟨fun b o nb eb => F16 b o (fun z => by
          rcases z with z | z | z
          · exact nb (.inl z)
          · exact nb (.inr z)
          · rw [z, sl0] at eb
            cases eb) (R15.drew.frm b o nb eb), P16⟩
        have lst16 : ∀ b, PRM p r sl b → ∀ o, H15 b = some o → ∃ xs, o = .lst xs := fun b z o eb => by
          rcases z with z | z | z
          · exact R15.drew.pool.lst b (.inl z) o eb
          · exact R15.drew.pool.lst b (.inr z) o eb
          · rw [z, s15] at eb
            cases eb
            exact ⟨_, rfl⟩
        have out : ∀ x, ¬ PR p r x → x ≠ sl → ¬ PRM p r sl x := fun x h1 h2 z => by
          rcases z with z | z | z
          · exact h1 (.inl z)
          · exact h1 (.inr z)
          · exact h2 z
        have R16 := R15.frm F16 (out _ nPk slk.symm) (out _ nPn sln.symm) (out _ nPr slr.symm) lst16 D16
        have ewa16 := F16.kp lst16 _ _ ewa15 (fun _ y => nomatch y)
        -- the row
        have ak : atI (strL ks) ((0 : Int) + (i : Nat)) = some (.str (mk ks[i])) := by
          rw [e0i]
          refine atI_nat ?_
          rw [List.getElem?_map, gi]
          rfl
        have an : atI (strL (ns ++ [n])) (-1) = some (.str (mk n)) := by
          rw [strL_app]
          exact atI_last _
        refine ⟨.ref kl, rfl, .int (0 + (i : Nat)), rfl, kl, _, _, _, rfl, rfl, SqL.of R16.k, ak, .ref nl, rfl, 1, rfl, nl, _, -1, _, rfl, rfl, SqL.of R16.n, an, .ref wa, rfl, .str (mk f), rfl, szle, fun t nt => ?_⟩
        have R17 := R16.new (o := .tup [.str (mk ks[i]), .str (mk n), .ref wa, .str (mk f)]) nt
        have e17 := Same.new (o := .tup [.str (mk ks[i]), .str (mk n), .ref wa, .str (mk f)]) nt _ _ e16
        have ro17 : RO (upd H16 t (.tup [.str (mk ks[i]), .str (mk n), .ref wa, .str (mk f)])) (.ref t) ⟨ks[i], n, ws, f⟩ := ⟨t, wa, rfl, upd_same, Same.new nt _ _ ewa16⟩
        generalize upd H16 t (.tup [.str (mk ks[i]), .str (mk n), .ref wa, .str (mk f)]) = H17 at R17 e17 ro17
        have ul : us.length = rs.length := R17.ro.len
        refine ⟨.ref rl, rfl, .inl ⟨rfl, _, SqL.of R17.l⟩, .ref p, rfl, .ref rl, rfl, .ref rl, us.length, rfl, .inl ⟨_, SqL.of R17.l, rfl⟩, (us.length : Int), 1, rfl, rfl, p, r, (us.length : Int) + 1, rfl, by omega, by omega, R17.drew.pool, fun H18 x x0 x1 D18 => ?_⟩
        have R18 := R17.drew' D18 nPk nPn nPr
        have e18 := D18.frm _ _ nPs e17
        have ro18 := ro17.kp (D18.kp R17.drew.pool)
        have k19 : Kp H18 (upd H18 rl (.lst (us.take x.toNat ++ [.ref t] ++ us.drop x.toNat))) := Kp.updL R18.l
        have pm := ins_permG rs (⟨ks[i], n, ws, f⟩ : Rw) x.toNat
        have nnew : n ∉ rs.map (·.nm) := fun z => by
          obtain ⟨y, hy, ey⟩ := List.mem_map.mp z
          exact nin14 (ey ▸ nin y hy)
        refine ⟨_, rfl, rl, _, x, _, rfl, rfl, R18.l, small1000 (by omega), x0, by omega, ns ++ [n], us.take x.toNat ++ [.ref t] ++ us.drop x.toNat, rs.take x.toNat ++ [⟨ks[i], n, ws, f⟩] ++ rs.drop x.toNat, ss ++ [sS f], _, _, _, _, rfl,
          ⟨R18.drew.updN rl0 nPr, by rw [upd_ne nkr]; exact R18.k, by rw [upd_ne nnr]; exact R18.n, upd_same, ((All2.app (All2.app (R18.ro.take _) (.cons ro18 .nil)) (R18.ro.drop _)).imp fun _ _ z => z.kp k19)⟩,
          by rw [upd_ne slr]; exact e18, dr.ins pm ⟨List.mem_of_getElem? gi, bn, wo, fo⟩ nnew (fun y hy ey e => sn (by
            have e' : sS y.fm = sS f := e
            rw [← e']
            exact sin y hy (by rw [gi, ey]))), fun k hk => (gd k hk).perm pm, fun _ => ?_, fun y hy => ?_, fun y hy ey => ?_, by rw [List.length_append, sj]; rfl, fun y hy => ?_, ?_, ?_⟩
        · by_cases j0 : j = 0
          · exact ⟨_, pm.mem_iff.mpr List.mem_cons_self, gi, w0 j0⟩
          · exact (gi' (Nat.pos_of_ne_zero j0)).perm pm
        · rcases List.mem_cons.mp (pm.mem_iff.mp hy) with rfl | z
          · exact ⟨i, Nat.lt_succ_self _, gi⟩
          · exact kin y z
        · rcases List.mem_cons.mp (pm.mem_iff.mp hy) with rfl | z
          · exact List.mem_append_right _ List.mem_cons_self
          · exact List.mem_append_left _ (sin y z ey)
        · rcases List.mem_cons.mp (pm.mem_iff.mp hy) with rfl | z
          · exact List.mem_append_right _ List.mem_cons_self
          · exact List.mem_append_left _ (nin y z)
        · rw [pm.length_eq, List.length_append, nlen]
          rfl
        · rw [pm.length_eq, List.length_cons]
          omega
      · rintro σ H10 ⟨ns, us, rs, ss, y7, y8, y9, y10, rfl, R10, s10, dr, gd, gi', kin, _, _, nin, nlen, rlen⟩
        refine ⟨ns, us, rs, _, _, _, _, _, _, rfl, R10, dr, fun k hk => ?_, kin, nin, nlen, ?_⟩
        · by_cases e : k = i
          · rw [e]
            exact gi' (by omega)
          · exact gd k (by omega)
        · rw [Nat.mul_succ]
          omega
    · rintro σ H6 ⟨ns, us, rs, y3, y6, y7, y8, y9, y10, rfl, R6, dr, gd, kin, nin, nlen, rlen⟩
      have hl : ((ks.length : Int)).toNat = ks.length := Int.toNat_natCast _
      rw [hl] at gd rlen
      exact ⟨.ref rl, rfl, q H6 rl us rs (drawn_tr KO dr gd kpos (Nat.le_trans rlen capk.1)) R6.drew rl0 R6.l R6.ro⟩
end
end TW

namespace TW
open PySem PySem.Spec PyProof.Rows L2
/-- a word of plain signs -/
def Pw (b : Nat) (w : List Nat) : Prop := (∀ c ∈ w, c < 128) ∧ w.length ≤ b
/-- a row of plain signs, not long -/
structure Rsn (m : Nat) (r : Rw) : Prop where
  kd : Pw 9 r.kd
  nm : Pw 9 r.nm
  ws : ∀ w ∈ r.ws, Pw 9 w
  wl : r.ws.length ≤ 3 + m
  fm : Pw (8 + m) r.fm
def sp_pick : Sp := fun vs H Q _ => ∃ (p r l : Addr) (xs : List V), vs = [.ref p, .ref l] ∧ PoolAt H p r ∧ ¬ PR p r l ∧ H l = some (.lst xs) ∧ 1 ≤ xs.length ∧ xs.length ≤ 1000 ∧ ∀ H' x, x ∈ xs → Drew p r H H' → Q x H'
def sp_oddword : Sp := fun vs H Q _ => ∃ (p r l : Addr) (us : List V) (rs : List Rw), vs = [.ref p, .ref l] ∧ PoolAt H p r ∧ ¬ PR p r l ∧ H l = some (.lst us) ∧ All2 (RO H) us rs ∧ rs.length ≤ 20 ∧ (∀ r ∈ rs, Pw 9 r.kd ∧ Pw 9 r.nm) ∧ ∀ H' w, Pw 9 w → Drew p r H H' → Q (.str (mk w)) H'
def sp_oddsign : Sp := fun vs H Q _ => ∃ (p r : Addr) (s : List Nat), vs = [.ref p, .str (mk s)] ∧ PoolAt H p r ∧ Pw 100 s ∧ 1 ≤ s.length ∧ ∀ H' c, c < 128 → Drew p r H H' → Q (.str (mk [c])) H'
def oddL : List (List Nat) := [[], [97], [65, 95], [65, 98, 99, 100, 101, 102, 103, 104, 105], digW, [49, 65], [65, 32, 98], [75, 61], [90, 122, 57], [65, 98, 99, 100, 101, 102, 103, 104], [68, 105, 103, 105, 116]]
theorem oddL_pw : ∀ w ∈ oddL, Pw 9 w := by unfold Pw; decide +kernel
section
variable {P : Program} {w : World} {K : PySem.W.Frag} {mg : Str → Option Value} {base : Heap}
theorem ok_pick (T : Tx K mg) (G_law_draw : FnR P w K mg base CX0 1 (He.ga K "_law_draw") sp_draw) : FnR P w K mg base CX0 2 (He.ga K "_law_pick") sp_pick := by
  refine fnR0 T.d_law_pick sc_law_pick (fun _ _ _ _ _ _ us hl => match us, hl with | [_, _], _ => rfl) (fun vs H Q E h => ?_) (fun cdv A outer s H vs Q E hr h => ?_)
  · obtain ⟨p, r, l, xs, rfl, _⟩ := h
    rfl
  · obtain ⟨p, r, l, xs, rfl, hP, nl, hl, l1, l2, q⟩ := h
    refine ⟨_, (pss_one (ps_ret (pe_ix (r := rIxL K) ix_list (pv 1) (pe_cr G_law_draw (hr.mono (by omega)) (by rfl) T.v_law_draw T.k_law_draw pass0 (pa_cons (pv 0) (pa_cons (pe_callB call_len (by rfl) T.z_len (by decide +kernel) (pa_cons (pv 1) pa_nil)) pa_nil))) (fun _ _ => rfl)))), ?_⟩
    refine ⟨.ref l, rfl, .ref p, rfl, .ref l, rfl, .ref l, xs.length, rfl, .inl ⟨_, SqL.of hl, rfl⟩, p, r, (xs.length : Int), rfl, by omega, by omega, hP, fun H2 v v0 v1 D2 => ?_⟩
    obtain ⟨x, ex, mx⟩ := atI_get (xs := xs) v0 v1
    exact ⟨l, _, v, _, rfl, rfl, SqL.of (D2.frm _ _ nl hl), ex, q H2 x mx D2⟩
theorem ok_oddword (T : Tx K mg) (G_law_draw : FnR P w K mg base CX0 1 (He.ga K "_law_draw") sp_draw) : FnR P w K mg base CX0 3 (He.ga K "_law_odd_word") sp_oddword := by
  have G_law_pick : FnR P w K mg base CX0 2 (He.ga K "_law_pick") sp_pick := ok_pick T G_law_draw
  refine fnR0 T.d_law_odd_word sc_law_odd_word (fun _ _ _ _ _ _ us hl => match us, hl with | [_, _], _ => rfl) (fun vs H Q E h => ?_) (fun cdv A outer s H vs Q E hr h => ?_)
  · obtain ⟨p, r, l, us, rs, rfl, _⟩ := h
    rfl
  · obtain ⟨p, r, l, us, rs, rfl, hP, nl, hl, ro, rl, pw, q⟩ := h
    refine ⟨_, (pss_cons (ps_set (i := 2) sc_law_odd_word.nd rfl (.inl rfl) (pe_lst (pa_cons pe_str (pa_cons pe_str (pa_cons pe_str (pa_cons pe_str (pa_cons pe_str (pa_cons pe_str (pa_cons pe_str (pa_cons pe_str (pa_cons pe_str (pa_cons pe_str (pa_cons pe_str pa_nil)))))))))))))
(pss_cons (ps_set (i := 2) sc_law_odd_word.nd rfl (.inl rfl) (pe_op op_cat (pe_op op_cat (pv 2) (pe_lc (own := [("_law_row", 3)]) (g := gName 3) rfl sc_law_odd_word.nd (pi_list (pv 1)) (blkOk_by (own := [("_law_row", 3)]) (N := N_law_odd_word) (sc := defScope s_law_odd_word) (by decide +kernel)) (fun _ _ _ _ _ => pg_name (i := 3) sc_law_odd_word.nd rfl (.inl rfl)) (fun _ _ _ _ _ => pts_nil) (fun _ _ _ _ _ => (pe_ix (r := rIxT K) ix_tup (pv 3) pe_int (fun _ _ => rfl))))) (pe_lc (own := [("_law_row", 3)]) (g := gName 3) rfl sc_law_odd_word.nd (pi_list (pv 1)) (blkOk_by (own := [("_law_row", 3)]) (N := N_law_odd_word) (sc := defScope s_law_odd_word) (by decide +kernel)) (fun _ _ _ _ _ => pg_name (i := 3) sc_law_odd_word.nd rfl (.inl rfl)) (fun _ _ _ _ _ => pts_nil) (fun _ _ _ _ _ => (pe_ix (r := rIxT K) ix_tup (pv 3) pe_int (fun _ _ => rfl))))))
(pss_one (ps_ret (pe_cr G_law_pick (hr.mono (by omega)) (by rfl) T.v_law_pick T.k_law_pick pass0 (pa_cons (pv 0) (pa_cons (pv 2) pa_nil))))))), ?_⟩
    have ul := ro.len
    refine ⟨szle, fun d nd => ?_⟩
    have s1 : Same H (upd H d (.lst (strL oddL))) := Same.new nd
    have e1 : upd H d (.lst (strL oddL)) d = some (.lst (strL oddL)) := upd_same
    rw [show upd H d (.lst [V.str (Str.ofString ""), V.str (Str.ofString "a"), V.str (Str.ofString "A_"), V.str (Str.ofString "Abcdefghi"), V.str (Str.ofString "digit"), V.str (Str.ofString "1A"), V.str (Str.ofString "A b"), V.str (Str.ofString "K="), V.str (Str.ofString "Zz9"), V.str (Str.ofString "Abcdefgh"), V.str (Str.ofString "Digit")]) = upd H d (.lst (strL oddL)) from rfl]
    generalize upd H d (.lst (strL oddL)) = H1 at s1 e1
    have ro1 := ROs.same s1 ro
    have hl1 := s1 _ _ hl
    refine ⟨.ref d, rfl, .ref l, rfl, l, rfl, ⟨_, SqL.of hl1⟩, fun D nD => ?_⟩
    refine lc_pureL (xs := us) (fs := strL (rs.map (·.kd))) (SqL.of hl1) nD (by rw [List.length_map, List.length_map]; omega) (by omega) (fun _ => rfl) (fun i y z H' Q' hy hz' s' q' => ?_) ?_
    · obtain ⟨rw0, ero, b, pw0, rfl, hb, _⟩ := ro1.get hy
      rw [List.getElem?_map, List.getElem?_map, ero] at hz'
      have ez := (Option.some.inj hz').symm
      subst ez
      exact ⟨_, rfl, b, _, 0, _, rfl, rfl, SqT.of (s' _ _ hb), rfl, q'⟩
    have kl : (strL (rs.map (·.kd))).length = rs.length := by rw [List.length_map, List.length_map]
    have s2 : Same H1 (upd H1 D (.lst (strL (rs.map (·.kd))))) := Same.new nD
    have e2 : upd H1 D (.lst (strL (rs.map (·.kd)))) D = some (.lst (strL (rs.map (·.kd)))) := upd_same
    generalize upd H1 D (.lst (strL (rs.map (·.kd)))) = H2 at s2 e2
    refine ⟨d, D, _, _, rfl, rfl, s2 _ _ e1, e2, Nat.le_trans (show (strL oddL).length + (strL (rs.map (·.kd))).length ≤ 1000 by rw [kl]; show 11 + rs.length ≤ 1000; omega) szle, fun l2 nl2 => ?_⟩
    rw [← strL_app]
    have s3 : Same H2 (upd H2 l2 (.lst (strL (oddL ++ rs.map (·.kd))))) := Same.new nl2
    have e3 : upd H2 l2 (.lst (strL (oddL ++ rs.map (·.kd)))) l2 = some (.lst (strL (oddL ++ rs.map (·.kd)))) := upd_same
    generalize upd H2 l2 (.lst (strL (oddL ++ rs.map (·.kd)))) = H3 at s3 e3
    have s23 := s2.trans s3
    have ro3 := ROs.same s23 ro1
    have hl3 := s23 _ _ hl1
    refine ⟨.ref l, rfl, l, rfl, ⟨_, SqL.of hl3⟩, fun D2 nD2 => ?_⟩
    refine lc_pureL (xs := us) (fs := strL (rs.map (·.nm))) (SqL.of hl3) nD2 (by rw [List.length_map, List.length_map]; omega) (by omega) (fun _ => rfl) (fun i y z H' Q' hy hz' s' q' => ?_) ?_
    · obtain ⟨rw0, ero, b, pw0, rfl, hb, _⟩ := ro3.get hy
      rw [List.getElem?_map, List.getElem?_map, ero] at hz'
      have ez := (Option.some.inj hz').symm
      subst ez
      exact ⟨_, rfl, b, _, 1, _, rfl, rfl, SqT.of (s' _ _ hb), rfl, q'⟩
    have nl' : (strL (rs.map (·.nm))).length = rs.length := by rw [List.length_map, List.length_map]
    have s4 : Same H3 (upd H3 D2 (.lst (strL (rs.map (·.nm))))) := Same.new nD2
    have e4 : upd H3 D2 (.lst (strL (rs.map (·.nm)))) D2 = some (.lst (strL (rs.map (·.nm)))) := upd_same
    generalize upd H3 D2 (.lst (strL (rs.map (·.nm)))) = H4 at s4 e4
    have wl : (strL (oddL ++ rs.map (·.kd))).length = 11 + rs.length := by
      rw [List.length_map, List.length_append, List.length_map]
      rfl
    refine ⟨l2, D2, _, _, rfl, rfl, s4 _ _ e3, e4, Nat.le_trans (show (strL (oddL ++ rs.map (·.kd))).length + (strL (rs.map (·.nm))).length ≤ 1000 by rw [wl, nl']; omega) szle, fun l3 nl3 => ?_⟩
    rw [← strL_app]
    have s5 : Same H4 (upd H4 l3 (.lst (strL (oddL ++ rs.map (·.kd) ++ rs.map (·.nm))))) := Same.new nl3
    have e5 : upd H4 l3 (.lst (strL (oddL ++ rs.map (·.kd) ++ rs.map (·.nm)))) l3 = some (.lst (strL (oddL ++ rs.map (·.kd) ++ rs.map (·.nm)))) := upd_same
    have nlH : H l3 = none := (s1.trans (s23.trans s4)).free nl3
    generalize upd H4 l3 (.lst (strL (oddL ++ rs.map (·.kd) ++ rs.map (·.nm)))) = H5 at s5 e5
    have s05 := s1.trans (s23.trans (s4.trans s5))
    have D5 : Drew p r H H5 := ⟨Same.frm s05, hP.keep s05⟩
    have al : (strL (oddL ++ rs.map (·.kd) ++ rs.map (·.nm))).length = 11 + rs.length + rs.length := by
      rw [List.length_map, List.length_append, List.length_append, List.length_map, List.length_map]
      rfl
    refine ⟨.ref p, rfl, .ref l3, rfl, p, r, l3, _, rfl, D5.pool, fun z => PoolAt.some hP l3 z nlH, e5, by omega, by omega, fun H6 x hx D6 => ?_⟩
    obtain ⟨w0, hw, rfl⟩ := List.mem_map.mp hx
    refine q H6 w0 ?_ (D5.trans D6)
    rcases List.mem_append.mp hw with hw | hw
    · rcases List.mem_append.mp hw with hw | hw
      · exact oddL_pw w0 hw
      · obtain ⟨r', hr', rfl⟩ := List.mem_map.mp hw
        exact (pw r' hr').1
    · obtain ⟨r', hr', rfl⟩ := List.mem_map.mp hw
      exact (pw r' hr').2
theorem ok_oddsign (T : Tx K mg) (G_law_draw : FnR P w K mg base CX0 1 (He.ga K "_law_draw") sp_draw) : FnR P w K mg base CX0 2 (He.ga K "_law_odd_sign") sp_oddsign := by
  refine fnR0 T.d_law_odd_sign sc_law_odd_sign (fun _ _ _ _ _ _ us hl => match us, hl with | [_, _], _ => rfl) (fun vs H Q E h => ?_) (fun cdv A outer s H vs Q E hr h => ?_)
  · obtain ⟨p, r, s, rfl, _⟩ := h
    rfl
  · obtain ⟨p, r, s, rfl, hP, ps, s1, q⟩ := h
    refine ⟨_, (pss_cons (ps_set (i := 2) sc_law_odd_sign.nd rfl (.inl rfl) pe_str)
(pss_cons (ps_set (i := 2) sc_law_odd_sign.nd rfl (.inl rfl) (pe_op op_add_str (pv 2) pe_str))
(pss_mid (ps_if (pt_cmpR op_eq (pe_cr G_law_draw (hr.mono (by omega)) (by rfl) T.v_law_draw T.k_law_draw pass0 (pa_cons (pv 0) (pa_cons pe_int pa_nil))) pe_int (nomark _))
(pss_one (ps_set (i := 2) sc_law_odd_sign.nd rfl (.inl rfl) (pv 1)))
pss_nil)
(pss_one (ps_ret (pe_ix ix_str (pv 2) (pe_cr G_law_draw (hr.mono (by omega)) (by rfl) T.v_law_draw T.k_law_draw pass0 (pa_cons (pv 0) (pa_cons (pe_callB call_len (by rfl) T.z_len (by decide +kernel) (pa_cons (pv 2) pa_nil)) pa_nil))) (fun _ _ => rfl))))))), ?_⟩
    refine ⟨_, rfl, _, _, rfl, rfl, by decide +kernel, ?_⟩
    obtain ⟨t0, et0, pt0, lt0⟩ : ∃ t0, Str.ofString " !\"#$&'()*+,-./0123456789:;<=>?@ABCDEFGHIJKLMNOPQRSTUVWXYZ" ++ Str.ofString "[\\]^_`abcdefghijklmnopqrstuvwxyz{|}~" = mk t0 ∧ Pw 100 t0 ∧ 1 ≤ t0.length := by
      refine ⟨(Str.ofString " !\"#$&'()*+,-./0123456789:;<=>?@ABCDEFGHIJKLMNOPQRSTUVWXYZ" ++ Str.ofString "[\\]^_`abcdefghijklmnopqrstuvwxyz{|}~").cps.toList, (mk_of _).symm, ?_, ?_⟩
      · unfold Pw
        decide +kernel
      · decide +kernel
    rw [et0]
    refine ⟨fun σ H' => ∃ t, σ = [some (.ref p), some (.str (mk s)), some (.str (mk t))] ∧ Pw 100 t ∧ 1 ≤ t.length ∧ Drew p r H H', ?_, ?_⟩
    · refine ⟨.ref p, rfl, p, r, 2, rfl, by decide, by decide, hP, fun H1 v v0 v1 D1 => ⟨rfl, _, rfl, ?_⟩⟩
      refine ite2 (fun _ => ?_) (fun _ => ?_)
      · exact ⟨_, rfl, s, rfl, ps, s1, D1⟩
      · exact ⟨t0, rfl, pt0, lt0, D1⟩
    · rintro σ' H1 ⟨t, rfl, pt, lt, D1⟩
      have tl := pt.2
      refine ⟨_, rfl, .ref p, rfl, _, rfl, .str (mk t), t.length, rfl, ?_, p, r, (t.length : Int), rfl, by omega, by omega, D1.pool, fun H2 v v0 v1 D2 => ?_⟩
      · exact ⟨by rw [mk_len]; exact Nat.le_trans (show t.length ≤ 1000 by omega) szle, (mk_len t).symm⟩
      obtain ⟨x, ex, mx⟩ := atI_get (xs := t) v0 v1
      exact ⟨mk t, v, x, rfl, rfl, by rw [mk_len]; exact Nat.le_trans (show t.length ≤ 1000 by omega) szle, ex, q H2 x (pt.1 x mx) (D1.trans D2)⟩
end
end TW

namespace TW
open PySem PySem.Spec PyProof.Rows L2
theorem cutS_to (l : List Nat) (i : Nat) : cutS (mk l) none (some (i : Int)) = mk (l.take i) := by
  unfold cutS
  show (⟨_⟩ : Str) = _
  rw [HT.sIx_none, mk_len, Nat.sub_zero, List.drop_zero, HT.sIx_nat]
  show mk (l.take (min i l.length)) = _
  by_cases h : i ≤ l.length
  · rw [Nat.min_eq_left h]
  · rw [Nat.min_eq_right (by omega), List.take_length, List.take_of_length_le (by omega)]
theorem cutS_fr (l : List Nat) (i : Nat) : cutS (mk l) (some (i : Int)) none = mk (l.drop i) := by
  unfold cutS
  show (⟨_⟩ : Str) = _
  rw [HT.sIx_none, mk_len, HT.sIx_nat]
  show mk ((l.drop (min i l.length)).take (l.length - min i l.length)) = _
  by_cases h : i ≤ l.length
  · rw [Nat.min_eq_left h, List.take_of_length_le (by rw [List.length_drop]; exact Nat.le_refl _)]
  · rw [Nat.min_eq_right (by omega), Nat.sub_self, List.take_zero, List.drop_of_length_le (by omega)]
theorem Drew.own {p r w : Addr} {H H' : Hp} {o : HO} (D : Drew p r H H') (n : H w = none) (nw : ¬ PR p r w) : Drew p r H (upd H' w o) := by
  refine ⟨fun b o' nb e => ?_, ?_⟩
  · rw [upd_ne (ne_of_none e n)]
    exact D.frm b o' nb e
  · exact D.pool.upd (fun z => nw (.inl z)) (fun z => nw (.inr z))
theorem Pw.app {a b : Nat} {u v : List Nat} (h1 : Pw a u) (h2 : Pw b v) : Pw (a + b) (u ++ v) := ⟨fun c hc => (List.mem_append.mp hc).elim (h1.1 c) (h2.1 c), by
  have := h1.2
  have := h2.2
  rw [List.length_append]
  omega⟩
theorem Pw.take {a : Nat} {u : List Nat} (i : Nat) (h : Pw a u) : Pw a (u.take i) := ⟨fun c hc => h.1 c (List.mem_of_mem_take hc), by
  have := h.2
  rw [List.length_take]
  omega⟩
theorem Pw.drop {a : Nat} {u : List Nat} (i : Nat) (h : Pw a u) : Pw a (u.drop i) := ⟨fun c hc => h.1 c (List.mem_of_mem_drop hc), by
  have := h.2
  rw [List.length_drop]
  omega⟩
theorem Pw.mono {a b : Nat} {u : List Nat} (h : Pw a u) (l : a ≤ b) : Pw b u := ⟨h.1, Nat.le_trans h.2 l⟩
def sp_bentrow : Sp := fun vs H Q _ => ∃ (p r l : Addr) (us : List V) (rs : List Rw) (v : V) (rw0 : Rw) (m : Nat), vs = [.ref p, .ref l, v] ∧ PoolAt H p r ∧ ¬ PR p r l ∧ H l = some (.lst us) ∧ All2 (RO H) us rs ∧ 1 ≤ rs.length ∧ rs.length ≤ 20 ∧ m ≤ 2 ∧ (∀ r ∈ rs, Rsn m r) ∧ RO H v rw0 ∧ Rsn m rw0 ∧
  ∀ H' y r', RO H' y r' → Rsn (m + 1) r' → Drew p r H H' → Q y H'
section
variable {P : Program} {w : World} {K : PySem.W.Frag} {mg : Str → Option Value} {base : Heap}
theorem ok_bentrow (T : Tx K mg) (G_law_draw : FnR P w K mg base CX0 1 (He.ga K "_law_draw") sp_draw) : FnR P w K mg base CX0 4 (He.ga K "_law_bent_row") sp_bentrow := by
  have G_law_pick : FnR P w K mg base CX0 2 (He.ga K "_law_pick") sp_pick := ok_pick T G_law_draw
  have G_law_odd_word : FnR P w K mg base CX0 3 (He.ga K "_law_odd_word") sp_oddword := ok_oddword T G_law_draw
  have G_law_odd_sign : FnR P w K mg base CX0 2 (He.ga K "_law_odd_sign") sp_oddsign := ok_oddsign T G_law_draw
  refine fnR0 T.d_law_bent_row sc_law_bent_row (fun _ _ _ _ _ _ us hl => match us, hl with | [_, _, _], _ => rfl) (fun vs H Q E h => ?_) (fun cdv A outer s H vs Q E hr h => ?_)
  · obtain ⟨p, r, l, us, rs, v, rw0, m, rfl, _⟩ := h
    rfl
  · obtain ⟨p, r, l, us, rs, v, rw0, m, rfl, hP, nl, hl, ro, r1, rl, m2, sn, hv, sn0, q⟩ := h
    refine ⟨_, (pss_cons (ps_set (i := 3) sc_law_bent_row.nd rfl (.inl rfl) (pe_callTy call_list_of (by rfl) T.z_list (by decide +kernel) (pa_cons (pe_ix (r := rIxT K) ix_tup (pv 2) pe_int (fun _ _ => rfl)) pa_nil)))
(pss_cons (ps_set (i := 4) sc_law_bent_row.nd rfl (.inl rfl) (pe_ix (r := rIxT K) ix_tup (pv 2) pe_int (fun _ _ => rfl)))
(pss_cons (ps_set (i := 5) sc_law_bent_row.nd rfl (.inl rfl) (pe_cr G_law_draw (hr.mono (by omega)) (by rfl) T.v_law_draw T.k_law_draw pass0 (pa_cons (pv 0) (pa_cons pe_int pa_nil))))
(pss_cons (ps_set (i := 6) sc_law_bent_row.nd rfl (.inl rfl) (pe_cr G_law_draw (hr.mono (by omega)) (by rfl) T.v_law_draw T.k_law_draw pass0 (pa_cons (pv 0) (pa_cons (pe_op op_add (pe_callB call_len (by rfl) T.z_len (by decide +kernel) (pa_cons (pv 4) pa_nil)) pe_int) pa_nil))))
(pss_cons (ps_if (pt_cmpR op_eq (pv 5) pe_int (nomark _))
(pss_one (ps_ret (pe_tup (pa_cons (pe_cr G_law_odd_word (hr.mono (by omega)) (by rfl) T.v_law_odd_word T.k_law_odd_word pass0 (pa_cons (pv 0) (pa_cons (pv 1) pa_nil))) (pa_cons (pe_ix (r := rIxT K) ix_tup (pv 2) pe_int (fun _ _ => rfl)) (pa_cons (pe_ix (r := rIxT K) ix_tup (pv 2) pe_int (fun _ _ => rfl)) (pa_cons (pv 4) pa_nil)))))))
pss_nil)
(pss_cons (ps_if (pt_cmpR op_eq (pv 5) pe_int (nomark _))
(pss_one (ps_ret (pe_tup (pa_cons (pe_ix (r := rIxT K) ix_tup (pv 2) pe_int (fun _ _ => rfl)) (pa_cons (pe_cr G_law_odd_word (hr.mono (by omega)) (by rfl) T.v_law_odd_word T.k_law_odd_word pass0 (pa_cons (pv 0) (pa_cons (pv 1) pa_nil))) (pa_cons (pe_ix (r := rIxT K) ix_tup (pv 2) pe_int (fun _ _ => rfl)) (pa_cons (pv 4) pa_nil)))))))
pss_nil)
(pss_mid (ps_if (pt_cmpR op_eq (pv 5) pe_int (nomark _))
(pss_cons (ps_expr (pe_bm PySem.F.plainAttrs_list PySem.F.slot_list_insert PySem.F.type_list_insert mt_insert (pv 3) (pa_cons (pe_cr G_law_draw (hr.mono (by omega)) (by rfl) T.v_law_draw T.k_law_draw pass0 (pa_cons (pv 0) (pa_cons (pe_op op_add (pe_callB call_len (by rfl) T.z_len (by decide +kernel) (pa_cons (pv 3) pa_nil)) pe_int) pa_nil))) (pa_cons (pe_cr G_law_odd_word (hr.mono (by omega)) (by rfl) T.v_law_odd_word T.k_law_odd_word pass0 (pa_cons (pv 0) (pa_cons (pv 1) pa_nil))) pa_nil))))
(pss_one (ps_if (pt_cmpR op_eq (pe_cr G_law_draw (hr.mono (by omega)) (by rfl) T.v_law_draw T.k_law_draw pass0 (pa_cons (pv 0) (pa_cons pe_int pa_nil))) pe_int (nomark _))
(pss_one (ps_set (i := 4) sc_law_bent_row.nd rfl (.inl rfl) (pe_op op_add_str (pv 4) (pe_callTy call_str_int (by rfl) T.z_str (by decide +kernel) (pa_cons (pe_callB call_len (by rfl) T.z_len (by decide +kernel) (pa_cons (pv 3) pa_nil)) pa_nil)))))
pss_nil)))
pss_nil)
(pss_mid (ps_if (PW.pt (pw_and (pt_cmpR op_eq (pv 5) pe_int (nomark _)) (pw_and1 (pt_cmpR (op_neD hr.units) (pv 3) (pe_lst pa_nil) (nomark _)))))
(pss_one (ps_asg (pe_cr G_law_odd_word (hr.mono (by omega)) (by rfl) T.v_law_odd_word T.k_law_odd_word pass0 (pa_cons (pv 0) (pa_cons (pv 1) pa_nil))) (pg_sub (pv 3) (pe_cr G_law_draw (hr.mono (by omega)) (by rfl) T.v_law_draw T.k_law_draw pass0 (pa_cons (pv 0) (pa_cons (pe_callB call_len (by rfl) T.z_len (by decide +kernel) (pa_cons (pv 3) pa_nil)) pa_nil))) set_list)))
pss_nil)
(pss_mid (ps_if (pt_cmpR op_eq (pv 5) pe_int (nomark _))
(pss_one (ps_set (i := 4) sc_law_bent_row.nd rfl (.inl rfl) (pe_op op_add_str (pe_op op_add_str (pe_slice sl_str (pv 4) po_none (po_some (pv 6))) (pe_cr G_law_odd_sign (hr.mono (by omega)) (by rfl) T.v_law_odd_sign T.k_law_odd_sign pass0 (pa_cons (pv 0) (pa_cons pe_str pa_nil)))) (pe_slice sl_str (pv 4) (po_some (pv 6)) po_none))))
pss_nil)
(pss_mid (ps_if (pt_cmpR op_eq (pv 5) pe_int (nomark _))
(pss_one (ps_set (i := 4) sc_law_bent_row.nd rfl (.inl rfl) (pe_op op_add_str (pe_op op_add_str (pe_slice sl_str (pv 4) po_none (po_some (pv 6))) (pe_cr G_law_odd_sign (hr.mono (by omega)) (by rfl) T.v_law_odd_sign T.k_law_odd_sign pass0 (pa_cons (pv 0) (pa_cons pe_str pa_nil)))) (pe_slice sl_str (pv 4) (po_some (pe_op op_add (pv 6) pe_int)) po_none))))
pss_nil)
(pss_mid (ps_if (pt_cmpR op_eq (pv 5) pe_int (nomark _))
(pss_one (ps_set (i := 4) sc_law_bent_row.nd rfl (.inl rfl) (pe_op op_add_str (pe_slice sl_str (pv 4) po_none (po_some (pv 6))) (pe_slice sl_str (pv 4) (po_some (pe_op op_add (pv 6) pe_int)) po_none))))
pss_nil)
(pss_mid (ps_if (pt_cmpR op_eq (pv 5) pe_int (nomark _))
(pss_one (ps_set (i := 4) sc_law_bent_row.nd rfl (.inl rfl) (pe_op op_add_str (pe_slice sl_str (pe_ix (r := rIxT K) ix_tup (pe_cr G_law_pick (hr.mono (by omega)) (by rfl) T.v_law_pick T.k_law_pick pass0 (pa_cons (pv 0) (pa_cons (pv 1) pa_nil))) pe_int (fun _ _ => rfl)) po_none (po_some pe_int)) (pe_slice sl_str (pv 4) (po_some pe_int) po_none))))
pss_nil)
(pss_one (ps_ret (pe_tup (pa_cons (pe_ix (r := rIxT K) ix_tup (pv 2) pe_int (fun _ _ => rfl)) (pa_cons (pe_ix (r := rIxT K) ix_tup (pv 2) pe_int (fun _ _ => rfl)) (pa_cons (pe_callTy call_tuple_of (by rfl) T.z_tuple (by decide +kernel) (pa_cons (pv 3) pa_nil)) (pa_cons (pv 4) pa_nil))))))))))))))))))), ?_⟩
    obtain ⟨a, pw, rfl, ha, hw⟩ := hv
    have wl := sn0.wl
    have fl := sn0.fm.2
    refine ⟨.ref a, rfl, a, _, 2, _, rfl, rfl, SqT.of ha, rfl, pw, _, rfl, .inr (SqT.of hw), fun wa nwa => ?_⟩
    have s1 : Same H (upd H wa (.lst (strL rw0.ws))) := Same.new nwa
    have e1 : upd H wa (.lst (strL rw0.ws)) wa = some (.lst (strL rw0.ws)) := upd_same
    generalize upd H wa (.lst (strL rw0.ws)) = H1 at s1 e1
    have D1 : Drew p r H H1 := ⟨Same.frm s1, hP.keep s1⟩
    refine ⟨.ref a, rfl, a, _, 3, _, rfl, rfl, SqT.of (s1 _ _ ha), rfl, ?_⟩
    refine ⟨.ref p, rfl, p, r, 8, rfl, by decide, by decide, D1.pool, fun H2 way w0 w8 D2 => ?_⟩
    refine ⟨.ref p, rfl, .str (mk rw0.fm), rfl, .str (mk rw0.fm), rw0.fm.length, rfl, ⟨by rw [mk_len]; exact Nat.le_trans (show rw0.fm.length ≤ 1000 by omega) szle, (mk_len _).symm⟩, ?_⟩
    refine ⟨_, 1, rfl, rfl, p, r, _, rfl, by omega, by omega, D2.pool, fun H3 at_ a0 a1 D3 => ?_⟩
    obtain ⟨an, rfl⟩ := Int.eq_ofNat_of_zero_le a0
    have D03 := D1.trans (D2.trans D3)
    have wp : ¬ PR p r wa := fun z => PoolAt.some hP wa z nwa
    have ew3 : H3 wa = some (.lst (strL rw0.ws)) := D3.frm _ _ wp (D2.frm _ _ wp e1)
    have np : ∀ b o, H b = some o → (∀ xs, o ≠ .lst xs) → ¬ PR p r b := fun b o eb no z => by
      obtain ⟨xs, ex⟩ := hP.lst b z _ eb
      exact no xs ex
    have npa := np a _ ha (fun _ z => nomatch z)
    have npw := np pw _ hw (fun _ z => nomatch z)
    have kp : ∀ {H' : Hp}, Drew p r H H' → Kp H H' := fun D => D.kp hP
    have pws : ∀ r ∈ rs, Pw 9 r.kd ∧ Pw 9 r.nm := fun r hr => ⟨(sn r hr).kd, (sn r hr).nm⟩
    have row : ∀ {H' : Hp}, Drew p r H H' → H' a = some (.tup [.str (mk rw0.kd), .str (mk rw0.nm), .ref pw, .str (mk rw0.fm)]) := fun D => D.frm _ _ npa ha
    have wts : ∀ {H' : Hp}, Drew p r H H' → H' pw = some (.tup (strL rw0.ws)) := fun D => D.frm _ _ npw hw
    have lst : ∀ {H' : Hp}, Drew p r H H' → H' l = some (.lst us) := fun D => D.frm _ _ nl hl
    have ros : ∀ {H' : Hp}, Drew p r H H' → All2 (RO H') us rs := fun D => ro.imp fun _ _ y => y.kp (kp D)
    -- way 0
    refine ⟨_, rfl, rfl, _, rfl, ite2 (fun e => ?_) (fun e0 => ?_)⟩
    · refine ⟨.ref p, rfl, .ref l, rfl, p, r, l, us, rs, rfl, D03.pool, nl, lst D03, ros D03, rl, pws, fun H4 w4 p4 D4 => ?_⟩
      have D04 := D03.trans D4
      refine ⟨.ref a, rfl, a, _, 1, _, rfl, rfl, SqT.of (row D04), rfl, .ref a, rfl, a, _, 2, _, rfl, rfl, SqT.of (row D04), rfl, _, rfl, szle, fun z nz => ?_⟩
      exact q _ _ ⟨w4, rw0.nm, rw0.ws, rw0.fm⟩ ⟨z, pw, rfl, upd_same, Same.new nz _ _ (wts D04)⟩ ⟨p4, sn0.nm, sn0.ws, (show rw0.ws.length ≤ 3 + (m + 1) by omega), sn0.fm.mono (by omega)⟩ (D04.new nz)
    -- way 1
    refine ⟨_, rfl, rfl, _, rfl, ite2 (fun e => ?_) (fun e1 => ?_)⟩
    · refine ⟨.ref a, rfl, a, _, 0, _, rfl, rfl, SqT.of (row D03), rfl, .ref p, rfl, .ref l, rfl, p, r, l, us, rs, rfl, D03.pool, nl, lst D03, ros D03, rl, pws, fun H4 w4 p4 D4 => ?_⟩
      have D04 := D03.trans D4
      refine ⟨.ref a, rfl, a, _, 2, _, rfl, rfl, SqT.of (row D04), rfl, _, rfl, szle, fun z nz => ?_⟩
      exact q _ _ ⟨rw0.kd, w4, rw0.ws, rw0.fm⟩ ⟨z, pw, rfl, upd_same, Same.new nz _ _ (wts D04)⟩ ⟨sn0.kd, p4, sn0.ws, (show rw0.ws.length ≤ 3 + (m + 1) by omega), sn0.fm.mono (by omega)⟩ (D04.new nz)
    -- the ways with a cut behind each
    obtain ⟨J, eJ⟩ : ∃ J : Int → L2.St → Hp → Prop, J = fun k σ H' => ∃ ws f, σ = [some (.ref p), some (.ref l), some (.ref a), some (.ref wa), some (.str (mk f)), some (.int way), some (.int (an : Int))] ∧ Drew p r H H' ∧ H' wa = some (.lst (strL ws)) ∧ (∀ w ∈ ws, Pw 9 w) ∧ ws.length ≤ 3 + m + 1 ∧ Pw (8 + m + 1) f ∧ (k ≤ way → f.length ≤ 8 + m ∧ ws.length ≤ 3 + m) := ⟨_, rfl⟩
    have J0 : J 2 [some (.ref p), some (.ref l), some (.ref a), some (.ref wa), some (.str (mk rw0.fm)), some (.int way), some (.int (an : Int))] H3 := by
      rw [eJ]
      exact ⟨rw0.ws, rw0.fm, rfl, D03, ew3, sn0.ws, by omega, sn0.fm.mono (by omega), fun _ => ⟨fl, wl⟩⟩
    -- way 2
    refine ⟨J 3, ?_, ?_⟩
    · rw [eJ] at J0
      obtain ⟨ws, f, es, D4, ew, pw4, wl4, pf, hk⟩ := J0
      cases es
      refine ⟨_, rfl, rfl, _, rfl, ite2 (fun e => ?_) (fun e => ?_)⟩
      case refine_2 =>
        rw [eJ]
        exact ⟨ws, rw0.fm, rfl, D4, ew, pw4, wl4, pf, fun h => hk (by omega)⟩
      have ey : way = 2 := V.int.inj (of_decide_eq_true e)
      obtain ⟨f8, w3⟩ := hk (by omega)
      have fz := pf.2
      refine ⟨.ref wa, rfl, .inl ⟨rfl, _, SqL.of ew⟩, .ref p, rfl, .ref wa, rfl, .ref wa, _, rfl, .inl ⟨_, SqL.of ew, rfl⟩, _, 1, rfl, rfl, p, r, _, rfl, by omega, by rw [List.length_map]; omega, D4.pool, fun H5 v v0 v1 D5 => ?_⟩
      have D05 := D4.trans D5
      refine ⟨.ref p, rfl, .ref l, rfl, p, r, l, us, rs, rfl, D05.pool, nl, lst D05, ros D05, rl, pws, fun H6 w4 p4 D6 => ?_⟩
      have D06 := D05.trans D6
      have ew6 := D6.frm _ _ wp (D5.frm _ _ wp ew)
      rw [List.length_map] at v1
      refine ⟨wa, _, v, .str (mk w4), rfl, rfl, ew6, small1000 (by rw [List.length_map]; omega), v0, by omega, ?_⟩
      have ei : (strL ws).take v.toNat ++ [V.str (mk w4)] ++ (strL ws).drop v.toNat = strL (ws.take v.toNat ++ [w4] ++ ws.drop v.toNat) := by
        rw [strL_app, strL_app, ← List.map_take, ← List.map_drop]
        rfl
      rw [ei]
      have wl7 : (ws.take v.toNat ++ [w4] ++ ws.drop v.toNat).length = ws.length + 1 := by
        rw [List.length_append, List.length_append, List.length_take, List.length_drop]
        show min v.toNat ws.length + 1 + (ws.length - v.toNat) = _
        omega
      have pw7 : ∀ w ∈ ws.take v.toNat ++ [w4] ++ ws.drop v.toNat, Pw 9 w := fun w hw => by
        rcases List.mem_append.mp hw with hw | hw
        · rcases List.mem_append.mp hw with hw | hw
          · exact pw4 w (List.mem_of_mem_take hw)
          · rw [List.mem_singleton.mp hw]
            exact p4
        · exact pw4 w (List.mem_of_mem_drop hw)
      generalize ws.take v.toNat ++ [w4] ++ ws.drop v.toNat = ws7 at wl7 pw7
      have D07 : Drew p r H (upd H6 wa (.lst (strL ws7))) := D06.own nwa wp
      have ew7 : upd H6 wa (.lst (strL ws7)) wa = some (.lst (strL ws7)) := upd_same
      generalize upd H6 wa (.lst (strL ws7)) = H7 at D07 ew7
      refine ⟨.ref p, rfl, p, r, 2, rfl, by decide, by decide, D07.pool, fun H8 u u0 u1 D8 => ⟨rfl, _, rfl, ?_⟩⟩
      have D08 := D07.trans D8
      have ew8 := D8.frm _ _ wp ew7
      refine ite2 (fun _ => ?_) (fun _ => ?_)
      case refine_2 =>
        rw [eJ]
        exact ⟨ws7, rw0.fm, rfl, D08, ew8, pw7, by omega, pf, fun h => by omega⟩
      refine ⟨_, rfl, .ref wa, rfl, .ref wa, ws7.length, rfl, .inl ⟨_, SqL.of ew8, (List.length_map _).symm⟩, (ws7.length : Int), rfl, ?_, ?_⟩
      · have : ∀ i : Nat, i ≤ 9 → (i : Int).natAbs.log2 < 1920 := by decide +kernel
        exact this _ (by omega)
      rw [str_mk ws7.length (by omega)]
      refine ⟨mk rw0.fm, mk [48 + ws7.length], rfl, rfl, by rw [mk_len, mk_len]; exact Nat.le_trans (show rw0.fm.length + 1 ≤ 1000 by omega) szle, ?_⟩
      rw [mk_app, eJ]
      refine ⟨ws7, rw0.fm ++ [48 + ws7.length], rfl, D08, ew8, pw7, by omega, ?_, fun h => by omega⟩
      exact ⟨fun c hc => (List.mem_append.mp hc).elim (pf.1 c) fun z => by rw [List.mem_singleton.mp z]; omega, by rw [List.length_append]; show rw0.fm.length + 1 ≤ _; omega⟩
    intro σ' H4 hJ
    refine ⟨J 4, ?_, ?_⟩
    · rw [eJ] at hJ
      obtain ⟨ws, f, es, D4, ew, pw4, wl4, pf, hk⟩ := hJ
      cases es
      refine ⟨_, rfl, rfl, _, rfl, ite2 (fun e => ?_) (fun e => ?_)⟩
      case refine_2 =>
        rw [eJ]
        exact ⟨ws, f, rfl, D4, ew, pw4, wl4, pf, fun h => hk (by omega)⟩
      have ey : way = 3 := V.int.inj (of_decide_eq_true e)
      obtain ⟨f8, w3⟩ := hk (by omega)
      have fz := pf.2
      have asc : ∀ l ∈ ws, ∀ c ∈ l, c < 128 := fun l hl => (pw4 l hl).1
      refine ⟨.ref wa, rfl, Nat.zero_le _, fun z nz => ?_⟩
      have D5 := D4.new (o := .lst []) nz
      have ew5 := Same.new (o := .lst []) nz _ _ ew
      refine ⟨.list ((ws.map mk).map PyData.str), .list [], .lst (SqL.of (by rw [ew5]; show _ = some (HO.lst ((ws.map mk).map V.str)); rw [List.map_map]; rfl)) (dpStrs _), .lst (SqL.of upd_same) .nil, shapedStrs asc, rfl, _, rfl, ?_⟩
      generalize upd H4 z (.lst []) = H5 at D5 ew5
      cases ws with
      | nil =>
        refine iteF ?_
        rw [eJ]
        exact ⟨[], f, rfl, D5, ew5, pw4, wl4, pf, fun h => by omega⟩
      | cons w0 wr =>
      refine iteT ?_
      refine ⟨.ref p, rfl, .ref l, rfl, p, r, l, us, rs, rfl, D5.pool, nl, lst D5, ros D5, rl, pws, fun H6 w4 p4 D6 => ?_⟩
      have D06 := D5.trans D6
      have ew6 := D6.frm _ _ wp ew5
      have sl : (strL (w0 :: wr)).length = (w0 :: wr).length := List.length_map _
      refine ⟨.ref wa, rfl, .ref p, rfl, .ref wa, rfl, .ref wa, _, rfl, .inl ⟨_, SqL.of ew6, rfl⟩, p, r, _, rfl, by rw [sl, List.length_cons]; omega, by rw [sl]; omega, D06.pool, fun H7 v v0 v1 D7 => ?_⟩
      rw [sl] at v1
      have D07 := D06.trans D7
      have ew7 := D7.frm _ _ wp ew6
      refine ⟨wa, _, v, v.toNat, rfl, rfl, ew7, ?_, ?_⟩
      · rw [sl]
        unfold ixN
        rw [if_pos v0, if_pos v1]
      have es : (strL (w0 :: wr)).set v.toNat (.str (mk w4)) = strL ((w0 :: wr).set v.toNat w4) := by
        show (List.map _ _).set _ _ = List.map _ _
        rw [List.map_set]
      rw [es, eJ]
      refine ⟨(w0 :: wr).set v.toNat w4, f, rfl, D07.own nwa wp, upd_same, fun w hw => ?_, by rw [List.length_set]; exact wl4, pf, fun h => by omega⟩
      rcases List.mem_or_eq_of_mem_set hw with z | z
      · exact pw4 w z
      · rw [z]
        exact p4
    intro σ' H4 hJ
    refine ⟨J 5, ?_, ?_⟩
    · rw [eJ] at hJ
      obtain ⟨ws, f, es, D4, ew, pw4, wl4, pf, hk⟩ := hJ
      cases es
      refine ⟨_, rfl, rfl, _, rfl, ite2 (fun e => ?_) (fun e => ?_)⟩
      case refine_2 =>
        rw [eJ]
        exact ⟨ws, f, rfl, D4, ew, pw4, wl4, pf, fun h => hk (by omega)⟩
      have ey : way = 4 := V.int.inj (of_decide_eq_true e)
      obtain ⟨f8, w3⟩ := hk (by omega)
      have fz := pf.2
      refine ⟨_, rfl, .int (an : Int), rfl, (an : Int), rfl, mk f, rfl, by rw [mk_len]; exact Nat.le_trans (show f.length ≤ 1000 by omega) szle, ?_⟩
      rw [cutS_to]
      refine ⟨.ref p, rfl, p, r, [48, 49, 50, 51, 40, 122], rfl, D4.pool, by unfold Pw; decide +kernel, by decide, fun H5 c c7 D5 => ?_⟩
      have tk : (f.take an).length ≤ f.length := by rw [List.length_take]; omega
      refine ⟨mk (f.take an), mk [c], rfl, rfl, by rw [mk_len, mk_len]; exact Nat.le_trans (show (f.take an).length + 1 ≤ 1000 by omega) szle, ?_⟩
      rw [mk_app]
      refine ⟨_, rfl, .int (an : Int), rfl, (an : Int), rfl, mk f, rfl, by rw [mk_len]; exact Nat.le_trans (show f.length ≤ 1000 by omega) szle, ?_⟩
      rw [cutS_fr]
      have dr : (f.drop an).length ≤ f.length := by rw [List.length_drop]; omega
      refine ⟨mk (f.take an ++ [c]), mk (f.drop an), rfl, rfl, by rw [mk_len, mk_len, List.length_append]; exact Nat.le_trans (show (f.take an).length + 1 + (f.drop an).length ≤ 1000 by omega) szle, ?_⟩
      rw [mk_app]
      have ew' := D5.frm _ _ wp ew
      have pc : Pw (8 + m + 1) (f.take an ++ [c] ++ f.drop an) := by
        refine ⟨fun x hx => ?_, ?_⟩
        · rcases List.mem_append.mp hx with hx | hx
          · rcases List.mem_append.mp hx with hx | hx
            · exact pf.1 x (List.mem_of_mem_take hx)
            · rw [List.mem_singleton.mp hx]
              exact c7
          · exact pf.1 x (List.mem_of_mem_drop hx)
        · rw [List.length_append, List.length_append, List.length_take, List.length_drop]
          show min an f.length + 1 + (f.length - an) ≤ _
          omega
      rw [eJ]
      exact ⟨ws, f.take an ++ [c] ++ f.drop an, rfl, D4.trans D5, ew', pw4, wl4, pc, fun h => by omega⟩
    intro σ' H4 hJ
    refine ⟨J 6, ?_, ?_⟩
    · rw [eJ] at hJ
      obtain ⟨ws, f, es, D4, ew, pw4, wl4, pf, hk⟩ := hJ
      cases es
      refine ⟨_, rfl, rfl, _, rfl, ite2 (fun e => ?_) (fun e => ?_)⟩
      case refine_2 =>
        rw [eJ]
        exact ⟨ws, f, rfl, D4, ew, pw4, wl4, pf, fun h => hk (by omega)⟩
      have ey : way = 5 := V.int.inj (of_decide_eq_true e)
      obtain ⟨f8, w3⟩ := hk (by omega)
      have fz := pf.2
      refine ⟨_, rfl, .int (an : Int), rfl, (an : Int), rfl, mk f, rfl, by rw [mk_len]; exact Nat.le_trans (show f.length ≤ 1000 by omega) szle, ?_⟩
      rw [cutS_to]
      refine ⟨.ref p, rfl, p, r, [48, 49, 50, 51, 40, 122], rfl, D4.pool, by unfold Pw; decide +kernel, by decide, fun H5 c c7 D5 => ?_⟩
      have tk : (f.take an).length ≤ f.length := by rw [List.length_take]; omega
      refine ⟨mk (f.take an), mk [c], rfl, rfl, by rw [mk_len, mk_len]; exact Nat.le_trans (show (f.take an).length + 1 ≤ 1000 by omega) szle, ?_⟩
      rw [mk_app]
      refine ⟨_, rfl, .int (an : Int), rfl, (an : Int), 1, rfl, rfl, (an : Int) + 1, rfl, mk f, rfl, by rw [mk_len]; exact Nat.le_trans (show f.length ≤ 1000 by omega) szle, ?_⟩
      rw [show (an : Int) + 1 = ((an + 1 : Nat) : Int) by omega, cutS_fr]
      have dr : (f.drop (an + 1)).length ≤ f.length := by rw [List.length_drop]; omega
      refine ⟨mk (f.take an ++ [c]), mk (f.drop (an + 1)), rfl, rfl, by rw [mk_len, mk_len, List.length_append]; exact Nat.le_trans (show (f.take an).length + 1 + (f.drop (an + 1)).length ≤ 1000 by omega) szle, ?_⟩
      rw [mk_app]
      have ew' := D5.frm _ _ wp ew
      have pc : Pw (8 + m + 1) (f.take an ++ [c] ++ f.drop (an + 1)) := by
        refine ⟨fun x hx => ?_, ?_⟩
        · rcases List.mem_append.mp hx with hx | hx
          · rcases List.mem_append.mp hx with hx | hx
            · exact pf.1 x (List.mem_of_mem_take hx)
            · rw [List.mem_singleton.mp hx]
              exact c7
          · exact pf.1 x (List.mem_of_mem_drop hx)
        · rw [List.length_append, List.length_append, List.length_take, List.length_drop]
          show min an f.length + 1 + (f.length - (an + 1)) ≤ _
          omega
      rw [eJ]
      exact ⟨ws, f.take an ++ [c] ++ f.drop (an + 1), rfl, D4.trans D5, ew', pw4, wl4, pc, fun h => by omega⟩
    intro σ' H4 hJ
    refine ⟨J 7, ?_, ?_⟩
    · rw [eJ] at hJ
      obtain ⟨ws, f, es, D4, ew, pw4, wl4, pf, hk⟩ := hJ
      cases es
      refine ⟨_, rfl, rfl, _, rfl, ite2 (fun e => ?_) (fun e => ?_)⟩
      case refine_2 =>
        rw [eJ]
        exact ⟨ws, f, rfl, D4, ew, pw4, wl4, pf, fun h => hk (by omega)⟩
      have ey : way = 6 := V.int.inj (of_decide_eq_true e)
      obtain ⟨f8, w3⟩ := hk (by omega)
      have fz := pf.2
      refine ⟨_, rfl, .int (an : Int), rfl, (an : Int), rfl, mk f, rfl, by rw [mk_len]; exact Nat.le_trans (show f.length ≤ 1000 by omega) szle, ?_⟩
      rw [cutS_to]
      refine ⟨_, rfl, .int (an : Int), rfl, (an : Int), 1, rfl, rfl, (an : Int) + 1, rfl, mk f, rfl, by rw [mk_len]; exact Nat.le_trans (show f.length ≤ 1000 by omega) szle, ?_⟩
      rw [show (an : Int) + 1 = ((an + 1 : Nat) : Int) by omega, cutS_fr]
      have tk : (f.take an).length ≤ f.length := by rw [List.length_take]; omega
      have dr : (f.drop (an + 1)).length ≤ f.length := by rw [List.length_drop]; omega
      refine ⟨mk (f.take an), mk (f.drop (an + 1)), rfl, rfl, by rw [mk_len, mk_len]; exact Nat.le_trans (show (f.take an).length + (f.drop (an + 1)).length ≤ 1000 by omega) szle, ?_⟩
      rw [mk_app]
      have pc : Pw (8 + m + 1) (f.take an ++ f.drop (an + 1)) := by
        refine ⟨fun x hx => ?_, ?_⟩
        · rcases List.mem_append.mp hx with hx | hx
          · exact pf.1 x (List.mem_of_mem_take hx)
          · exact pf.1 x (List.mem_of_mem_drop hx)
        · rw [List.length_append, List.length_take, List.length_drop]
          omega
      rw [eJ]
      exact ⟨ws, f.take an ++ f.drop (an + 1), rfl, D4, ew, pw4, wl4, pc, fun h => by omega⟩
    intro σ' H4 hJ
    refine ⟨J 8, ?_, ?_⟩
    · rw [eJ] at hJ
      obtain ⟨ws, f, es, D4, ew, pw4, wl4, pf, hk⟩ := hJ
      cases es
      refine ⟨_, rfl, rfl, _, rfl, ite2 (fun e => ?_) (fun e => ?_)⟩
      case refine_2 =>
        rw [eJ]
        exact ⟨ws, f, rfl, D4, ew, pw4, wl4, pf, fun h => hk (by omega)⟩
      have ey : way = 7 := V.int.inj (of_decide_eq_true e)
      obtain ⟨f8, w3⟩ := hk (by omega)
      have fz := pf.2
      have ul := ro.len
      refine ⟨.ref p, rfl, .ref l, rfl, p, r, l, us, rfl, D4.pool, nl, lst D4, by omega, by omega, fun H5 x hx D5 => ?_⟩
      have D05 := D4.trans D5
      obtain ⟨i, ei⟩ := List.mem_iff_getElem?.mp hx
      obtain ⟨ro', er', b, pb, rfl, hb, _⟩ := (ros D05).get ei
      have sb := sn ro' (List.mem_of_getElem? er')
      have sbl := sb.fm.2
      refine ⟨b, _, 3, _, rfl, rfl, SqT.of hb, rfl, 1, rfl, mk ro'.fm, rfl, by rw [mk_len]; exact Nat.le_trans (show ro'.fm.length ≤ 1000 by omega) szle, ?_⟩
      rw [show cutS (mk ro'.fm) none (some 1) = mk (ro'.fm.take 1) from cutS_to _ 1]
      refine ⟨_, rfl, 1, rfl, mk f, rfl, by rw [mk_len]; exact Nat.le_trans (show f.length ≤ 1000 by omega) szle, ?_⟩
      rw [show cutS (mk f) (some 1) none = mk (f.drop 1) from cutS_fr _ 1]
      have tk : (ro'.fm.take 1).length ≤ 1 := by rw [List.length_take]; omega
      have dr : (f.drop 1).length ≤ f.length := by rw [List.length_drop]; omega
      refine ⟨mk (ro'.fm.take 1), mk (f.drop 1), rfl, rfl, by rw [mk_len, mk_len]; exact Nat.le_trans (show (ro'.fm.take 1).length + (f.drop 1).length ≤ 1000 by omega) szle, ?_⟩
      rw [mk_app]
      have pc : Pw (8 + m + 1) (ro'.fm.take 1 ++ f.drop 1) := by
        refine ⟨fun x hx => ?_, ?_⟩
        · rcases List.mem_append.mp hx with hx | hx
          · exact sb.fm.1 x (List.mem_of_mem_take hx)
          · exact pf.1 x (List.mem_of_mem_drop hx)
        · rw [List.length_append]
          omega
      rw [eJ]
      exact ⟨ws, ro'.fm.take 1 ++ f.drop 1, rfl, D05, D5.frm _ _ wp ew, pw4, wl4, pc, fun h => by omega⟩
    intro σ' H4 hJ
    rw [eJ] at hJ
    obtain ⟨ws, f, rfl, D4, ew, pw4, wl4, pf, _⟩ := hJ
    refine ⟨.ref a, rfl, a, _, 0, _, rfl, rfl, SqT.of (row D4), rfl, .ref a, rfl, a, _, 1, _, rfl, rfl, SqT.of (row D4), rfl, .ref wa, rfl, wa, _, rfl, .inl ⟨SqL.of ew, fun t nt => ?_⟩⟩
    refine ⟨_, rfl, szle, fun z nz => ?_⟩
    exact q _ _ ⟨rw0.kd, rw0.nm, ws, f⟩ ⟨z, t, rfl, upd_same, Same.new nz _ _ upd_same⟩ ⟨sn0.kd, sn0.nm, pw4, (show ws.length ≤ 3 + (m + 1) by omega), pf.mono (by omega)⟩ ((D4.new nt).new nz)
end
end TW

namespace TW
open PySem PySem.Spec PyProof.Rows L2
theorem Rsn.mono {m k : Nat} {r : Rw} (h : Rsn m r) (l : m ≤ k) : Rsn k r := ⟨h.kd, h.nm, h.ws, by have := h.wl; omega, h.fm.mono (by omega)⟩
theorem bigN_pw {n : List Nat} (h : bigN n = true) : Pw 9 n := ⟨(bigN_big h).1, Nat.le_trans (bigN_big h).2 (by decide)⟩
/-- a row as data -/
def rowD (r : Rw) : PyData := .tuple [.str (mk r.kd), .str (mk r.nm), .tuple ((r.ws.map mk).map PyData.str), .str (mk r.fm)]
/-- all of a row's words are plain signs -/
structure Rasc (r : Rw) : Prop where
  kd : ∀ c ∈ r.kd, c < 128
  nm : ∀ c ∈ r.nm, c < 128
  ws : ∀ w ∈ r.ws, ∀ c ∈ w, c < 128
  fm : ∀ c ∈ r.fm, c < 128
theorem Rsn.asc {m : Nat} {r : Rw} (h : Rsn m r) : Rasc r := ⟨h.kd.1, h.nm.1, fun w hw => (h.ws w hw).1, h.fm.1⟩
theorem strL_strs (ws : List (List Nat)) : strL ws = (ws.map mk).map V.str := by
  show List.map _ _ = _
  rw [List.map_map]
  rfl
theorem dpRow {K : PySem.W.Frag} {H : Hp} {v : V} {r : Rw} (h : RO H v r) : Dp K H v (rowD r) := by
  obtain ⟨a, p, rfl, ha, hp⟩ := h
  refine .tup (SqT.of ha) (.cons (.str _) (.cons (.str _) (.cons (.tup (SqT.of hp) ?_) (.cons (.str _) .nil))))
  rw [strL_strs]
  exact dpStrs r.ws
theorem dpRows {K : PySem.W.Frag} {H : Hp} : ∀ {us : List V} {rs : List Rw}, All2 (RO H) us rs → DpAll K H us (rs.map rowD)
  | _, _, .nil => .nil
  | _, _, .cons h t => .cons (dpRow h) (dpRows t)
theorem layRow {r : Rw} (h : Rasc r) : PyData.canLay0 (rowD r) = true := by
  show (PyData.canLay0 (.str (mk r.kd)) && (PyData.canLay0 (.str (mk r.nm)) && (PyData.canLayAll0 ((r.ws.map mk).map PyData.str) && (PyData.canLay0 (.str (mk r.fm)) && true)))) = true
  rw [layStrs r.ws h.ws, show PyData.canLay0 (.str (mk r.kd)) = true from strOk_of h.kd, show PyData.canLay0 (.str (mk r.nm)) = true from strOk_of h.nm, show PyData.canLay0 (.str (mk r.fm)) = true from strOk_of h.fm]
  rfl
theorem depthRow (r : Rw) : PyData.depth (rowD r) = 2 := by
  show max (PyData.depth (.str (mk r.kd))) (max (PyData.depth (.str (mk r.nm))) (max (PyData.depthAll ((r.ws.map mk).map PyData.str) + 1) (max (PyData.depth (.str (mk r.fm))) 0))) + 1 = 2
  rw [depthStrs]
  rfl
theorem layRows : ∀ {rs : List Rw}, (∀ r ∈ rs, Rasc r) → PyData.canLayAll0 (rs.map rowD) = true
  | [], _ => rfl
  | r :: rs, h => by
    show (PyData.canLay0 (rowD r) && PyData.canLayAll0 (rs.map rowD)) = true
    rw [layRow (h r List.mem_cons_self), layRows fun x hx => h x (List.mem_cons_of_mem _ hx)]
    rfl
theorem depthRows : ∀ rs : List Rw, PyData.depthAll (rs.map rowD) ≤ 2
  | [] => Nat.zero_le _
  | r :: rs => by
    show max (PyData.depth (rowD r)) (PyData.depthAll (rs.map rowD)) ≤ 2
    have := depthRows rs
    rw [depthRow]
    omega
theorem shapedRows {rs : List Rw} (h : ∀ r ∈ rs, Rasc r) : SeqAt.shaped (.list (rs.map rowD)) = true := by
  show (PyData.canLayAll0 (rs.map rowD) && decide (PyData.depthAll (rs.map rowD) + 1 ≤ 64)) = true
  have := depthRows rs
  rw [layRows h, decide_eq_true (show PyData.depthAll (rs.map rowD) + 1 ≤ 64 by omega)]
  rfl
def sp_bent : Sp := fun vs H Q _ => ∃ (p r l : Addr) (us : List V) (rs : List Rw) (m : Nat), vs = [.ref p, .ref l] ∧ PoolAt H p r ∧ ¬ PR p r l ∧ H l = some (.lst us) ∧ All2 (RO H) us rs ∧ rs.length ≤ 12 ∧ m ≤ 2 ∧ (∀ r ∈ rs, Rsn m r) ∧
  ∀ H' q us' rs', H q = none → H' q = some (.lst us') → All2 (RO H') us' rs' → rs'.length ≤ 12 → (∀ r ∈ rs', Rsn (m + 1) r) → Drew p r H H' → Q (.ref q) H'
theorem All2.set {α β : Type} {R : α → β → Prop} {a : α} {b : β} (r : R a b) : ∀ {as : List α} {bs : List β} (i : Nat), All2 R as bs → All2 R (as.set i a) (bs.set i b)
  | _, _, _, .nil => .nil
  | _, _, 0, .cons _ t => .cons r t
  | _, _, i + 1, .cons h t => .cons h (All2.set r i t)
section
variable {P : Program} {w : World} {K : PySem.W.Frag} {mg : Str → Option Value} {base : Heap}
theorem ok_bent (T : Tx K mg) (G_law_draw : FnR P w K mg base CX0 1 (He.ga K "_law_draw") sp_draw) : FnR P w K mg base CX0 5 (He.ga K "_law_bent") sp_bent := by
  have G_law_pick : FnR P w K mg base CX0 2 (He.ga K "_law_pick") sp_pick := ok_pick T G_law_draw
  have G_law_fresh : FnR P w K mg base CX0 3 (He.ga K "_law_fresh") sp_fresh := ok_fresh T G_law_draw
  have G_law_bent_row : FnR P w K mg base CX0 4 (He.ga K "_law_bent_row") sp_bentrow := ok_bentrow T G_law_draw
  refine fnR0 T.d_law_bent sc_law_bent (fun _ _ _ _ _ _ us hl => match us, hl with | [_, _], _ => rfl) (fun vs H Q E h => ?_) (fun cdv A outer s H vs Q E hr h => ?_)
  · obtain ⟨p, r, l, us, rs, m, rfl, _⟩ := h
    rfl
  · obtain ⟨p, r, l, us, rs, m, rfl, hP, nl, hl, ro, rl, m2, sn, q⟩ := h
    refine ⟨_, (pss_cons (ps_if (pt_cmpR (op_eqD hr.units) (pv 1) (pe_lst pa_nil) (nomark _))
(pss_one (ps_ret (pe_lst (pa_cons (pe_tup (pa_cons pe_str (pa_cons pe_str (pa_cons (pe_tup pa_nil) (pa_cons pe_str pa_nil))))) pa_nil))))
pss_nil)
(pss_cons (ps_set (i := 1) sc_law_bent.nd rfl (.inl rfl) (pe_callTy call_list_of (by rfl) T.z_list (by decide +kernel) (pa_cons (pv 1) pa_nil)))
(pss_cons (ps_set (i := 2) sc_law_bent.nd rfl (.inl rfl) (pe_cr G_law_draw (hr.mono (by omega)) (by rfl) T.v_law_draw T.k_law_draw pass0 (pa_cons (pv 0) (pa_cons (pe_callB call_len (by rfl) T.z_len (by decide +kernel) (pa_cons (pv 1) pa_nil)) pa_nil))))
(pss_cons (ps_set (i := 3) sc_law_bent.nd rfl (.inl rfl) (pe_cr G_law_draw (hr.mono (by omega)) (by rfl) T.v_law_draw T.k_law_draw pass0 (pa_cons (pv 0) (pa_cons pe_int pa_nil))))
(pss_cons (ps_if (pt_cmpR op_eq (pv 3) pe_int (nomark _))
(pss_one (ps_ret (pe_slice sl_list (pv 1) po_none (po_some (pv 2)))))
pss_nil)
(pss_cons (ps_if (pt_cmpR op_eq (pv 3) pe_int (nomark _))
(pss_cons (ps_expr (pe_bm PySem.F.plainAttrs_list PySem.F.slot_list_insert PySem.F.type_list_insert mt_insert (pv 1) (pa_cons (pv 2) (pa_cons (pe_cr G_law_pick (hr.mono (by omega)) (by rfl) T.v_law_pick T.k_law_pick pass0 (pa_cons (pv 0) (pa_cons (pv 1) pa_nil))) pa_nil))))
(pss_one (ps_ret (pe_slice sl_list (pv 1) po_none (po_some pe_int)))))
pss_nil)
(pss_cons (ps_if (pt_cmpR op_eq (pv 3) pe_int (nomark _))
(pss_cons (ps_expr (pe_bm PySem.F.plainAttrs_list PySem.F.slot_list_insert PySem.F.type_list_insert mt_insert (pv 1) (pa_cons (pv 2) (pa_cons (pe_tup (pa_cons (pe_cr G_law_fresh (hr.mono (by omega)) (by rfl) T.v_law_fresh T.k_law_fresh pass0 (pa_cons (pv 0) (pa_cons (pe_lst pa_nil) pa_nil))) (pa_cons (pe_cr G_law_fresh (hr.mono (by omega)) (by rfl) T.v_law_fresh T.k_law_fresh pass0 (pa_cons (pv 0) (pa_cons (pe_lst pa_nil) pa_nil))) (pa_cons (pe_tup pa_nil) (pa_cons pe_str pa_nil))))) pa_nil))))
(pss_one (ps_ret (pe_slice sl_list (pv 1) po_none (po_some pe_int)))))
pss_nil)
(pss_cons (ps_if (pt_cmpR op_eq (pv 3) pe_int (nomark _))
(pss_one (ps_ret (pe_slice sl_list (pe_op op_cat (pv 1) (pv 1)) po_none (po_some pe_int))))
pss_nil)
(pss_cons (ps_asg (pe_cr G_law_bent_row (hr.mono (by omega)) (by rfl) T.v_law_bent_row T.k_law_bent_row pass0 (pa_cons (pv 0) (pa_cons (pv 1) (pa_cons (pe_ix (r := rIxL K) ix_list (pv 1) (pv 2) (fun _ _ => rfl)) pa_nil)))) (pg_sub (pv 1) (pv 2) set_list))
(pss_one (ps_ret (pv 1)))))))))))), ?_⟩
    have ul := ro.len
    refine ⟨.ref l, rfl, Nat.zero_le _, fun z nz => ?_⟩
    have pz : ∀ {H' : Hp}, Drew p r H H' → All2 (RO H') us rs := fun D => ro.imp fun _ _ y => y.kp (D.kp hP)
    have s1 : Same H (upd H z (.lst [])) := Same.new nz
    have D1 : Drew p r H (upd H z (.lst [])) := (Drew.refl hP).new nz
    refine ⟨.list (rs.map rowD), .list [], .lst (SqL.of (s1 _ _ hl)) (dpRows (pz D1)), .lst (SqL.of upd_same) .nil, shapedRows fun r hr => (sn r hr).asc, rfl, _, rfl, ?_⟩
    generalize upd H z (.lst []) = H1 at s1 D1
    cases rs with
    | nil =>
      refine iteT ?_
      refine ⟨szle, fun t nt => ⟨szle, fun a na => ⟨szle, fun g ng => ?_⟩⟩⟩
      refine q _ g _ [⟨[75], [90], [], [122]⟩] (((D1.new nt).new na).free ng) upd_same (.cons ⟨a, t, rfl, Same.new ng _ _ upd_same, Same.new ng _ _ (Same.new na _ _ upd_same)⟩ .nil) (by decide) (fun x hx => ?_) (((D1.new nt).new na).new ng)
      rw [List.mem_singleton.mp hx]
      have h1 : Pw 9 [75] := ⟨by decide, by decide⟩
      have h2 : Pw 9 [90] := ⟨by decide, by decide⟩
      have h3 : Pw (8 + (m + 1)) [122] := ⟨by decide, by show 1 ≤ _; omega⟩
      exact ⟨h1, h2, fun w hw => (nomatch hw), Nat.zero_le _, h3⟩
    | cons r0 rr =>
    refine iteF ?_
    have rl0 : 1 ≤ (r0 :: rr).length := Nat.succ_le_succ (Nat.zero_le _)
    generalize r0 :: rr = rs at ro rl sn q ul pz rl0
    refine ⟨.ref l, rfl, l, _, rfl, .inl (SqL.of (s1 _ _ hl)), fun c nc => ?_⟩
    have ncH : H c = none := D1.free nc
    have cP : ¬ PR p r c := fun z => PoolAt.some hP c z ncH
    have D2 : Drew p r H (upd H1 c (.lst us)) := D1.new nc
    have e2 : upd H1 c (.lst us) c = some (.lst us) := upd_same
    generalize upd H1 c (.lst us) = H2 at D2 e2
    refine ⟨.ref p, rfl, .ref c, rfl, .ref c, _, rfl, .inl ⟨_, SqL.of e2, rfl⟩, p, r, _, rfl, by omega, by omega, D2.pool, fun H3 at_ a0 a1 D3 => ?_⟩
    obtain ⟨an, rfl⟩ := Int.eq_ofNat_of_zero_le a0
    have D03 := D2.trans D3
    have e3 := D3.frm _ _ cP e2
    refine ⟨.ref p, rfl, p, r, 12, rfl, by decide, by decide, D03.pool, fun H4 way w0 w12 D4 => ?_⟩
    have D04 := D03.trans D4
    have e4 := D4.frm _ _ cP e3
    have sn1 : ∀ r ∈ rs, Rsn (m + 1) r := fun r hr => (sn r hr).mono (Nat.le_succ m)
    have al : an < us.length := by omega
    -- way 0
    refine ⟨_, rfl, rfl, _, rfl, ite2 (fun _ => ?_) (fun _ => ?_)⟩
    · refine ⟨.ref c, rfl, .int (an : Int), rfl, (an : Int), rfl, c, us, rfl, SqL.of e4, fun d nd => ?_⟩
      rw [cutV_to]
      exact q _ d _ (rs.take an) (D04.free nd) upd_same ((pz (D04.new nd)).take an) (by rw [List.length_take]; omega) (fun r hr => sn1 r (List.mem_of_mem_take hr)) (D04.new nd)
    -- the first twelve of a longer list
    have fst : ∀ (H' : Hp) (us' : List V) (rs' : List Rw), Drew p r H H' → H' c = some (.lst us') → All2 (RO H') us' rs' → (∀ r ∈ rs', Rsn (m + 1) r) → ∀ d, H' d = none → Q (.ref d) (upd H' d (.lst (us'.take 12))) := fun H' us' rs' D e ro' sn' d nd =>
      q _ d _ (rs'.take 12) (D.free nd) upd_same ((ro'.imp fun _ _ y => y.same (Same.new nd)).take 12) (by rw [List.length_take]; omega) (fun r hr => sn' r (List.mem_of_mem_take hr)) (D.new nd)
    -- way 1
    refine ⟨_, rfl, rfl, _, rfl, ite2 (fun _ => ?_) (fun _ => ?_)⟩
    · refine ⟨.ref c, rfl, .inl ⟨rfl, _, SqL.of e4⟩, .int (an : Int), rfl, .ref p, rfl, .ref c, rfl, p, r, c, us, rfl, D04.pool, cP, e4, by omega, by omega, fun H5 x hx D5 => ?_⟩
      have D05 := D04.trans D5
      have e5 := D5.frm _ _ cP e4
      obtain ⟨i, ei⟩ := List.mem_iff_getElem?.mp hx
      refine ⟨c, us, (an : Int), x, rfl, rfl, e5, small1000 (by omega), by omega, by omega, ?_⟩
      have D06 : Drew p r H (upd H5 c (.lst (us.take (an : Int).toNat ++ [x] ++ us.drop (an : Int).toNat))) := D05.own ncH cP
      obtain ⟨r', er', ro'⟩ := (pz D06).get ei
      refine ⟨.ref c, rfl, 12, rfl, c, _, rfl, SqL.of upd_same, fun d nd => ?_⟩
      rw [show ∀ l : List V, cutV l none (some 12) = l.take 12 from fun l => cutV_to l 12]
      refine fst _ _ (rs.take (an : Int).toNat ++ [r'] ++ rs.drop (an : Int).toNat) D06 upd_same (All2.app (All2.app ((pz D06).take _) (.cons ro' .nil)) (All2.drop _ (pz D06))) (fun y hy => ?_) d nd
      rcases List.mem_append.mp hy with hy | hy
      · rcases List.mem_append.mp hy with hy | hy
        · exact sn1 y (List.mem_of_mem_take hy)
        · rw [List.mem_singleton.mp hy]
          exact sn1 r' (List.mem_of_getElem? er')
      · exact sn1 y (List.mem_of_mem_drop hy)
    -- way 2
    refine ⟨_, rfl, rfl, _, rfl, ite2 (fun _ => ?_) (fun _ => ?_)⟩
    · refine ⟨.ref c, rfl, .inl ⟨rfl, _, SqL.of e4⟩, .int (an : Int), rfl, .ref p, rfl, szle, fun g1 ng1 => ?_⟩
      have D5 := D04.new (o := .lst []) ng1
      have e5 := Same.new (o := .lst []) ng1 _ _ e4
      have g1P : ¬ PR p r g1 := fun z => PoolAt.some hP g1 z (D04.free ng1)
      refine ⟨p, r, g1, [], rfl, D5.pool, g1P, upd_same, Nat.zero_le _, fun H6 n1 b1 _ D6 => ?_⟩
      have D06 := D5.trans D6
      have e6 := D6.frm _ _ cP e5
      refine ⟨.ref p, rfl, szle, fun g2 ng2 => ?_⟩
      have D7 := D06.new (o := .lst []) ng2
      have e7 := Same.new (o := .lst []) ng2 _ _ e6
      have g2P : ¬ PR p r g2 := fun z => PoolAt.some hP g2 z (D06.free ng2)
      refine ⟨p, r, g2, [], rfl, D7.pool, g2P, upd_same, Nat.zero_le _, fun H8 n2 b2 _ D8 => ?_⟩
      have D08 := D7.trans D8
      have e8 := D8.frm _ _ cP e7
      refine ⟨szle, fun t nt => ⟨szle, fun x nx => ?_⟩⟩
      have D9 := (D08.new (o := .tup []) nt).new (o := .tup [.str (mk n1), .str (mk n2), .ref t, .str (Str.ofString "z")]) nx
      have e9 := Same.new (o := .tup [.str (mk n1), .str (mk n2), .ref t, .str (Str.ofString "z")]) nx _ _ (Same.new (o := .tup []) nt _ _ e8)
      have et : upd (upd H8 t (.tup [])) x (.tup [.str (mk n1), .str (mk n2), .ref t, .str (Str.ofString "z")]) t = some (.tup (strL [])) := Same.new nx _ _ upd_same
      have ex : upd (upd H8 t (.tup [])) x (.tup [.str (mk n1), .str (mk n2), .ref t, .str (Str.ofString "z")]) x = some (.tup [.str (mk n1), .str (mk n2), .ref t, .str (Str.ofString "z")]) := upd_same
      refine ⟨c, us, (an : Int), .ref x, rfl, rfl, e9, small1000 (by omega), by omega, by omega, ?_⟩
      generalize upd (upd H8 t (.tup [])) x (.tup [.str (mk n1), .str (mk n2), .ref t, .str (Str.ofString "z")]) = H9 at D9 e9 et ex
      have k10 : Kp H9 (upd H9 c (.lst (us.take (an : Int).toNat ++ [V.ref x] ++ us.drop (an : Int).toNat))) := Kp.updL e9
      have D10 : Drew p r H (upd H9 c (.lst (us.take (an : Int).toNat ++ [V.ref x] ++ us.drop (an : Int).toNat))) := D9.own ncH cP
      have rx : RO (upd H9 c (.lst (us.take (an : Int).toNat ++ [V.ref x] ++ us.drop (an : Int).toNat))) (.ref x) ⟨n1, n2, [], [122]⟩ := ⟨x, t, rfl, k10 _ _ ex (fun _ z => nomatch z), k10 _ _ et (fun _ z => nomatch z)⟩
      refine ⟨.ref c, rfl, 12, rfl, c, _, rfl, SqL.of upd_same, fun d nd => ?_⟩
      rw [show ∀ l : List V, cutV l none (some 12) = l.take 12 from fun l => cutV_to l 12]
      refine fst _ _ (rs.take (an : Int).toNat ++ [⟨n1, n2, [], [122]⟩] ++ rs.drop (an : Int).toNat) D10 upd_same (All2.app (All2.app ((pz D10).take _) (.cons rx .nil)) (All2.drop _ (pz D10))) (fun y hy => ?_) d nd
      rcases List.mem_append.mp hy with hy | hy
      · rcases List.mem_append.mp hy with hy | hy
        · exact sn1 y (List.mem_of_mem_take hy)
        · rw [List.mem_singleton.mp hy]
          have h3 : Pw (8 + (m + 1)) [122] := ⟨by decide, by show 1 ≤ _; omega⟩
          exact ⟨bigN_pw b1, bigN_pw b2, fun w hw => (nomatch hw), Nat.zero_le _, h3⟩
      · exact sn1 y (List.mem_of_mem_drop hy)
    -- way 3
    refine ⟨_, rfl, rfl, _, rfl, ite2 (fun _ => ?_) (fun _ => ?_)⟩
    · refine ⟨.ref c, rfl, .ref c, rfl, c, c, _, _, rfl, rfl, e4, e4, Nat.le_trans (show us.length + us.length ≤ 1000 by omega) szle, fun g ng => ?_⟩
      have D5 := D04.new (o := .lst (us ++ us)) ng
      refine ⟨12, rfl, g, _, rfl, SqL.of upd_same, fun d nd => ?_⟩
      rw [show ∀ l : List V, cutV l none (some 12) = l.take 12 from fun l => cutV_to l 12]
      refine q _ d _ ((rs ++ rs).take 12) (D5.free nd) upd_same ((All2.app (pz (D5.new nd)) (pz (D5.new nd))).take 12) (by rw [List.length_take]; omega) (fun y hy => ?_) (D5.new nd)
      rcases List.mem_append.mp (List.mem_of_mem_take hy) with hy | hy
      · exact sn1 y hy
      · exact sn1 y hy
    -- a row bent
    obtain ⟨x, ex⟩ : ∃ x, us[an]? = some x := ⟨us[an], List.getElem?_eq_getElem al⟩
    obtain ⟨r', er', ro'⟩ := (pz D04).get ex
    refine ⟨.ref p, rfl, .ref c, rfl, .ref c, rfl, .int (an : Int), rfl, c, us, (an : Int), x, rfl, rfl, SqL.of e4, atI_nat ex, ?_⟩
    refine ⟨p, r, c, us, rs, x, r', m, rfl, D04.pool, cP, e4, pz D04, by omega, by omega, m2, sn, ro', sn r' (List.mem_of_getElem? er'), fun H5 y r2 roy sn2 D5 => ?_⟩
    have D05 := D04.trans D5
    have e5 := D5.frm _ _ cP e4
    refine ⟨.ref c, rfl, .int (an : Int), rfl, c, us, (an : Int), an, rfl, rfl, e5, ixN_of al, ?_⟩
    have k6 : Kp H5 (upd H5 c (.lst (us.set an y))) := Kp.updL e5
    have D6 : Drew p r H (upd H5 c (.lst (us.set an y))) := D05.own ncH cP
    refine ⟨_, rfl, q _ c _ (rs.set an r2) ncH upd_same (All2.set (roy.kp k6) an (pz D6)) (by rw [List.length_set]; exact rl) (fun y hy => ?_) D6⟩
    rcases List.mem_or_eq_of_mem_set hy with z | z
    · exact sn1 y z
    · rw [z]
      exact sn2
end
end TW

namespace TW
open PySem PySem.Spec PyProof.Rows L2
section
variable {P : Program} {w : World} {K : PySem.W.Frag} {mg : Str → Option Value} {base : Heap}
theorem ok_lbig (T : Tx K mg) : FnR P w K mg base CX0 1 (He.ga K "_law_big") sp_big := by
  refine fnR0 T.d_law_big sc_law_big (fun _ _ _ _ _ _ us hl => match us, hl with | [_], _ => rfl) (fun vs H Q E h => ?_) (fun cdv A outer s H vs Q E hr h => ?_)
  · obtain ⟨n, rfl, _⟩ := h
    rfl
  · obtain ⟨n, rfl, ha, hl, c⟩ := h
    refine ⟨_, (pss_cons (ps_set (i := 1) sc_law_big.nd rfl (.inl rfl) pe_str)
(pss_cons (ps_if (PW.pt (pw_or (pt_not (pt_chain op_le op_le pe_int (pe_callB call_len (by rfl) T.z_len (by decide +kernel) (pa_cons (pv 0) pa_nil)) pe_int)) (pw_or1 (pt_cmpR op_notIn_sign (pe_ix ix_str (pv 0) pe_int (fun _ _ => rfl)) (pv 1) (by rfl)))))
(pss_one (ps_ret pe_bl))
pss_nil)
(pss_cons (ps_for PassesOwn.never rfl (pi_str (pv 0)) (pg_name (i := 2) sc_law_big.nd rfl (.inl rfl))
(pss_one (ps_if (pt_cmpR op_notIn_sign (pv 2) (pe_op op_add_str (pv 1) pe_str) (by rfl))
(pss_one (ps_ret pe_bl))
pss_nil)))
(pss_one (ps_ret pe_bl))))), ?_⟩
    have lz : (mk n).length ≤ sizeLine := by
      rw [mk_len]
      exact Nat.le_trans hl (by decide)
    have qs : ∀ b H', bigN n = b → Same H H' → Q (.bl b) H' := fun b H' e s => by
      rw [← e]
      exact c H' s
    rw [bigN_eq] at qs
    refine ⟨.str (mk n), rfl, .str (mk n), n.length, rfl, ⟨lz, (mk_len n).symm⟩, 1, n.length, rfl, rfl, _, rfl, ite2 (fun e => ?_) (fun e => ?_)⟩
    · have h1 : 1 ≤ n.length := by
        have := of_decide_eq_true e
        omega
      refine ⟨n.length, 8, rfl, rfl, _, rfl, ite2 (fun e2 => ?_) (fun e2 => ?_)⟩
      · have h8 : ¬ n.length ≤ 8 := fun z => by
          rw [decide_eq_true (show (n.length : Int) ≤ 8 by omega)] at e2
          cases e2
        exact iteT (qs false H (by rw [decide_eq_false h8, Bool.and_false]; rfl) (Same.refl _))
      have h8 : n.length ≤ 8 := by
        refine Decidable.byContradiction fun z => ?_
        rw [decide_eq_false (show ¬ (n.length : Int) ≤ 8 by omega)] at e2
        exact e2 rfl
      rw [decide_eq_true h1, decide_eq_true h8] at qs
      cases n with
      | nil => exact absurd h1 (Nat.not_succ_le_zero _)
      | cons c0 r =>
        refine ⟨.str (mk (c0 :: r)), rfl, mk (c0 :: r), 0, c0, rfl, rfl, lz, atI_nat (j := 0) rfl, .str capS, rfl, c0, capS, rfl, rfl, _, rfl, ?_⟩
        rw [cap_in c0 (ha c0 List.mem_cons_self)]
        refine ite2 (fun e3 => ?_) (fun e3 => ?_)
        · exact qs false H (by
            show (true && true && (capC c0 && _)) = false
            cases z : capC c0 with
            | false => rfl
            | true => rw [z] at e3; cases e3) (Same.refl _)
        have hc : capC c0 = true := by
          cases z : capC c0 with
          | true => rfl
          | false => rw [z] at e3; exact absurd rfl e3
        have full : bigN (c0 :: r) = (c0 :: r).all alnC := by
          rw [bigN_eq, decide_eq_true h1, decide_eq_true h8]
          show (true && true && (capC c0 && _)) = _
          rw [hc]
          rfl
        clear qs
        have g : ∀ (i : Nat) (x : Nat), (mk (c0 :: r)).cps[i]? = some x → (c0 :: r)[i]? = some x := fun i x h => by
          rw [← List.getElem?_toArray]
          exact h
        refine ⟨.str (mk (c0 :: r)), rfl, mk (c0 :: r), rfl, for_it walk_str (fun i σ H3 => ∃ y, σ = [some (.str (mk (c0 :: r))), some (.str capS), y] ∧ H3 = H ∧ ((c0 :: r).take i).all alnC = true) ⟨none, rfl, rfl, rfl⟩ (fun _ _ _ _ _ => trivial) ?_ ?_⟩
        · rintro i x σ H3 H4 hi ⟨y, rfl, rfl, hp⟩ ⟨rfl, c1, hc1, rfl⟩
          have gi := g i c1 hc1
          refine ⟨_, rfl, .str capS, rfl, capS, _, rfl, rfl, by decide +kernel, c1, _, rfl, rfl, _, rfl, ?_⟩
          rw [aln_in2 c1 (ha c1 (List.mem_of_getElem? gi))]
          refine ite2 (fun e4 => ?_) (fun e4 => ?_)
          · have no : alnC c1 = false := by
              cases z : alnC c1 with
              | false => rfl
              | true => rw [z] at e4; cases e4
            have nb : bigN (c0 :: r) = false := by
              rw [full]
              cases z : (c0 :: r).all alnC with
              | false => rfl
              | true =>
                have := List.all_eq_true.mp z c1 (List.mem_of_getElem? gi)
                rw [no] at this
                cases this
            rw [nb] at c
            exact c _ (Same.refl _)
          · have yes : alnC c1 = true := by
              cases z : alnC c1 with
              | true => rfl
              | false => rw [z] at e4; exact absurd rfl e4
            refine ⟨_, rfl, rfl, ?_⟩
            rw [List.take_add_one, gi, List.all_append, hp]
            show (true && (alnC c1 && true)) = true
            rw [yes]
            rfl
        · rintro σ H3 ⟨y, rfl, rfl, hp⟩
          rw [show (mk (c0 :: r)).cps.size = (c0 :: r).length from rfl, List.take_length] at hp
          rw [full, hp] at c
          exact c _ (Same.refl _)
    · have h1 : ¬ 1 ≤ n.length := fun z => e (decide_eq_true (by omega))
      exact ⟨false, rfl, iteT (qs false H (by rw [decide_eq_false h1]; rfl) (Same.refl _))⟩
theorem ok_lissmall (T : Tx K mg) : FnR P w K mg base CX0 1 (He.ga K "_law_is_small") sp_small := by
  refine fnR0 T.d_law_is_small sc_law_is_small (fun _ _ _ _ _ _ us hl => match us, hl with | [_], _ => rfl) (fun vs H Q E h => ?_) (fun cdv A outer s H vs Q E hr h => ?_)
  · obtain ⟨n, rfl, _⟩ := h
    rfl
  · obtain ⟨n, rfl, hn, n1000, c⟩ := h
    refine ⟨_, (pss_cons (ps_set (i := 1) sc_law_is_small.nd rfl (.inl rfl) pe_str)
(pss_cons (ps_if (PW.pt (pw_or (pt_not (pt_chain op_le op_le pe_int (pe_callB call_len (by rfl) T.z_len (by decide +kernel) (pa_cons (pv 0) pa_nil)) pe_int)) (pw_or (pt_cmpR op_notIn_sign (pe_ix ix_str (pv 0) pe_int (fun _ _ => rfl)) (pv 1) (by rfl)) (pw_or1 (pt_cmpR op_eq (pv 0) pe_str (nomark _))))))
(pss_one (ps_ret pe_bl))
pss_nil)
(pss_cons (ps_for PassesOwn.never rfl (pi_str (pv 0)) (pg_name (i := 2) sc_law_is_small.nd rfl (.inl rfl))
(pss_one (ps_if (pt_cmpR op_notIn_sign (pv 2) (pe_op op_add_str (pv 1) pe_str) (by rfl))
(pss_one (ps_ret pe_bl))
pss_nil)))
(pss_one (ps_ret pe_bl))))), ?_⟩
    have lz : (mk n).length ≤ sizeLine := by
      rw [mk_len]
      exact Nat.le_trans n1000 szle14
    have no : (smallN n = true → False) → Q (.bl false) H := fun h => by
      have := c H (Same.refl _)
      rw [Bool.eq_false_iff.mpr h] at this
      exact this
    refine ⟨.str (mk n), rfl, .str (mk n), n.length, rfl, ⟨lz, (mk_len n).symm⟩, 1, n.length, rfl, rfl, _, rfl, ite2 (fun e1 => ?_) (fun e1 => ?_)⟩
    case refine_2 =>
      refine ⟨false, rfl, iteT (no fun h => e1 (decide_eq_true ?_))⟩
      have := List.length_pos_iff.mpr (smallN_of h).1
      omega
    have l1 : 1 ≤ n.length := by have := of_decide_eq_true e1; omega
    refine ⟨n.length, 8, rfl, rfl, _, rfl, ite2 (fun e2 => ?_) (fun e2 => ?_)⟩
    · refine iteT (no fun h => ?_)
      have h8 := (smallN_of h).2.1
      rw [decide_eq_true (show (n.length : Int) ≤ 8 by omega)] at e2
      cases e2
    have l8 : n.length ≤ 8 := by
      refine Nat.le_of_not_lt fun z => e2 ?_
      rw [decide_eq_false (by omega)]
      rfl
    obtain ⟨c0, r, rfl⟩ : ∃ c0 r, n = c0 :: r := by
      cases n with
      | nil => cases l1
      | cons a b => exact ⟨a, b, rfl⟩
    refine ⟨.str (mk (c0 :: r)), rfl, mk (c0 :: r), 0, c0, rfl, rfl, lz, atI_nat (j := 0) rfl, .str lowS, rfl, c0, lowS, rfl, rfl, _, rfl, ?_⟩
    rw [low_in c0 (hn c0 List.mem_cons_self)]
    by_cases hl : lowC c0 = true
    case neg =>
      rw [Bool.eq_false_iff.mpr hl]
      exact iteT (iteT (no fun h => hl ((smallN_of h).2.2.2.1 c0 r rfl)))
    rw [hl]
    refine iteF ?_
    refine ⟨.str (mk (c0 :: r)), rfl, rfl, _, rfl, ?_⟩
    by_cases hd : c0 :: r = digW
    · rw [show decide (V.str (mk (c0 :: r)) = V.str (Str.ofString "digit")) = true from by rw [hd]; decide +kernel]
      exact iteT (no fun h => (smallN_of h).2.2.1 hd)
    rw [show decide (V.str (mk (c0 :: r)) = V.str (Str.ofString "digit")) = false from decide_eq_false fun z => hd (mk_inj (V.str.inj z))]
    refine iteF ?_
    have g : ∀ (i : Nat) (x : Nat), (mk (c0 :: r)).cps[i]? = some x → (c0 :: r)[i]? = some x := fun i x h => by
      rw [← List.getElem?_toArray]
      exact h
    refine ⟨.str (mk (c0 :: r)), rfl, mk (c0 :: r), rfl, for_it walk_str (fun i σ H3 => ∃ y, σ = [some (.str (mk (c0 :: r))), some (.str lowS), y] ∧ H3 = H ∧ ∀ x ∈ (c0 :: r).take i, (lowC x || digC x) = true) ⟨none, rfl, rfl, fun x hx => by rw [List.take_zero] at hx; cases hx⟩ (fun _ _ _ _ _ => trivial) ?_ ?_⟩
    · rintro i x σ H3 H4 hi ⟨y, rfl, rfl, hp⟩ ⟨rfl, c1, hc1, rfl⟩
      have gi := g i c1 hc1
      refine ⟨_, rfl, .str lowS, rfl, lowS, _, rfl, rfl, by decide +kernel, c1, _, rfl, rfl, _, rfl, ?_⟩
      rw [show decide (c1 ∈ (lowS ++ Str.ofString "0123456789").cps.toList) = (lowC c1 || digC c1) from lod_in c1 (hn c1 (List.mem_of_getElem? gi))]
      cases hc : (lowC c1 || digC c1) with
      | false =>
        refine iteT (no fun h => ?_)
        have := (smallN_of h).2.2.2.2 c1 (List.mem_of_getElem? gi)
        rw [hc] at this
        cases this
      | true =>
        refine iteF ⟨_, rfl, rfl, fun x hx => ?_⟩
        rw [take_get gi] at hx
        rcases List.mem_append.mp hx with hx | hx
        · exact hp x hx
        · rw [List.mem_singleton.mp hx]
          exact hc
    · rintro σ H3 ⟨y, rfl, rfl, hp⟩
      rw [show (mk (c0 :: r)).cps.size = (c0 :: r).length from rfl, List.take_length] at hp
      have full : smallN (c0 :: r) = true := smallN_mk l1 l8 hd (fun c' r' e => by rw [← (List.cons.inj e).1]; exact hl) hp
      rw [full] at c
      exact c _ (Same.refl _)
end
end TW

namespace TW
open PySem PySem.Spec PyProof.Rows L2
theorem cut_123 : ∀ n : Nat, n ≤ 3 → cutS (Str.ofString "123") none (some (n : Int)) = mk (plc n) := by
  intro n hn
  have : n = 0 ∨ n = 1 ∨ n = 2 ∨ n = 3 := by omega
  rcases this with rfl | rfl | rfl | rfl <;> decide +kernel
section
variable {P : Program} {w : World} {K : PySem.W.Frag} {mg : Str → Option Value} {base : Heap}
theorem ok_lformed (T : Tx K mg) : FnR P w K mg base CX0 1 (He.ga K "_law_formed") (fun vs H Q E => ∃ x y, vs = [x, y] ∧ sp_form [y, x] H Q E) := by
  refine fnR0 T.d_law_formed sc_law_formed (fun _ _ _ _ _ _ us hl => match us, hl with | [_, _], _ => rfl) (fun vs H Q E h => ?_) (fun cdv A outer s H vs Q E hr h => ?_)
  · obtain ⟨x, y, rfl, f, ws, p, e, _⟩ := h
    rfl
  · obtain ⟨x, y, rfl, f, ws, p, e, hp, wl, hf, f1000, c⟩ := h
    cases e
    refine ⟨_, (pss_cons (ps_set (i := 2) sc_law_formed.nd rfl (.inl rfl) pe_str)
(pss_cons (ps_set (i := 3) sc_law_formed.nd rfl (.inl rfl) (pe_slice sl_str pe_str po_none (po_some (pe_callB call_len (by rfl) T.z_len (by decide +kernel) (pa_cons (pv 0) pa_nil)))))
(pss_cons (ps_if (pt_not (pt_chain op_le op_le pe_int (pe_callB call_len (by rfl) T.z_len (by decide +kernel) (pa_cons (pv 1) pa_nil)) pe_int))
(pss_one (ps_ret pe_bl))
pss_nil)
(pss_cons (ps_for PassesOwn.never rfl (pi_str (pv 1)) (pg_name (i := 4) sc_law_formed.nd rfl (.inl rfl))
(pss_one (ps_if (pt_cmpR op_notIn_sign (pv 4) (pe_op op_add_str (pv 2) (pv 3)) (by rfl))
(pss_one (ps_ret pe_bl))
pss_nil)))
(pss_cons (ps_for PassesOwn.never rfl (pi_str (pv 3)) (pg_name (i := 5) sc_law_formed.nd rfl (.inl rfl))
(pss_one (ps_if (pt_cmpR op_ne (pe_m1 PySem.F.slot_str_count PySem.F.type_str_count mt_count (pv 1) (pv 5)) pe_int (nomark _))
(pss_one (ps_ret pe_bl))
pss_nil)))
(pss_one (ps_ret (pe_or (pe_cmpR op_notIn_sign (pe_ix ix_str (pv 1) pe_int (fun _ _ => rfl)) (pv 3) (by rfl)) (pe_one (pe_cmpR op_eq (pe_ix (r := rIxT K) ix_tup (pv 0) (pe_op op_sub (pe_callTy call_int_str (by rfl) T.z_int (by decide +kernel) (pa_cons (pe_ix ix_str (pv 1) pe_int (fun _ _ => rfl)) pa_nil)) pe_int) (fun _ _ => rfl)) pe_str (nomark _))))))))))), ?_⟩
    have sl : (strL ws).length = ws.length := List.length_map _
    have lz : (mk f).length ≤ sizeLine := by
      rw [mk_len]
      exact Nat.le_trans f1000 szle14
    have f49 : fsS.length = 49 := by decide +kernel
    have pl : (plc ws.length).length ≤ 3 := by
      rw [List.length_take]
      show min _ 3 ≤ 3
      omega
    refine ⟨.ref p, rfl, .ref p, ws.length, rfl, .inr ⟨_, SqT.of hp, sl.symm⟩, (ws.length : Int), rfl, Str.ofString "123", rfl, szle, ?_⟩
    rw [cut_123 ws.length wl]
    have no : fmB f ws = false → Q (.bl false) H := fun e => by
      have := c H (Same.refl _)
      rw [e] at this
      exact this
    refine ⟨.str (mk f), rfl, .str (mk f), f.length, rfl, ⟨lz, (mk_len f).symm⟩, 1, f.length, rfl, rfl, _, rfl, ite2 (fun e1 => ?_) (fun e1 => ?_)⟩
    case refine_2 =>
      refine ⟨false, rfl, iteT (no ?_)⟩
      unfold fmB
      rw [show Nat.ble 1 f.length = false from Bool.eq_false_iff.mpr fun z => e1 (decide_eq_true (by have := Nat.le_of_ble_eq_true z; omega))]
      rfl
    have l1 : 1 ≤ f.length := by have := of_decide_eq_true e1; omega
    have b1 : Nat.ble 1 f.length = true := Nat.ble_eq_true_of_le l1
    refine ⟨f.length, 8, rfl, rfl, _, rfl, ite2 (fun e2 => ?_) (fun e2 => ?_)⟩
    · refine no ?_
      unfold fmB
      rw [b1, show Nat.ble f.length 8 = false from Bool.eq_false_iff.mpr fun z => ?_]
      · rfl
      · have := Nat.le_of_ble_eq_true z
        rw [decide_eq_true (show (f.length : Int) ≤ 8 by omega)] at e2
        cases e2
    have l8 : f.length ≤ 8 := by
      refine Nat.le_of_not_lt fun z => e2 ?_
      rw [decide_eq_false (by omega)]
      rfl
    have b8 : Nat.ble f.length 8 = true := Nat.ble_eq_true_of_le l8
    have g : ∀ (l : List Nat) (i : Nat) (x : Nat), (mk l).cps[i]? = some x → l[i]? = some x := fun l i x h => by
      rw [← List.getElem?_toArray]
      exact h
    refine ⟨.str (mk f), rfl, mk f, rfl, for_it walk_str (fun i σ H3 => ∃ y4 y5, σ = [some (.ref p), some (.str (mk f)), some (.str fsS), some (.str (mk (plc ws.length))), y4, y5] ∧ H3 = H ∧ ∀ x ∈ f.take i, x ∈ fsS.cps.toList ++ plc ws.length) ⟨none, none, rfl, rfl, fun x hx => by rw [List.take_zero] at hx; cases hx⟩ (fun _ _ _ _ _ => trivial) ?_ ?_⟩
    · rintro i x σ H3 H4 hi ⟨y4, y5, rfl, rfl, hp3⟩ ⟨rfl, c1, hc1, rfl⟩
      have gi := g f i c1 hc1
      refine ⟨_, rfl, .str fsS, rfl, .str (mk (plc ws.length)), rfl, fsS, mk (plc ws.length), rfl, rfl, ?_, c1, _, rfl, rfl, _, rfl, ?_⟩
      · rw [mk_len]
        exact Nat.le_trans (show fsS.length + (plc ws.length).length ≤ 1400 by omega) szle14
      have e : (fsS ++ mk (plc ws.length)).cps.toList = fsS.cps.toList ++ plc ws.length := by
        rw [← mk_of fsS, mk_app]
        rfl
      rw [e]
      by_cases hc : c1 ∈ fsS.cps.toList ++ plc ws.length
      case neg =>
        rw [decide_eq_false hc]
        refine iteT (no (Bool.eq_false_iff.mpr fun z => ?_))
        unfold fmB at z
        obtain ⟨_, z⟩ := Bool.and_eq_true_iff.mp z
        obtain ⟨_, z⟩ := Bool.and_eq_true_iff.mp z
        obtain ⟨z, _⟩ := Bool.and_eq_true_iff.mp z
        exact hc (of_decide_eq_true (List.all_eq_true.mp z c1 (List.mem_of_getElem? gi)))
      rw [decide_eq_true hc]
      refine iteF ⟨_, _, rfl, rfl, fun x hx => ?_⟩
      rw [take_get gi] at hx
      rcases List.mem_append.mp hx with hx | hx
      · exact hp3 x hx
      · rw [List.mem_singleton.mp hx]
        exact hc
    rintro σ H3 ⟨y4, y5, rfl, rfl, hp3⟩
    rw [show (mk f).cps.size = f.length from rfl, List.take_length] at hp3
    have h3 : f.all (fun c => decide (c ∈ fsS.cps.toList ++ plc ws.length)) = true := List.all_eq_true.mpr fun x hx => decide_eq_true (hp3 x hx)
    refine ⟨_, rfl, mk (plc ws.length), rfl, for_it walk_str (fun i σ H4 => ∃ y4 y5, σ = [some (.ref p), some (.str (mk f)), some (.str fsS), some (.str (mk (plc ws.length))), y4, y5] ∧ H4 = H3 ∧ ∀ x ∈ (plc ws.length).take i, cnt x f = 1) ⟨_, _, rfl, rfl, fun x hx => by rw [List.take_zero] at hx; cases hx⟩ (fun _ _ _ _ _ => trivial) ?_ ?_⟩
    · rintro i x σ H4 H5 hi ⟨y4, y5, rfl, rfl, hp4⟩ ⟨rfl, c1, hc1, rfl⟩
      have gi := g (plc ws.length) i c1 hc1
      refine ⟨.str (mk f), rfl, ⟨_, rfl⟩, _, rfl, mk f, mk [c1], rfl, rfl, rfl, _, rfl, ?_⟩
      rw [show Txt.count (mk f) (mk [c1]) = cnt c1 f from count_cnt (mk f) c1]
      by_cases hc : cnt c1 f = 1
      case neg =>
        rw [decide_eq_false fun z => hc (V.int.inj z)]
        refine iteT (no (Bool.eq_false_iff.mpr fun z => ?_))
        unfold fmB at z
        obtain ⟨_, z⟩ := Bool.and_eq_true_iff.mp z
        obtain ⟨_, z⟩ := Bool.and_eq_true_iff.mp z
        obtain ⟨_, z⟩ := Bool.and_eq_true_iff.mp z
        obtain ⟨z, _⟩ := Bool.and_eq_true_iff.mp z
        exact hc (of_decide_eq_true (List.all_eq_true.mp z c1 (List.mem_of_getElem? gi)))
      rw [hc, decide_eq_true rfl]
      refine iteF ⟨_, _, rfl, rfl, fun x hx => ?_⟩
      rw [take_get gi] at hx
      rcases List.mem_append.mp hx with hx | hx
      · exact hp4 x hx
      · rw [List.mem_singleton.mp hx]
        exact hc
    rintro σ H4 ⟨y4, y5, rfl, rfl, hp4⟩
    rw [show (mk (plc ws.length)).cps.size = (plc ws.length).length from rfl, List.take_length] at hp4
    have h4 : (plc ws.length).all (fun p => decide (cnt p f = 1)) = true := List.all_eq_true.mpr fun x hx => decide_eq_true (hp4 x hx)
    obtain ⟨c0, r, rfl⟩ : ∃ c0 r, f = c0 :: r := by
      cases f with
      | nil => cases l1
      | cons a b => exact ⟨a, b, rfl⟩
    have fin : fmB (c0 :: r) ws = (!decide (c0 ∈ plc ws.length) || decide (ws[c0 - 49]? = some digW)) := by
      unfold fmB
      rw [b1, b8, h3, h4]
      rfl
    have q2 := c _ (Same.refl _)
    rw [fin] at q2
    refine ⟨.str (mk (c0 :: r)), rfl, mk (c0 :: r), 0, c0, rfl, rfl, lz, atI_nat (j := 0) rfl, .str (mk (plc ws.length)), rfl, c0, mk (plc ws.length), rfl, rfl, _, rfl, ?_⟩
    rw [show (mk (plc ws.length)).cps.toList = plc ws.length from rfl]
    by_cases hc : c0 ∈ plc ws.length
    · rw [decide_eq_true hc] at q2 ⊢
      refine iteF ?_
      have h1 := plc_idx wl hc
      have h5 := plc_sub hc
      obtain ⟨w0, ew0⟩ : ∃ w0, ws[c0 - 49]? = some w0 := ⟨_, List.getElem?_eq_getElem h1.2⟩
      refine ⟨.ref p, rfl, .str (mk (c0 :: r)), rfl, mk (c0 :: r), 0, c0, rfl, rfl, lz, atI_nat (j := 0) rfl, mk [c0], _, rfl, int_dig c0 (by omega) (by omega), (by rw [mk_len]; show 1 ≤ 640; decide), _, 1, rfl, rfl, p, strL ws, _, .str (mk w0), rfl, rfl, SqT.of hp, ?_, rfl, ?_⟩
      · rw [show (((c0 - 48 : Nat) : Nat) : Int) - 1 = ((c0 - 49 : Nat) : Int) by omega]
        refine atI_nat ?_
        rw [List.getElem?_map, ew0]
        rfl
      · rw [show decide (V.str (mk w0) = V.str (Str.ofString "digit")) = decide (ws[c0 - 49]? = some digW) from ?_]
        · exact q2
        · rw [ew0]
          by_cases e : w0 = digW
          · rw [e, decide_eq_true rfl]
            decide +kernel
          · rw [decide_eq_false (fun z => e (Option.some.inj z))]
            exact decide_eq_false (p := V.str (mk w0) = V.str (Str.ofString "digit")) fun z => e (mk_inj (V.str.inj z))
    · rw [decide_eq_false hc] at q2 ⊢
      exact iteT q2
end
end TW

namespace TW
open PySem PySem.Spec PyProof.Rows L2
theorem fs_123 : ∀ c ∈ fsS.cps.toList, decide (c ∈ (Str.ofString "123").cps.toList) = digC c := by decide +kernel
theorem lc_filtT4 {K : PySem.W.Frag} {a : Addr} {α : Type} {xs : List α} {h : α → V} {tt : TT} {te : TE} {s : Nat} {σ : L2.St} {H1 : Hp} {D : Addr} {Qd : Hp → Prop} (p : α → Bool) (g : α → V) (hl : H1 a = some (.tup (xs.map h))) (nD : H1 D = none) (small : xs.length ≤ 1400)
    (h2 : ∀ x : V, wipe ((wipe σ [s]).set s (some x)) [s] = wipe σ [s]) (ht : ∀ (c : α) (H' : Hp) (Q : Bool → Hp → Prop), c ∈ xs → Same H1 H' → Q (p c) H' → tt ((wipe σ [s]).set s (some (h c))) H' Q)
    (he : ∀ (c : α) (H' : Hp) (Q : VK), c ∈ xs → Same H1 H' → Q (g c) H' → te ((wipe σ [s]).set s (some (h c))) H' Q) (q : Qd (upd H1 D (.lst ((xs.filter p).map g)))) :
    LcGoal (Itt K a) (gName s) tt te [s] σ H1 D Qd := by
  have sm : ∀ l : List V, Same H1 (upd H1 D (.lst l)) := fun l => Same.new nD
  refine lc_tup (xs := xs.map h) (fun i H3 => i ≤ xs.length ∧ H3 = upd H1 D (.lst (((xs.take i).filter p).map g))) ⟨Nat.zero_le _, rfl⟩ ?_ ?_ ?_
  · rintro i H3 _ ⟨_, rfl⟩
    exact SqT.of (sm _ _ _ hl)
  · rintro i x H3 hx ⟨_, rfl⟩
    rw [List.getElem?_map] at hx
    cases gi : xs[i]? with
    | none => rw [gi] at hx; cases hx
    | some c1 =>
    rw [gi] at hx
    have ex := (Option.some.inj hx).symm
    subst ex
    have hlt : i < xs.length := (List.getElem?_eq_some_iff.mp gi).1
    have cm := List.mem_of_getElem? gi
    refine ⟨h2 _, ?_⟩
    have et : (xs.take (i + 1)).filter p = (xs.take i).filter p ++ (if p c1 then [c1] else []) := by
      rw [take_get gi, List.filter_append, List.filter_cons]
      rfl
    refine ht c1 _ _ cm (sm _) ?_
    cases e : p c1 with
    | true =>
      rw [if_pos e] at et
      rw [if_pos rfl]
      refine he c1 _ _ cm (sm _) ⟨_, upd_same, ?_, hlt, ?_⟩
      · have := List.length_filter_le p (xs.take i)
        rw [List.length_take] at this
        rw [List.length_map]
        exact small14 (by omega)
      · rw [upd_upd, et, List.map_append]
        rfl
    | false =>
      rw [if_neg (by rw [e]; exact Bool.false_ne_true), List.append_nil] at et
      rw [if_neg Bool.false_ne_true]
      exact ⟨hlt, by rw [et]⟩
  · rintro H3 ⟨_, rfl⟩
    rw [List.length_map, List.take_length]
    exact q
def sp_lstart : Sp := fun vs H Q _ => ∃ v r, vs = [v] ∧ RO H v r ∧ FmOk r.fm r.ws ∧ Q (.str (mk (sS r.fm))) H
def sp_lalone : Sp := fun vs H Q _ => ∃ (l : Addr) (us : List V) (rs : List Rw) (i : Nat) (r : Rw), vs = [.ref l, .int i] ∧ H l = some (.lst us) ∧ All2 (RO H) us rs ∧ rs.length ≤ 10 ∧ rs[i]? = some r ∧ (∀ r ∈ rs, RwS r) ∧ ∀ H', Same H H' → Q (.str (mk (fltA (rs.take i) r))) H'
section
variable {P : Program} {w : World} {K : PySem.W.Frag} {mg : Str → Option Value} {base : Heap}
theorem ok_lstart (T : Tx K mg) : FnR P w K mg base CX0 1 (He.ga K "_law_start") sp_lstart := by
  refine fnR0 T.d_law_start sc_law_start (fun _ _ _ _ _ _ us hl => match us, hl with | [_], _ => rfl) (fun vs H Q E h => ?_) (fun cdv A outer s H vs Q E hr h => ?_)
  · obtain ⟨v, r, rfl, _⟩ := h
    rfl
  · obtain ⟨v, r, rfl, ⟨a, p, rfl, ha, hp⟩, fo, q⟩ := h
    refine ⟨_, (pss_cons (ps_if (pt_cmpR op_in_sign (pe_ix ix_str (pe_ix (r := rIxT K) ix_tup (pv 0) pe_int (fun _ _ => rfl)) pe_int (fun _ _ => rfl)) pe_str (by rfl))
(pss_one (ps_ret pe_str))
pss_nil)
(pss_one (ps_ret (pe_ix ix_str (pe_ix (r := rIxT K) ix_tup (pv 0) pe_int (fun _ _ => rfl)) pe_int (fun _ _ => rfl))))), ?_⟩
    have lo := fo.lo
    have hi := fo.hi
    obtain ⟨c0, f, ef⟩ : ∃ c0 f, r.fm = c0 :: f := by
      cases e : r.fm with
      | nil => rw [e] at lo; cases lo
      | cons a b => exact ⟨a, b, rfl⟩
    have lz : (mk r.fm).length ≤ sizeLine := by
      rw [mk_len]
      exact Nat.le_trans (show r.fm.length ≤ 1000 by omega) szle
    have e0 : r.fm[0]? = some c0 := by rw [ef]; rfl
    refine ⟨.ref a, rfl, a, _, 3, .str (mk r.fm), rfl, rfl, SqT.of ha, rfl, mk r.fm, 0, c0, rfl, rfl, lz, atI_nat (j := 0) e0, c0, Str.ofString "123", rfl, rfl, _, rfl, ?_⟩
    have ed : decide (c0 ∈ (Str.ofString "123").cps.toList) = digC c0 := by
      rcases fo.signs c0 (by rw [ef]; exact List.mem_cons_self) with z | z
      · exact fs_123 c0 z
      · rcases plc_sub z with e | e | e <;> rw [e] <;> decide +kernel
    rw [ed]
    have es : sS r.fm = if digC c0 then [48] else [c0] := by rw [ef]; rfl
    rw [es] at q
    cases hd : digC c0 with
    | true =>
      rw [hd] at q
      exact iteT q
    | false =>
      rw [hd] at q
      exact iteF ⟨.ref a, rfl, a, _, 3, .str (mk r.fm), rfl, rfl, SqT.of ha, rfl, mk r.fm, 0, c0, rfl, rfl, lz, atI_nat (j := 0) e0, q⟩
theorem ok_lalone (T : Tx K mg) : FnR P w K mg base CX0 2 (He.ga K "_law_alone") sp_lalone := by
  have G_law_big : FnR P w K mg base CX0 1 (He.ga K "_law_big") sp_big := ok_lbig T
  have G_law_kinds_of : FnR P w K mg base CX0 1 (He.ga K "_law_kinds_of") sp_lkinds := ok_lkinds T
  have G_law_formed : FnR P w K mg base CX0 1 (He.ga K "_law_formed") (fun vs H Q E => ∃ x y, vs = [x, y] ∧ sp_form [y, x] H Q E) := ok_lformed T
  refine fnR0 T.d_law_alone sc_law_alone (fun _ _ _ _ _ _ us hl => match us, hl with | [_, _], _ => rfl) (fun vs H Q E h => ?_) (fun cdv A outer s H vs Q E hr h => ?_)
  · obtain ⟨l, us, rs, i, r, rfl, _⟩ := h
    rfl
  · obtain ⟨l, us, rs, i, r, rfl, hl, ro, rl, er, sn, q⟩ := h
    refine ⟨_, (pss_cons (ps_set (i := 2) sc_law_alone.nd rfl (.inl rfl) (pe_ix (r := rIxL K) ix_list (pv 0) (pv 1) (fun _ _ => rfl)))
(pss_cons (ps_setLc (i := 3) (own := [("_law_want", 6)]) (g := gName 6) rfl sc_law_alone.nd rfl rfl (sw_true rfl rfl rfl (by decide +kernel)) (pi_tup (pe_ix (r := rIxT K) ix_tup (pv 2) pe_int (fun _ _ => rfl))) (blkOk_by (own := [("_law_want", 6)]) (N := N_law_alone) (sc := defScope s_law_alone) (by decide +kernel)) (fun _ _ _ _ _ => pg_name (i := 6) sc_law_alone.nd rfl (.inl rfl)) (fun _ _ _ _ _ => (pts_one (pt_cmpR op_ne (pv 6) pe_str (nomark _)))) (fun _ _ _ _ _ => (pv 6)))
(pss_cons (ps_for PassesOwn.never rfl (pi_list (pe_op op_cat (pe_lst (pa_cons (pe_ix (r := rIxT K) ix_tup (pv 2) pe_int (fun _ _ => rfl)) (pa_cons (pe_ix (r := rIxT K) ix_tup (pv 2) pe_int (fun _ _ => rfl)) pa_nil))) (pv 3))) (pg_name (i := 4) sc_law_alone.nd rfl (.inl rfl))
(pss_one (ps_if (pt_not (pt_val (pe_cr G_law_big (hr.mono (by omega)) (by rfl) T.v_law_big T.k_law_big pass0 (pa_cons (pv 4) pa_nil))))
(pss_one (ps_ret pe_str))
pss_nil)))
(pss_cons (ps_set (i := 5) sc_law_alone.nd rfl (.inl rfl) (pe_cr G_law_kinds_of (hr.mono (by omega)) (by rfl) T.v_law_kinds_of T.k_law_kinds_of pass0 (pa_cons (pe_slice sl_list (pv 0) po_none (po_some (pv 1))) pa_nil)))
(pss_mid (ps_if (PW.pt (pw_and (pt_cmpR op_notIn_seq (pe_ix (r := rIxT K) ix_tup (pv 2) pe_int (fun _ _ => rfl)) (pv 5) (by rfl)) (pw_and1 (pt_cmpR op_eq (pe_callB call_len (by rfl) T.z_len (by decide +kernel) (pa_cons (pv 5) pa_nil)) pe_int (nomark _)))))
(pss_one (ps_ret pe_str))
pss_nil)
(pss_cons (ps_if (pt_cmpR op_in_seq (pe_ix (r := rIxT K) ix_tup (pv 2) pe_int (fun _ _ => rfl)) (pe_lc (own := [("_law_one", 7)]) (g := gName 7) rfl sc_law_alone.nd (pi_list (pe_slice sl_list (pv 0) po_none (po_some (pv 1)))) (blkOk_by (own := [("_law_one", 7)]) (N := N_law_alone) (sc := defScope s_law_alone) (by decide +kernel)) (fun _ _ _ _ _ => pg_name (i := 7) sc_law_alone.nd rfl (.inl rfl)) (fun _ _ _ _ _ => pts_nil) (fun _ _ _ _ _ => (pe_ix (r := rIxT K) ix_tup (pv 7) pe_int (fun _ _ => rfl)))) (by rfl))
(pss_one (ps_ret pe_str))
pss_nil)
(pss_cons (ps_if (PW.pt (pw_or (pt_cmpR op_gt (pe_callB call_len (by rfl) T.z_len (by decide +kernel) (pa_cons (pe_ix (r := rIxT K) ix_tup (pv 2) pe_int (fun _ _ => rfl)) pa_nil)) pe_int (nomark _)) (pw_or1 (pt_cmpR op_gt (pe_callB call_len (by rfl) T.z_len (by decide +kernel) (pa_cons (pv 3) pa_nil)) pe_int (nomark _)))))
(pss_one (ps_ret pe_str))
pss_nil)
(pss_cons (ps_if (pt_not (pt_val (pe_cr G_law_formed (hr.mono (by omega)) (by rfl) T.v_law_formed T.k_law_formed pass0 (pa_cons (pe_ix (r := rIxT K) ix_tup (pv 2) pe_int (fun _ _ => rfl)) (pa_cons (pe_ix (r := rIxT K) ix_tup (pv 2) pe_int (fun _ _ => rfl)) pa_nil)))))
(pss_one (ps_ret pe_str))
pss_nil)
(pss_one (ps_ret pe_str)))))))))), ?_⟩
    have ul := ro.len
    have il := (List.getElem?_eq_some_iff.mp er).1
    obtain ⟨v, ev⟩ : ∃ v, us[i]? = some v := ⟨us[i], List.getElem?_eq_getElem (by omega)⟩
    obtain ⟨r', er', a, p, rfl, ha, hp⟩ := ro.get ev
    rw [er] at er'
    cases er'
    have sr := sn r (List.mem_of_getElem? er)
    have wl := sr.wl
    have tl : (trW r.ws).length ≤ 1390 := Nat.le_trans (List.length_filter_le _ _) wl
    have words : ∀ x ∈ r.kd :: r.nm :: trW r.ws, (∀ c ∈ x, c < 128) ∧ x.length ≤ 1400 := fun x hx => by
      rcases List.mem_cons.mp hx with rfl | hx
      · exact sr.kd
      rcases List.mem_cons.mp hx with rfl | hx
      · exact sr.nm
      · exact sr.ws x (List.mem_filter.mp hx).1
    refine ⟨.ref l, rfl, .int i, rfl, l, us, i, _, rfl, rfl, SqL.of hl, atI_nat ev, ?_⟩
    -- trees
    refine ⟨.ref a, rfl, a, _, 2, .ref p, rfl, rfl, SqT.of ha, rfl, p, rfl, ⟨_, SqT.of hp⟩, fun D nD => ?_⟩
    refine lc_filtT4 (xs := r.ws) (h := fun w => .str (mk w)) (fun w => decide (w ≠ digW)) (fun w => .str (mk w)) hp nD (by omega) (fun _ => rfl) (fun w0 H' Q' hw s' q' => ?_) (fun w0 H' Q' hw s' q' => ⟨_, rfl, q'⟩) ?_
    · refine ⟨_, rfl, rfl, _, rfl, ?_⟩
      rw [dec_strW]
      by_cases e : w0 = digW
      · rw [decide_eq_true e]
        rw [decide_eq_false (fun z => z e)] at q'
        exact q'
      · rw [decide_eq_false e]
        rw [decide_eq_true e] at q'
        exact q'
    have s1 : Same H (upd H D (.lst (strL (trW r.ws)))) := Same.new nD
    have e1 : upd H D (.lst (strL (trW r.ws))) D = some (.lst (strL (trW r.ws))) := upd_same
    rw [show upd H D (.lst ((r.ws.filter fun w => decide (w ≠ digW)).map fun w => V.str (mk w))) = upd H D (.lst (strL (trW r.ws))) from rfl]
    generalize upd H D (.lst (strL (trW r.ws))) = H1 at s1 e1
    refine ⟨.ref a, rfl, a, _, 0, .str (mk r.kd), rfl, rfl, SqT.of (s1 _ _ ha), rfl, .ref a, rfl, a, _, 1, .str (mk r.nm), rfl, rfl, SqT.of (s1 _ _ ha), rfl, szle, fun g ng => ?_⟩
    have s2 : Same H1 (upd H1 g (.lst [.str (mk r.kd), .str (mk r.nm)])) := Same.new ng
    have e2 : upd H1 g (.lst [.str (mk r.kd), .str (mk r.nm)]) g = some (.lst [.str (mk r.kd), .str (mk r.nm)]) := upd_same
    generalize upd H1 g (.lst [.str (mk r.kd), .str (mk r.nm)]) = H2 at s2 e2
    refine ⟨.ref D, rfl, g, D, _, _, rfl, rfl, e2, s2 _ _ e1, Nat.le_trans (show 2 + (strL (trW r.ws)).length ≤ 1400 by rw [List.length_map]; omega) szle14, fun g2 ng2 => ?_⟩
    have s3 : Same H2 (upd H2 g2 (.lst (strL (r.kd :: r.nm :: trW r.ws)))) := Same.new ng2
    have e3 : upd H2 g2 (.lst (strL (r.kd :: r.nm :: trW r.ws))) g2 = some (.lst (strL (r.kd :: r.nm :: trW r.ws))) := upd_same
    rw [show upd H2 g2 (.lst ([V.str (mk r.kd), V.str (mk r.nm)] ++ strL (trW r.ws))) = upd H2 g2 (.lst (strL (r.kd :: r.nm :: trW r.ws))) from rfl]
    generalize upd H2 g2 (.lst (strL (r.kd :: r.nm :: trW r.ws))) = H3 at s3 e3
    have s03 := s1.trans (s2.trans s3)
    have e1' := s3 _ _ (s2 _ _ e1)
    refine ⟨g2, rfl, ⟨_, SqL.of e3⟩, for_list (xs := strL (r.kd :: r.nm :: trW r.ws)) (fun k σ H4 => ∃ y4, σ = [some (.ref l), some (.int i), some (.ref a), some (.ref D), y4, none, none, none] ∧ Same H3 H4 ∧ ∀ x ∈ (r.kd :: r.nm :: trW r.ws).take k, bigN x = true) ?_ ?_ ?_ ?_⟩
    · exact ⟨none, rfl, Same.refl _, fun x hx => by rw [List.take_zero] at hx; cases hx⟩
    · rintro k σ H4 _ ⟨y4, _, s4, _⟩
      exact SqL.of (s4 _ _ e3)
    · rintro k x σ H4 hx ⟨y4, rfl, s4, hb⟩
      rw [List.getElem?_map] at hx
      cases ew : (r.kd :: r.nm :: trW r.ws)[k]? with
      | none => rw [ew] at hx; cases hx
      | some w0 =>
      rw [ew] at hx
      have ex := (Option.some.inj hx).symm
      subst ex
      have hw := words w0 (List.mem_of_getElem? ew)
      refine ⟨_, rfl, w0, rfl, hw.1, by omega, fun H5 s5 => ⟨bigN w0, rfl, ?_⟩⟩
      cases hw0 : bigN w0 with
      | false =>
        refine iteT ?_
        have : fltA (rs.take i) r = namW := by
          unfold fltA
          rw [if_neg fun z => ?_]
          have := List.all_eq_true.mp z w0 (List.mem_of_getElem? ew)
          rw [hw0] at this
          cases this
        rw [this] at q
        exact q _ (s03.trans (s4.trans s5))
      | true =>
        refine iteF ⟨_, rfl, s4.trans s5, fun y hy => ?_⟩
        rw [take_get ew] at hy
        rcases List.mem_append.mp hy with hy | hy
        · exact hb y hy
        · rw [List.mem_singleton.mp hy]
          exact hw0
    rintro σ H4 ⟨y4, rfl, s4, hb⟩
    rw [show (strL (r.kd :: r.nm :: trW r.ws)).length = (r.kd :: r.nm :: trW r.ws).length from List.length_map _, List.take_length] at hb
    have all1 : (r.kd :: r.nm :: trW r.ws).all bigN = true := List.all_eq_true.mpr hb
    unfold fltA at q
    rw [if_pos all1] at q
    have s04 := s03.trans s4
    have e1'' := s4 _ _ e1'
    -- kinds
    refine ⟨.ref l, rfl, .int i, rfl, i, rfl, l, us, rfl, SqL.of (s04 _ _ hl), fun c nc => ?_⟩
    rw [cutV_to]
    have s5 := s04.trans (Same.new (o := .lst (us.take i)) nc)
    have e5 := Same.new (o := .lst (us.take i)) nc _ _ e1''
    have ec : upd H4 c (.lst (us.take i)) c = some (.lst (us.take i)) := upd_same
    generalize upd H4 c (.lst (us.take i)) = H5 at s5 e5 ec
    refine ⟨c, _, rs.take i, rfl, ec, (ROs.same s5 ro).take i, by rw [List.length_take]; omega, fun H6 kl s6 nkl ekl => ?_⟩
    have s06 := s5.trans s6
    have e6 := s6 _ _ e5
    have row : ∀ {H' : Hp}, Same H H' → H' a = some (.tup [.str (mk r.kd), .str (mk r.nm), .ref p, .str (mk r.fm)]) := fun s => s _ _ ha
    -- the kinds
    refine ⟨fun σ H' => σ = [some (.ref l), some (.int i), some (.ref a), some (.ref D), y4, some (.ref kl), none, none] ∧ H6 = H' ∧ ¬ (r.kd ∉ kds (rs.take i) ∧ (kds (rs.take i)).length = 3), ?_, ?_⟩
    · refine ⟨.ref a, rfl, a, _, 0, .str (mk r.kd), rfl, rfl, SqT.of (row s06), rfl, .ref kl, rfl, kl, _, rfl, .inl (SqL.of ekl), rfl, flat_strL _, _, rfl, ?_⟩
      rw [if_pos rfl, in_strL]
      have kll : (strL (kds (rs.take i))).length = (kds (rs.take i)).length := List.length_map _
      by_cases hk : r.kd ∈ kds (rs.take i)
      · rw [decide_eq_true hk]
        exact iteF ⟨rfl, rfl, fun z => z.1 hk⟩
      · rw [decide_eq_false hk]
        refine iteT ⟨.ref kl, rfl, .ref kl, _, rfl, .inl ⟨_, SqL.of ekl, rfl⟩, rfl, _, rfl, ?_⟩
        by_cases h3 : (kds (rs.take i)).length = 3
        · rw [show decide (V.int ((strL (kds (rs.take i))).length : Nat) = V.int 3) = true from decide_eq_true (by rw [kll, h3]; rfl)]
          rw [if_pos ⟨hk, h3⟩] at q
          exact iteT (q _ s06)
        · rw [decide_eq_false fun z => h3 (by have := V.int.inj z; omega)]
          exact iteF ⟨rfl, rfl, fun z => h3 z.2⟩
    rintro σ' H' ⟨rfl, rfl, hk⟩
    rw [if_neg hk] at q
    -- the names
    refine ⟨.ref a, rfl, a, _, 1, .str (mk r.nm), rfl, rfl, SqT.of (row s06), rfl, .ref l, rfl, .int i, rfl, i, rfl, l, us, rfl, SqL.of (s06 _ _ hl), fun c2 nc2 => ⟨c2, rfl, ⟨_, SqL.of upd_same⟩, fun D2 nD2 => ?_⟩⟩
    rw [cutV_to] at nD2 ⊢
    have s7 := s06.trans (Same.new (o := .lst (us.take i)) nc2)
    have e7 := Same.new (o := .lst (us.take i)) nc2 _ _ e6
    have ec2 : upd H6 c2 (.lst (us.take i)) c2 = some (.lst (us.take i)) := upd_same
    generalize upd H6 c2 (.lst (us.take i)) = H7 at s7 e7 ec2 nD2
    have ro7 := (ROs.same s7 ro).take i
    have tkl : (us.take i).length = (rs.take i).length := ro7.len
    have tkr : (rs.take i).length ≤ 10 := by rw [List.length_take]; omega
    refine lc_pureL (xs := us.take i) (fs := strL ((rs.take i).map (·.nm))) (SqL.of ec2) nD2 (by rw [List.length_map, List.length_map, tkl]) (by omega) (fun _ => rfl) (fun j y z H' Q' hy hz' s' q' => ?_) ?_
    · obtain ⟨rw0, ero, b, pw0, rfl, hb, _⟩ := ro7.get hy
      rw [List.getElem?_map, List.getElem?_map, ero] at hz'
      have ez := (Option.some.inj hz').symm
      subst ez
      exact ⟨_, rfl, b, _, 1, _, rfl, rfl, SqT.of (s' _ _ hb), rfl, q'⟩
    have s8 := s7.trans (Same.new (o := .lst (strL ((rs.take i).map (·.nm)))) nD2)
    have e8 := Same.new (o := .lst (strL ((rs.take i).map (·.nm)))) nD2 _ _ e7
    have eD2 : upd H7 D2 (.lst (strL ((rs.take i).map (·.nm)))) D2 = some (.lst (strL ((rs.take i).map (·.nm)))) := upd_same
    generalize upd H7 D2 (.lst (strL ((rs.take i).map (·.nm)))) = H8 at s8 e8 eD2
    refine ⟨D2, _, rfl, .inl (SqL.of eD2), rfl, flat_strL _, _, rfl, ?_⟩
    rw [if_neg Bool.false_ne_true, in_strL]
    by_cases hn : r.nm ∈ (rs.take i).map (·.nm)
    · rw [decide_eq_true hn]
      rw [if_pos hn] at q
      exact iteT (q _ s8)
    rw [decide_eq_false hn]
    rw [if_neg hn] at q
    refine iteF ?_
    -- the parts
    have pw : H8 p = some (.tup (strL r.ws)) := s8 _ _ hp
    refine ⟨.ref a, rfl, a, _, 2, .ref p, rfl, rfl, SqT.of (row s8), rfl, .ref p, _, rfl, .inr ⟨_, SqT.of pw, rfl⟩, _, 3, rfl, rfl, _, rfl, ?_⟩
    have wll : (strL r.ws).length = r.ws.length := List.length_map _
    have tll : (strL (trW r.ws)).length = (trW r.ws).length := List.length_map _
    by_cases h3 : 3 < r.ws.length
    · rw [decide_eq_true (show (((strL r.ws).length : Nat) : Int) > 3 by omega)]
      rw [if_pos (.inl h3)] at q
      exact iteT (iteT (q _ s8))
    rw [decide_eq_false (show ¬ (((strL r.ws).length : Nat) : Int) > 3 by omega)]
    refine iteF ⟨.ref D, rfl, .ref D, _, rfl, .inl ⟨_, SqL.of e8, rfl⟩, _, 2, rfl, rfl, _, rfl, ?_⟩
    by_cases h2 : 2 < (trW r.ws).length
    · rw [decide_eq_true (show (((strL (trW r.ws)).length : Nat) : Int) > 2 by omega)]
      rw [if_pos (.inr h2)] at q
      exact iteT (q _ s8)
    rw [decide_eq_false (show ¬ (((strL (trW r.ws)).length : Nat) : Int) > 2 by omega)]
    rw [if_neg fun z => z.elim h3 h2] at q
    refine iteF ?_
    -- the form
    refine ⟨.ref a, rfl, a, _, 2, .ref p, rfl, rfl, SqT.of (row s8), rfl, .ref a, rfl, a, _, 3, .str (mk r.fm), rfl, rfl, SqT.of (row s8), rfl, .ref p, .str (mk r.fm), rfl, r.fm, r.ws, p, rfl, pw, by omega, sr.fm.1, sr.fm.2, fun H9 s9 => ⟨fmB r.fm r.ws, rfl, ?_⟩⟩
    cases hf : fmB r.fm r.ws with
    | false =>
      rw [hf] at q
      exact iteT (q _ (s8.trans s9))
    | true =>
      rw [hf] at q
      exact iteF (q _ (s8.trans s9))
end
end TW

namespace TW
/-! ### the kinds that have finite trees: plain -/
def gOk (b : List (List Nat)) (r : Rw) : Bool := (r.ws.all fun w => decide (w = digW) || decide (w ∈ b)) && decide (r.kd ∉ b)
def gstep (b : List (List Nat)) (r : Rw) : List (List Nat) := if gOk b r = true then b ++ [r.kd] else b
def gpass (rs : List Rw) (b : List (List Nat)) : List (List Nat) := rs.foldl gstep b
/-- what the law's three rounds find -/
def gAll (rs : List Rw) : List (List Nat) := gpass rs (gpass rs (gpass rs []))
theorem gstep_len (b : List (List Nat)) (r : Rw) : b.length ≤ (gstep b r).length := by
  unfold gstep
  split
  · rw [List.length_append]
    exact Nat.le_add_right _ _
  · exact Nat.le_refl _
theorem gpass_len : ∀ (rs : List Rw) (b : List (List Nat)), b.length ≤ (gpass rs b).length
  | [], _ => Nat.le_refl _
  | r :: rs, b => Nat.le_trans (gstep_len b r) (gpass_len rs (gstep b r))
theorem gpass_stay : ∀ (rs : List Rw) (b : List (List Nat)), (gpass rs b).length = b.length → gpass rs b = b ∧ ∀ r ∈ rs, gOk b r = false
  | [], _, _ => ⟨rfl, fun r hr => nomatch hr⟩
  | r :: rs, b, h => by
    have h1 := gstep_len b r
    have h2 := gpass_len rs (gstep b r)
    have h3 : gpass (r :: rs) b = gpass rs (gstep b r) := rfl
    rw [h3] at h
    cases e : gOk b r with
    | true =>
      have : (gstep b r).length = b.length + 1 := by
        unfold gstep
        rw [if_pos e, List.length_append]
        rfl
      omega
    | false =>
      have es : gstep b r = b := by
        unfold gstep
        rw [if_neg (by rw [e]; exact Bool.false_ne_true)]
      rw [es] at h h3
      obtain ⟨h4, h5⟩ := gpass_stay rs b h
      refine ⟨h3.trans h4, fun x hx => ?_⟩
      rcases List.mem_cons.mp hx with rfl | hx
      · exact e
      · exact h5 x hx
structure GSub (rs : List Rw) (b : List (List Nat)) : Prop where
  nd : b.Nodup
  sub : ∀ k ∈ b, k ∈ kds rs
  dr : ∀ k ∈ b, ∃ t, Drv rs k t
theorem gwit {rs : List Rw} {b : List (List Nat)} (h : GSub rs b) : ∀ ws : List (List Nat), (∀ w ∈ ws, w = digW ∨ w ∈ b) → ∃ ts : List Tr, ts.length = ws.length ∧ ∀ (i : Nat) (w : List Nat) (t : Tr), ws[i]? = some w → ts[i]? = some t → Drv rs w t
  | [], _ => ⟨[], rfl, fun i w t e => by simp at e⟩
  | w :: ws, hw => by
    obtain ⟨ts, l, d⟩ := gwit h ws fun x hx => hw x (List.mem_cons_of_mem _ hx)
    obtain ⟨t, dt⟩ : ∃ t, Drv rs w t := by
      rcases hw w List.mem_cons_self with rfl | z
      · exact ⟨_, .dig⟩
      · exact h.dr w z
    refine ⟨t :: ts, congrArg Nat.succ l, fun i w' t' e1 e2 => ?_⟩
    cases i with
    | zero =>
      cases Option.some.inj e1
      cases Option.some.inj e2
      exact dt
    | succ i => exact d i w' t' e1 e2
theorem gstep_sub {rs : List Rw} {b : List (List Nat)} {r : Rw} (h : GSub rs b) (hr : r ∈ rs) (hk : r.kd ∈ kds rs) : GSub rs (gstep b r) := by
  unfold gstep
  split
  · rename_i e
    obtain ⟨e1, e2⟩ := Bool.and_eq_true_iff.mp e
    have e2 := of_decide_eq_true e2
    have e1 : ∀ w ∈ r.ws, w = digW ∨ w ∈ b := fun w hw => by
      rcases Bool.or_eq_true_iff.mp (List.all_eq_true.mp e1 w hw) with z | z
      · exact .inl (of_decide_eq_true z)
      · exact .inr (of_decide_eq_true z)
    refine ⟨?_, fun k hk' => ?_, fun k hk' => ?_⟩
    · rw [List.nodup_append]
      exact ⟨h.nd, (List.nodup_cons.mpr ⟨(fun z => nomatch z), List.nodup_nil⟩), fun x hx y hy z => e2 (by rw [← List.mem_singleton.mp hy, ← z]; exact hx)⟩
    · rcases List.mem_append.mp hk' with z | z
      · exact h.sub k z
      · rw [List.mem_singleton.mp z]
        exact hk
    · rcases List.mem_append.mp hk' with z | z
      · exact h.dr k z
      · rw [List.mem_singleton.mp z]
        obtain ⟨ts, l, d⟩ := gwit h r.ws e1
        exact ⟨_, .row r ts hr l d⟩
  · exact h
theorem gpass_sub {rs : List Rw} (hk : ∀ r ∈ rs, r.kd ∈ kds rs) : ∀ (us : List Rw) (b : List (List Nat)), (∀ r ∈ us, r ∈ rs) → GSub rs b → GSub rs (gpass us b)
  | [], _, _, h => h
  | r :: us, b, hu, h => gpass_sub hk us (gstep b r) (fun x hx => hu x (List.mem_cons_of_mem _ hx)) (gstep_sub h (hu r List.mem_cons_self) (hk r (hu r List.mem_cons_self)))
theorem gclosed {rs : List Rw} {b : List (List Nat)} (h : ∀ r ∈ rs, gOk b r = false) : ∀ {k : List Nat} {t : Tr}, Drv rs k t → k = digW ∨ k ∈ b := by
  intro k t d
  induction d with
  | dig => exact .inl rfl
  | row r ts hr hl hd ih =>
    refine .inr (Decidable.byContradiction fun nk => ?_)
    have := h r hr
    unfold gOk at this
    rw [decide_eq_true nk, Bool.and_true] at this
    have al : (r.ws.all fun w => decide (w = digW) || decide (w ∈ b)) = true := List.all_eq_true.mpr fun w hw => by
      obtain ⟨i, ei⟩ := List.mem_iff_getElem?.mp hw
      have il := (List.getElem?_eq_some_iff.mp ei).1
      rcases ih i w ts[i] ei (List.getElem?_eq_getElem (by omega)) with z | z
      · rw [decide_eq_true z]
        rfl
      · rw [decide_eq_true z, Bool.or_true]
    rw [al] at this
    cases this
theorem nodup_le {α : Type} [DecidableEq α] : ∀ {l m : List α}, l.Nodup → (∀ x ∈ l, x ∈ m) → l.length ≤ m.length
  | [], _, _, _ => Nat.zero_le _
  | x :: l, m, nd, h => by
    obtain ⟨n1, n2⟩ := List.nodup_cons.mp nd
    have hx := h x List.mem_cons_self
    have := nodup_le (m := m.erase x) n2 fun y hy => (List.mem_erase_of_ne (show y ≠ x from fun z => n1 (z ▸ hy))).mpr (h y (List.mem_cons_of_mem _ hy))
    rw [List.length_erase_of_mem hx] at this
    have : 0 < m.length := List.length_pos_of_mem hx
    rw [List.length_cons]
    omega
theorem gAll_iff {rs : List Rw} (k3 : (kds rs).length ≤ 3) (hk : ∀ r ∈ rs, r.kd ∈ kds rs) {k : List Nat} (hkk : k ∈ kds rs) (nd : k ≠ digW) : k ∈ gAll rs ↔ ∃ t, Drv rs k t := by
  have s0 : GSub rs [] := ⟨List.nodup_nil, (fun k h => nomatch h), (fun k h => nomatch h)⟩
  have s1 := gpass_sub hk rs [] (fun _ h => h) s0
  have s2 := gpass_sub hk rs _ (fun _ h => h) s1
  have s3 := gpass_sub hk rs _ (fun _ h => h) s2
  refine ⟨fun h => s3.dr k h, fun ⟨t, d⟩ => ?_⟩
  have fin : ∀ b, GSub rs b → (gpass rs b).length = b.length → gpass rs b = b ∧ k ∈ b := fun b _ e => by
    obtain ⟨h1, h2⟩ := gpass_stay rs b e
    exact ⟨h1, (gclosed h2 d).resolve_left nd⟩
  show k ∈ gpass rs (gpass rs (gpass rs []))
  have l1 := gpass_len rs []
  have l2 := gpass_len rs (gpass rs [])
  have l3 := gpass_len rs (gpass rs (gpass rs []))
  by_cases e1 : (gpass rs []).length = ([] : List (List Nat)).length
  · obtain ⟨h1, h2⟩ := fin [] s0 e1
    cases h2
  by_cases e2 : (gpass rs (gpass rs [])).length = (gpass rs []).length
  · obtain ⟨h1, h2⟩ := fin _ s1 e2
    rw [h1, h1]
    exact h2
  by_cases e3 : (gpass rs (gpass rs (gpass rs []))).length = (gpass rs (gpass rs [])).length
  · obtain ⟨h1, h2⟩ := fin _ s2 e3
    rw [h1]
    exact h2
  have big : 3 ≤ (gpass rs (gpass rs (gpass rs []))).length := by
    have : ([] : List (List Nat)).length = 0 := rfl
    omega
  exact Decidable.byContradiction fun nk => by
    have sp : (k :: gpass rs (gpass rs (gpass rs []))).Nodup := List.nodup_cons.mpr ⟨nk, s3.nd⟩
    have := nodup_le (m := kds rs) sp fun x hx => by
      rcases List.mem_cons.mp hx with rfl | hx
      · exact hkk
      · exact s3.sub x hx
    rw [List.length_cons] at this
    omega
end TW

namespace TW
open PySem PySem.Spec PyProof.Rows L2
abbrev keyB (bs : List (Rw × V)) : List (List Nat) := bs.map (·.1.kd)
def bsK (bs : List (Rw × V)) : List (Key × V) := bs.map fun x => (Sum.inr (mk x.1.kd), x.2)
theorem valV_bsK (w : List Nat) : ∀ bs : List (Rw × V), valV (bsK bs) (.inr (mk w)) = (bs.find? fun x => decide (x.1.kd = w)).map (·.2)
  | [] => rfl
  | x :: bs => by
    have ih := valV_bsK w bs
    unfold valV at ih ⊢
    unfold bsK at ih ⊢
    rw [List.map_cons, List.find?_cons, List.find?_cons]
    by_cases e : x.1.kd = w
    · rw [decide_eq_true (show (Sum.inr (mk x.1.kd) : Key) = Sum.inr (mk w) by rw [e]), decide_eq_true e]
      rfl
    · rw [decide_eq_false (show ¬ (Sum.inr (mk x.1.kd) : Key) = Sum.inr (mk w) from fun z => e (mk_inj (Sum.inr.inj z))), decide_eq_false e]
      exact ih
theorem find_isSome (w : List Nat) (bs : List (Rw × V)) : ((bs.find? fun x => decide (x.1.kd = w)).map (·.2)).isSome = decide (w ∈ keyB bs) := by
  rw [Option.isSome_map]
  cases e : bs.find? fun x => decide (x.1.kd = w) with
  | none =>
    refine (decide_eq_false fun h => ?_).symm
    obtain ⟨x, hx, ex⟩ := List.mem_map.mp h
    exact List.find?_eq_none.mp e x hx (decide_eq_true ex)
  | some x =>
    have h2 := List.find?_some e
    exact (decide_eq_true (List.mem_map.mpr ⟨x, List.mem_of_find?_eq_some e, of_decide_eq_true h2⟩)).symm
def sp_grounds : Sp := fun vs H Q _ => ∃ (a : Addr) (us : List V) (rs : List Rw), vs = [.ref a] ∧ H a = some (.lst us) ∧ All2 (RO H) us rs ∧ rs.length ≤ 10 ∧ (kds rs).length ≤ 3 ∧ (∀ r ∈ rs, r.ws.length ≤ 3 ∧ Rasc r) ∧
  ∀ H' b bs, Same H H' → H' b = some (.dK (bsK bs)) → keyB bs = gAll rs → Q (.ref b) H'
section
variable {P : Program} {w : World} {K : PySem.W.Frag} {mg : Str → Option Value} {base : Heap}
theorem ok_grounds (T : Tx K mg) : FnR P w K mg base CX0 1 (He.ga K "_law_grounds") sp_grounds := by
  refine fnR0 T.d_law_grounds sc_law_grounds (fun _ _ _ _ _ _ us hl => match us, hl with | [_], _ => rfl) (fun vs H Q E h => ?_) (fun cdv A outer s H vs Q E hr h => ?_)
  · obtain ⟨a, us, rs, rfl, _⟩ := h
    rfl
  · obtain ⟨a, us, rs, rfl, ha, hm, hi, k3, wok, q⟩ := h
    refine ⟨_, (pss_cons (ps_set (i := 1) sc_law_grounds.nd rfl (.inr rfl) pe_dnewK)
(pss_cons (ps_for PassesOwn.never rfl (pi_range1 (by rfl) T.z_range (pa_cons pe_int pa_nil)) (pg_name (i := 2) sc_law_grounds.nd rfl (.inl rfl))
(pss_one (ps_for PassesOwn.never rfl (pi_list (pv 0)) (pg_name (i := 3) sc_law_grounds.nd rfl (.inl rfl))
(pss_cons (ps_setLc (i := 4) (own := [("_law_one", 5)]) (g := gName 5) rfl sc_law_grounds.nd rfl rfl (sw_true rfl rfl rfl (by decide +kernel)) (pi_tup (pe_ix (r := rIxT K) ix_tup (pv 3) pe_int (fun _ _ => rfl))) (blkOk_by (own := [("_law_one", 5)]) (N := N_law_grounds) (sc := defScope s_law_grounds) (by decide +kernel)) (fun _ _ _ _ _ => pg_name (i := 5) sc_law_grounds.nd rfl (.inl rfl)) (fun _ _ _ _ _ => (pts_one (PW.pt (pw_and (pt_cmpR op_ne (pv 5) pe_str (nomark _)) (pw_and1 (pt_cmp (pc_dnotin (u1 hr) (pv 5) (pv 1)))))))) (fun _ _ _ _ _ => (pv 5)))
(pss_one (ps_if (PW.pt (pw_and (pt_cmpR (op_eqD hr.units) (pv 4) (pe_lst pa_nil) (nomark _)) (pw_and1 (pt_cmp (pc_dnotin (u1 hr) (pe_ix (r := rIxT K) ix_tup (pv 3) pe_int (fun _ _ => rfl)) (pv 1))))))
(pss_one (ps_asg (pv 3) (pg_sub (pv 1) (pe_ix (r := rIxT K) ix_tup (pv 3) pe_int (fun _ _ => rfl)) (set_dict (u1 hr)))))
pss_nil))))))
(pss_one (ps_ret (pv 1))))), ?_⟩
    refine fun d nd => ?_
    have ul : us.length = rs.length := hm.len
    have s1 := Same.new (o := .dK []) nd
    have kmem : ∀ r ∈ rs, r.kd ∈ kds rs := fun r hr => kds_mem hr
    have pas : ∀ n : Nat, GSub rs (Nat.rec [] (fun _ b => gpass rs b) n) := fun n => by
      induction n with
      | zero => exact ⟨List.nodup_nil, (fun k h => nomatch h), (fun k h => nomatch h)⟩
      | succ n ih => exact gpass_sub kmem rs _ (fun _ h => h) ih
    refine ⟨3, rfl, by decide, by decide, for_range (n := 3) (fun i σ H1 => ∃ bs y2 y3 y4, σ = [some (.ref a), some (.ref d), y2, y3, y4, none] ∧ Same H H1 ∧ H1 d = some (.dK (bsK bs)) ∧ keyB bs = Nat.rec [] (fun _ b => gpass rs b) i) ?_ ?_ ?_⟩
    · exact ⟨[], _, _, _, rfl, s1, upd_same, rfl⟩
    · rintro i σ H1 hi3 ⟨bs0, y2, y3, y4, rfl, s1, e1, m0⟩
      have g0 := pas i
      rw [← m0] at g0
      refine ⟨.ref a, rfl, a, rfl, ⟨_, SqL.of (s1 _ _ ha)⟩, for_list (xs := us) (fun j σ H2 => ∃ bs y3 y4, σ = [some (.ref a), some (.ref d), some (.int (0 + (i : Nat))), y3, y4, none] ∧ Same H H2 ∧ H2 d = some (.dK (bsK bs)) ∧ keyB bs = gpass (rs.take j) (keyB bs0)) ?_ ?_ ?_ ?_⟩
      · exact ⟨bs0, _, _, rfl, s1, e1, by rw [List.take_zero]; rfl⟩
      · rintro j σ H2 _ ⟨bs, y3, y4, _, s2, _⟩
        exact SqL.of (s2 _ _ ha)
      · rintro j x σ H2 hx ⟨bs, y3, y4, rfl, s2, e2, ek0⟩
        obtain ⟨r, er, hr1⟩ := hm.get hx
        obtain ⟨b, pw, rfl, hb, hpw⟩ := hr1.same s2
        have rm := List.mem_of_getElem? er
        obtain ⟨wl, ra⟩ := wok r rm
        have gj : GSub rs (keyB bs) := by
          rw [ek0]
          exact gpass_sub kmem _ _ (fun x hx => List.mem_of_mem_take hx) g0
        have bl : (bsK bs).length ≤ 3 := by
          have h1 := nodup_le gj.nd gj.sub
          rw [List.length_map] at h1
          unfold bsK
          rw [List.length_map]
          exact Nat.le_trans h1 k3
        have et : gpass (rs.take (j + 1)) (keyB bs0) = gstep (keyB bs) r := by
          rw [take_get er, ek0]
          unfold gpass
          rw [List.foldl_append]
          rfl
        have dg : ∀ (H' : Hp) (w : List Nat), H' d = some (.dK (bsK bs)) → ∃ o, DGet H' d (.str (mk w)) o ∧ o.isSome = decide (w ∈ keyB bs) := fun H' w e' => by
          refine ⟨_, DGet.k (k := .inr (mk w)) e', ?_⟩
          rw [valV_bsK, find_isSome]
        refine ⟨.ref b, rfl, b, _, 2, _, rfl, rfl, SqT.of hb, rfl, pw, rfl, ⟨_, SqT.of hpw⟩, fun D nD => ?_⟩
        refine lc_filtT (xs := r.ws) (h := fun w => V.str (mk w)) (fun w => decide (w ≠ digW) && decide (w ∉ keyB bs)) (fun w => .str (mk w)) hpw nD (by omega) (fun _ => rfl) (fun w0 H' Q' hw s' q' => ?_) (fun c H' Q' hc s' q' => ⟨_, rfl, q'⟩) ?_
        · refine ⟨_, rfl, rfl, _, rfl, ?_⟩
          rw [dec_strW]
          by_cases e : w0 = digW
          · rw [decide_eq_true e]
            rw [decide_eq_false (fun z => z e)] at q'
            exact iteF q'
          · rw [decide_eq_false e]
            rw [decide_eq_true e] at q'
            obtain ⟨o, dgo, eo⟩ := dg H' w0 (s' _ _ e2)
            refine iteT ⟨_, rfl, .ref d, rfl, d, o, rfl, dgo, _, rfl, ?_⟩
            rw [eo]
            by_cases m : w0 ∈ keyB bs
            · rw [decide_eq_true m]
              rw [decide_eq_false (fun z => z m)] at q'
              exact q'
            · rw [decide_eq_false m]
              rw [decide_eq_true m] at q'
              exact q'
        obtain ⟨lf, elf⟩ : ∃ lf, lf = r.ws.filter (fun w => decide (w ≠ digW) && decide (w ∉ keyB bs)) := ⟨_, rfl⟩
        rw [← elf]
        have s3 := Same.new (o := .lst (lf.map fun w => V.str (mk w))) nD
        have e3 : upd H2 D (.lst (lf.map fun w => V.str (mk w))) D = some (.lst (strL lf)) := upd_same
        generalize upd H2 D (.lst (lf.map fun w => V.str (mk w))) = H3 at s3 e3
        have lmem : ∀ l ∈ lf, ∀ c ∈ l, c < 128 := fun l hl c hc => by
          rw [elf] at hl
          exact ra.ws l (List.mem_filter.mp hl).1 c hc
        refine ⟨.ref D, rfl, Nat.zero_le _, fun z nz => ?_⟩
        have s4 := s3.trans (Same.new (o := .lst []) nz)
        have e4 := Same.new (o := .lst []) nz _ _ e3
        refine ⟨.list ((lf.map mk).map PyData.str), .list [], .lst (SqL.of (by rw [e4, List.map_map]; rfl)) (dpStrs _), .lst (SqL.of upd_same) .nil, shapedStrs lmem, rfl, _, rfl, ?_⟩
        generalize upd H3 z (.lst []) = H4 at s4 e4
        have e4d := s4 _ _ e2
        have hb4 := s4 _ _ hb
        have lfn : lf = [] ↔ (r.ws.all fun w => decide (w = digW) || decide (w ∈ keyB bs)) = true := by
          rw [elf, List.filter_eq_nil_iff, List.all_eq_true]
          refine ⟨fun h w hw => ?_, fun h w hw z => ?_⟩
          · have := h w hw
            by_cases e : w = digW
            · rw [decide_eq_true e]
              rfl
            · by_cases m : w ∈ keyB bs
              · rw [decide_eq_true m, Bool.or_true]
              · rw [decide_eq_true e, decide_eq_true m] at this
                exact absurd rfl this
          · obtain ⟨z1, z2⟩ := Bool.and_eq_true_iff.mp z
            rcases Bool.or_eq_true_iff.mp (h w hw) with y | y
            · exact of_decide_eq_true z1 (of_decide_eq_true y)
            · exact of_decide_eq_true z2 (of_decide_eq_true y)
        cases hlf : lf with
        | cons w0 lr =>
          refine iteF (iteF ⟨bs, _, _, rfl, s2.trans s4, e4d, ?_⟩)
          rw [et]
          unfold gstep gOk
          rw [if_neg fun z => ?_]
          have := lfn.mpr (Bool.and_eq_true_iff.mp z).1
          rw [hlf] at this
          cases this
        | nil =>
          have all := lfn.mp hlf
          obtain ⟨o, dgo, eo⟩ := dg H4 r.kd e4d
          refine iteT ⟨.ref b, rfl, b, _, 0, _, rfl, rfl, SqT.of hb4, rfl, .ref d, rfl, d, o, rfl, dgo, _, rfl, ?_⟩
          rw [eo]
          by_cases m : r.kd ∈ keyB bs
          · rw [decide_eq_true m]
            refine iteF ⟨bs, _, _, rfl, s2.trans s4, e4d, ?_⟩
            rw [et]
            unfold gstep gOk
            rw [if_neg fun z => (show r.kd ∉ keyB bs from of_decide_eq_true (Bool.and_eq_true_iff.mp z).2) m]
          · rw [decide_eq_false m]
            have ek : putK (bsK bs) (.inr (mk r.kd)) (.ref b) = bsK (bs ++ [(r, .ref b)]) := by
              have hv : valV (bsK bs) (.inr (mk r.kd)) = none := by
                have := find_isSome r.kd bs
                rw [decide_eq_false m, ← valV_bsK] at this
                exact Option.isSome_eq_false_iff.mp this |> Option.isNone_iff_eq_none.mp
              rw [putK_new _ hv]
              unfold bsK
              rw [List.map_append]
              rfl
            refine iteT ⟨.ref b, rfl, .ref d, rfl, .ref b, rfl, b, _, 0, _, rfl, rfl, SqT.of hb4, rfl, d, _, rfl, DPut.k (k := .inr (mk r.kd)) e4d (Nat.lt_of_le_of_lt bl (by decide)), ?_⟩
            rw [ek]
            refine ⟨bs ++ [(r, .ref b)], _, _, rfl, Same.updN (s2.trans s4) nd, upd_same, ?_⟩
            rw [et]
            unfold gstep gOk
            rw [if_pos (by rw [all, decide_eq_true m]; rfl)]
            show List.map _ _ = _
            rw [List.map_append]
            rfl
      · rintro σ H2 ⟨bs, y3, y4, rfl, s2, e2, ek0⟩
        rw [ul, List.take_length] at ek0
        refine ⟨bs, _, _, _, rfl, s2, e2, ?_⟩
        rw [ek0, m0]
    · rintro σ H1 ⟨bs, y2, y3, y4, rfl, s1, e1, m⟩
      exact ⟨.ref d, rfl, q H1 d bs s1 e1 m⟩
end
end TW

namespace TW
open PySem PySem.Spec PyProof.Rows L2
theorem sS_stW {r r' : Rw} (h : FmOk r.fm r.ws) (h' : FmOk r'.fm r'.ws) : sS r'.fm = sS r.fm ↔ stW r' = stW r := by
  have l := h.lo
  have l' := h'.lo
  unfold stW
  cases e : r.fm with
  | nil => rw [e] at l; cases l
  | cons c f =>
  cases e' : r'.fm with
  | nil => rw [e'] at l'; cases l'
  | cons c' f' =>
  show (if digC c' then [48] else [c']) = (if digC c then [48] else [c]) ↔ (if digC c' then digW else [c']) = (if digC c then digW else [c])
  cases d : digC c <;> cases d' : digC c'
  · exact Iff.rfl
  · refine ⟨fun z => ?_, fun z => ?_⟩
    · have : (48 : Nat) = c := (List.cons.inj z).1
      rw [← this] at d
      cases d
    · cases z
  · refine ⟨fun z => ?_, fun z => ?_⟩
    · have : c' = 48 := (List.cons.inj z).1
      rw [this] at d'
      cases d'
    · cases z
  · exact ⟨fun _ => rfl, fun _ => rfl⟩
/-- the reason as the law tells it -/
def whyV : Why → List V
  | .name n => [.str (Str.ofString "name"), .str (mk n)]
  | .count k => [.str (Str.ofString "count"), .int (k : Nat)]
  | .line k => [.str (Str.ofString "line"), .int (k : Nat)]
  | .tab i r => [.str (Str.ofString "table"), .int (i : Nat), .str (mk r)]
def sp_lfault : Sp := fun vs H Q _ => ∃ (l : Addr) (n : List Nat) (us : List V) (rs : List Rw), vs = [.str (mk n), .ref l] ∧ (∀ c ∈ n, c < 128) ∧ n.length ≤ 1400 ∧ H l = some (.lst us) ∧ All2 (RO H) us rs ∧ rs.length ≤ 1400 ∧ (∀ r ∈ rs, RwS r) ∧
  ∀ H', Same H H' → match fltN n rs with
    | none => Q .non H'
    | some z => ∀ a, H' a = some (.tup (whyV z)) → Q (.ref a) H'
section
variable {P : Program} {w : World} {K : PySem.W.Frag} {mg : Str → Option Value} {base : Heap}
theorem ok_lfault (T : Tx K mg) : FnR P w K mg base CX0 3 (He.ga K "_law_fault") sp_lfault := by
  have G_law_is_small : FnR P w K mg base CX0 1 (He.ga K "_law_is_small") sp_small := ok_lissmall T
  have G_law_alone : FnR P w K mg base CX0 2 (He.ga K "_law_alone") sp_lalone := ok_lalone T
  have G_law_kinds_of : FnR P w K mg base CX0 1 (He.ga K "_law_kinds_of") sp_lkinds := ok_lkinds T
  have G_law_start : FnR P w K mg base CX0 1 (He.ga K "_law_start") sp_lstart := ok_lstart T
  have G_law_grounds : FnR P w K mg base CX0 1 (He.ga K "_law_grounds") sp_grounds := ok_grounds T
  refine fnR0 T.d_law_fault sc_law_fault (fun _ _ _ _ _ _ us hl => match us, hl with | [_, _], _ => rfl) (fun vs H Q E h => ?_) (fun cdv A outer s H vs Q E hr h => ?_)
  · obtain ⟨l, n, us, rs, rfl, _⟩ := h
    rfl
  · obtain ⟨l, n, us, rs, rfl, n7, n1k, hl, ro, r14, sane, q⟩ := h
    refine ⟨_, (pss_cons (ps_if (pt_not (pt_val (pe_cr G_law_is_small (hr.mono (by omega)) (by rfl) T.v_law_is_small T.k_law_is_small pass0 (pa_cons (pv 0) pa_nil))))
(pss_one (ps_ret (pe_tup (pa_cons pe_str (pa_cons (pv 0) pa_nil)))))
pss_nil)
(pss_cons (ps_if (pt_not (pt_chain op_le op_le pe_int (pe_callB call_len (by rfl) T.z_len (by decide +kernel) (pa_cons (pv 1) pa_nil)) pe_int))
(pss_one (ps_ret (pe_tup (pa_cons pe_str (pa_cons (pe_callB call_len (by rfl) T.z_len (by decide +kernel) (pa_cons (pv 1) pa_nil)) pa_nil)))))
pss_nil)
(pss_cons (ps_for PassesOwn.never rfl (pi_range1 (by rfl) T.z_range (pa_cons (pe_callB call_len (by rfl) T.z_len (by decide +kernel) (pa_cons (pv 1) pa_nil)) pa_nil)) (pg_name (i := 2) sc_law_fault.nd rfl (.inr rfl))
(pss_cons (ps_set (i := 3) sc_law_fault.nd rfl (.inl rfl) (pe_cr G_law_alone (hr.mono (by omega)) (by rfl) T.v_law_alone T.k_law_alone pass0 (pa_cons (pv 1) (pa_cons (pv 2) pa_nil))))
(pss_one (ps_if (pt_cmpR op_ne (pv 3) pe_str (nomark _))
(pss_one (ps_ret (pe_tup (pa_cons pe_str (pa_cons (pv 2) (pa_cons (pv 3) pa_nil))))))
pss_nil))))
(pss_cons (ps_set (i := 4) sc_law_fault.nd rfl (.inr rfl) (pe_cr G_law_kinds_of (hr.mono (by omega)) (by rfl) T.v_law_kinds_of T.k_law_kinds_of pass0 (pa_cons (pv 1) pa_nil)))
(pss_cons (ps_for PassesOwn.never rfl (pi_range1 (by rfl) T.z_range (pa_cons (pe_callB call_len (by rfl) T.z_len (by decide +kernel) (pa_cons (pv 1) pa_nil)) pa_nil)) (pg_name (i := 2) sc_law_fault.nd rfl (.inr rfl))
(pss_one (ps_if (pt_cmpR (op_neD hr.units) (pe_lc (own := [("_law_want", 8)]) (g := gName 8) rfl sc_law_fault.nd (pi_tup (pe_ix (r := rIxT K) ix_tup (pe_ix (r := rIxL K) ix_list (pv 1) (pv 2) (fun _ _ => rfl)) pe_int (fun _ _ => rfl))) (blkOk_by (own := [("_law_want", 8)]) (N := N_law_fault) (sc := defScope s_law_fault) (by decide +kernel)) (fun _ _ _ _ _ => pg_name (i := 8) sc_law_fault.nd rfl (.inl rfl)) (fun _ _ _ _ _ => (pts_one (pt_cmpR (r := rIn K true) op_notIn_seq (pv 8) (pe_op op_cat (pv 4) (pe_lst (pa_cons pe_str pa_nil))) (by rfl)))) (fun _ _ _ _ _ => (pv 8))) (pe_lst pa_nil) (nomark _))
(pss_one (ps_ret (pe_tup (pa_cons pe_str (pa_cons (pv 2) (pa_cons pe_str pa_nil))))))
pss_nil)))
(pss_cons (ps_for PassesOwn.never rfl (pi_range1 (by rfl) T.z_range (pa_cons (pe_callB call_len (by rfl) T.z_len (by decide +kernel) (pa_cons (pv 1) pa_nil)) pa_nil)) (pg_name (i := 2) sc_law_fault.nd rfl (.inr rfl))
(pss_cons (ps_setLc (i := 5) (own := [("_law_row", 7)]) (g := gName 7) rfl sc_law_fault.nd rfl rfl (sw_true rfl rfl rfl (by decide +kernel)) (pi_list (pe_slice sl_list (pv 1) po_none (po_some (pv 2)))) (blkOk_by (own := [("_law_row", 7)]) (N := N_law_fault) (sc := defScope s_law_fault) (by decide +kernel)) (fun _ _ _ _ _ => pg_name (i := 7) sc_law_fault.nd rfl (.inl rfl)) (fun _ _ _ _ _ => (pts_one (pt_cmpR op_eq (pe_ix (r := rIxT K) ix_tup (pv 7) pe_int (fun _ _ => rfl)) (pe_ix (r := rIxT K) ix_tup (pe_ix (r := rIxL K) ix_list (pv 1) (pv 2) (fun _ _ => rfl)) pe_int (fun _ _ => rfl)) (nomark _)))) (fun _ _ _ _ _ => (pv 7)))
(pss_one (ps_if (pt_cmpR op_in_seq (pe_cr G_law_start (hr.mono (by omega)) (by rfl) T.v_law_start T.k_law_start pass0 (pa_cons (pe_ix (r := rIxL K) ix_list (pv 1) (pv 2) (fun _ _ => rfl)) pa_nil)) (pe_lc (own := [("_law_row", 7)]) (g := gName 7) rfl sc_law_fault.nd (pi_list (pv 5)) (blkOk_by (own := [("_law_row", 7)]) (N := N_law_fault) (sc := defScope s_law_fault) (by decide +kernel)) (fun _ _ _ _ _ => pg_name (i := 7) sc_law_fault.nd rfl (.inl rfl)) (fun _ _ _ _ _ => pts_nil) (fun _ _ _ _ _ => (pe_cr G_law_start (hr.mono (by omega)) (by rfl) T.v_law_start T.k_law_start pass0 (pa_cons (pv 7) pa_nil)))) (by rfl))
(pss_one (ps_ret (pe_tup (pa_cons pe_str (pa_cons (pv 2) (pa_cons pe_str pa_nil))))))
pss_nil))))
(pss_cons (ps_set (i := 6) sc_law_fault.nd rfl (.inl rfl) (pe_cr G_law_grounds (hr.mono (by omega)) (by rfl) T.v_law_grounds T.k_law_grounds pass0 (pa_cons (pv 1) pa_nil)))
(pss_cons (ps_for PassesOwn.never rfl (pi_range1 (by rfl) T.z_range (pa_cons (pe_callB call_len (by rfl) T.z_len (by decide +kernel) (pa_cons (pv 1) pa_nil)) pa_nil)) (pg_name (i := 2) sc_law_fault.nd rfl (.inr rfl))
(pss_one (ps_if (pt_cmp (pc_dnotin (u1 hr) (pe_ix (r := rIxT K) ix_tup (pe_ix (r := rIxL K) ix_list (pv 1) (pv 2) (fun _ _ => rfl)) pe_int (fun _ _ => rfl)) (pv 6)))
(pss_one (ps_ret (pe_tup (pa_cons pe_str (pa_cons (pv 2) (pa_cons pe_str pa_nil))))))
pss_nil)))
(pss_one (ps_ret pe_non)))))))))), ?_⟩
    have ul : us.length = rs.length := ro.len
    have tell : ∀ z, fltN n rs = some z → ∀ H' a, Same H H' → H' a = some (.tup (whyV z)) → Q (.ref a) H' := fun z e H' a s ha => by
      have := q H' s
      rw [e] at this
      exact this a ha
    refine ⟨_, rfl, n, rfl, n7, n1k, fun H1 s1 => ⟨smallN n, rfl, ?_⟩⟩
    cases hn : smallN n with
    | false => exact iteT ⟨_, rfl, szle, fun a na => tell (.name n) (by unfold fltN; rw [if_neg (by rw [hn]; exact Bool.false_ne_true)]) _ a (s1.trans (Same.new na)) upd_same⟩
    | true =>
    refine iteF ?_
    have hl1 := s1 _ _ hl
    have cnt : ¬ (1 ≤ rs.length ∧ rs.length ≤ 10) → fltN n rs = some (.count rs.length) := fun c => by
      unfold fltN
      rw [if_pos hn, if_neg c]
    have told : ¬ (1 ≤ rs.length ∧ rs.length ≤ 10) → ∀ a, H1 a = none → Q (.ref a) (upd H1 a (.tup [.str (Str.ofString "count"), .int (us.length : Nat)])) := fun c a na =>
      tell (.count rs.length) (cnt c) _ a (s1.trans (Same.new na)) (by rw [upd_same, ul]; rfl)
    refine ⟨.ref l, rfl, .ref l, us.length, rfl, .inl ⟨_, SqL.of hl1, rfl⟩, 1, us.length, rfl, rfl, _, rfl, ite2 (fun e1 => ?_) (fun e1 => ?_)⟩
    case refine_2 =>
      have nlo : ¬ (1 : Int) ≤ us.length := fun z => e1 (decide_eq_true z)
      exact ⟨false, rfl, iteT ⟨.ref l, rfl, .ref l, us.length, rfl, .inl ⟨_, SqL.of hl1, rfl⟩, szle, fun a na => told (fun z => nlo (by omega)) a na⟩⟩
    have lo : 1 ≤ rs.length := by
      have := of_decide_eq_true e1
      omega
    refine ⟨us.length, 10, rfl, rfl, _, rfl, ?_⟩
    by_cases hi : rs.length ≤ 10
    case neg =>
      rw [decide_eq_false (show ¬ (us.length : Int) ≤ 10 by omega)]
      exact iteT ⟨.ref l, rfl, .ref l, us.length, rfl, .inl ⟨_, SqL.of hl1, rfl⟩, szle, fun a na => told (fun z => hi z.2) a na⟩
    rw [decide_eq_true (show (us.length : Int) ≤ 10 by omega)]
    refine iteF ?_
    have fl : fltN n rs = (fltT rs).map fun z => .tab z.1 z.2 := by
      unfold fltN
      rw [if_pos hn, if_pos ⟨lo, hi⟩]
    have bad : ∀ z, fltT rs = some z → ∀ H' a, Same H H' → H' a = some (.tup [.str (Str.ofString "table"), .int (z.1 : Nat), .str (mk z.2)]) → Q (.ref a) H' := fun z e H' a s ha =>
      tell (.tab z.1 z.2) (by rw [fl, e]; rfl) H' a s ha
    -- each row alone
    refine ⟨.ref l, rfl, .ref l, us.length, rfl, .inl ⟨_, SqL.of hl1, rfl⟩, us.length, rfl, by omega, by omega, for_range (lo := 0) (n := ((us.length : Int)).toNat) (fun i σ H2 => ∃ y2 y3, σ = [some (.str (mk n)), some (.ref l), y2, y3, none, none, none, none, none] ∧ Same H H2 ∧ i ≤ rs.length ∧ p1 [] rs = p1 (rs.take i) (rs.drop i)) ⟨_, _, rfl, s1, Nat.zero_le _, rfl⟩ ?_ ?_⟩
    · rintro i σ H2 hi' ⟨y2, y3, rfl, s2, _, ep⟩
      have il : i < rs.length := by
        have : i < us.length := hi'
        omega
      have e0 : ((0 : Int) + (i : Nat)) = (i : Nat) := by omega
      rw [e0]
      obtain ⟨r, er⟩ : ∃ r, rs[i]? = some r := ⟨_, List.getElem?_eq_getElem il⟩
      rw [drop_at er, p1] at ep
      refine ⟨.ref l, rfl, .int i, rfl, l, us, rs, i, r, rfl, s2 _ _ hl, ROs.same s2 ro, hi, er, sane, fun H3 s3 => ?_⟩
      refine ⟨_, rfl, rfl, _, rfl, ?_⟩
      have tl : (rs.take i).length = i := by rw [List.length_take]; omega
      by_cases c : fltA (rs.take i) r = []
      · rw [if_pos c] at ep
        rw [show decide (V.str (mk (fltA (rs.take i) r)) = V.str (Str.ofString "")) = true from by rw [c]; decide +kernel]
        exact iteF ⟨_, _, rfl, s2.trans s3, il, by rw [take_get er]; exact ep⟩
      · rw [if_neg c, tl] at ep
        rw [show decide (V.str (mk (fltA (rs.take i) r)) = V.str (Str.ofString "")) = false from decide_eq_false fun z => c (mk_inj (m := []) (V.str.inj z))]
        exact iteT ⟨_, rfl, _, rfl, szle, fun a na => bad (i, fltA (rs.take i) r) (or_some ep) _ a ((s2.trans s3).trans (Same.new na)) upd_same⟩
    rintro σ H2 ⟨y2, y3, rfl, s2, _, ep⟩
    rw [show ((us.length : Int)).toNat = rs.length by omega, List.drop_length] at ep
    have e1 : p1 [] rs = none := ep
    unfold fltT at bad fl
    rw [or_none e1] at bad fl
    have okA : ∀ (i : Nat) (r : Rw), rs[i]? = some r → RwOk (rs.take i) r := fun i r e => fltA_ok (p1_none e1 i r e)
    -- the kinds that are wanted
    refine ⟨.ref l, rfl, l, us, rs, rfl, s2 _ _ hl, ROs.same s2 ro, by omega, fun H3 kl s3 nkl ekl => ?_⟩
    have s03 := s2.trans s3
    refine ⟨.ref l, rfl, .ref l, us.length, rfl, .inl ⟨_, SqL.of (s03 _ _ hl), rfl⟩, us.length, rfl, by omega, by omega, for_range (lo := 0) (n := ((us.length : Int)).toNat) (fun i σ H4 => ∃ y2, σ = [some (.str (mk n)), some (.ref l), y2, y3, some (.ref kl), none, none, none, none] ∧ Same H3 H4 ∧ i ≤ rs.length ∧ p2 (kds rs) rs 0 = p2 (kds rs) (rs.drop i) i) ⟨_, rfl, Same.refl _, Nat.zero_le _, rfl⟩ ?_ ?_⟩
    · rintro i σ H4 hi' ⟨y2, rfl, s4, _, ep⟩
      have il : i < rs.length := by
        have : i < us.length := hi'
        omega
      have e0 : ((0 : Int) + (i : Nat)) = (i : Nat) := by omega
      rw [e0]
      obtain ⟨r, er⟩ : ∃ r, rs[i]? = some r := ⟨_, List.getElem?_eq_getElem il⟩
      obtain ⟨v, ev⟩ : ∃ v, us[i]? = some v := ⟨us[i], List.getElem?_eq_getElem (by omega)⟩
      have s04 := s03.trans s4
      obtain ⟨r', er', b, pw, rfl, hb, hpw⟩ := (ROs.same s04 ro).get ev
      rw [er] at er'
      cases er'
      rw [drop_at er, p2] at ep
      have wl := (okA i r er).fm.wl
      have kl4 := s4 _ _ ekl
      refine ⟨.ref l, rfl, .int i, rfl, l, us, i, _, rfl, rfl, SqL.of (s04 _ _ hl), atI_nat ev, b, _, 2, .ref pw, rfl, rfl, SqT.of hb, rfl, pw, rfl, ⟨_, SqT.of hpw⟩, fun D nD => ?_⟩
      refine lc_tup (xs := strL r.ws) (fun k H5 => ∃ ys, H5 D = some (.lst (strL ys)) ∧ Same H4 H5 ∧ ys = (r.ws.take k).filter fun w => decide (w ∉ kds rs ++ [digW])) ⟨[], upd_same, Same.new nD, rfl⟩ ?_ ?_ ?_
      · rintro k H5 _ ⟨ys, _, s5, _⟩
        exact SqT.of (s5 _ _ hpw)
      · rintro k x H5 hx ⟨ys, eD, s5, ey⟩
        rw [List.getElem?_map] at hx
        cases ew : r.ws[k]? with
        | none => rw [ew] at hx; cases hx
        | some w0 =>
        rw [ew] at hx
        have ex := (Option.some.inj hx).symm
        subst ex
        have kl5 := s5 _ _ kl4
        refine ⟨rfl, _, rfl, .ref kl, rfl, szle, fun g ng => ?_⟩
        have s6 := s5.trans (Same.new (o := .lst [.str (Str.ofString "digit")]) ng)
        have eD6 := Same.new (o := .lst [.str (Str.ofString "digit")]) ng _ _ eD
        have eg6 : upd H5 g (.lst [.str (Str.ofString "digit")]) g = some (.lst [.str (Str.ofString "digit")]) := upd_same
        have kl6 := s6 _ _ kl4
        generalize upd H5 g (.lst [.str (Str.ofString "digit")]) = H6 at s6 eD6 eg6 kl6
        refine ⟨kl, g, _, _, rfl, rfl, kl6, eg6, Nat.le_trans (show (strL (kds rs)).length + 1 ≤ 1000 by rw [List.length_map]; have := kds3 okA; omega) szle, fun g2 ng2 => ?_⟩
        rw [show strL (kds rs) ++ [V.str (Str.ofString "digit")] = strL (kds rs ++ [digW]) from by rw [strL_app]; rfl]
        have s7 := s6.trans (Same.new (o := .lst (strL (kds rs ++ [digW]))) ng2)
        have eD7 := Same.new (o := .lst (strL (kds rs ++ [digW]))) ng2 _ _ eD6
        have eg7 : upd H6 g2 (.lst (strL (kds rs ++ [digW]))) g2 = some (.lst (strL (kds rs ++ [digW]))) := upd_same
        generalize upd H6 g2 (.lst (strL (kds rs ++ [digW]))) = H7 at s7 eD7 eg7
        refine ⟨g2, _, rfl, .inl (SqL.of eg7), rfl, flat_strL _, _, rfl, ?_⟩
        rw [if_pos rfl, in_strL, take_get ew, List.filter_append]
        have yl : ys.length ≤ 3 := by
          rw [ey]
          exact Nat.le_trans (List.length_filter_le _ _) (by rw [List.length_take]; omega)
        by_cases m : w0 ∈ kds rs ++ [digW]
        · rw [decide_eq_true m]
          refine iteF ⟨ys, eD7, s7, ?_⟩
          rw [ey, List.filter_cons, decide_eq_false (fun z => z m)]
          exact (List.append_nil _).symm
        · rw [decide_eq_false m]
          refine iteT ⟨_, rfl, _, eD7, small1000 (by rw [List.length_map]; omega), ys ++ [w0], ?_, Same.updN s7 nD, ?_⟩
          · rw [upd_same, strL_app]
            rfl
          · rw [ey, List.filter_cons, decide_eq_true m]
            rfl
      rintro H5 ⟨ys, eD, s5, ey⟩
      rw [show (strL r.ws).length = r.ws.length from List.length_map _, List.take_length] at ey
      have s05 := s04.trans s5
      refine ⟨szle, fun z nz => ?_⟩
      have asc : ∀ x ∈ ys, ∀ c ∈ x, c < 128 := fun x hx => by
        rw [ey] at hx
        exact ((sane r (List.mem_of_getElem? er)).ws x (List.mem_filter.mp hx).1).1
      have s6 := s05.trans (Same.new (o := .lst []) nz)
      have eD6 := Same.new (o := .lst []) nz _ _ eD
      refine ⟨.list ((ys.map mk).map PyData.str), .list [], .lst (SqL.of (by rw [eD6, strL_strs])) (dpStrs _), .lst (SqL.of upd_same) .nil, shapedStrs asc, rfl, _, rfl, ?_⟩
      have s46 := s5.trans (Same.new (o := .lst []) nz)
      generalize upd H5 z (.lst []) = H6 at s6 s46
      cases ys with
      | nil =>
        refine iteF ⟨_, rfl, s4.trans s46, il, ?_⟩
        rw [if_pos fun w hw => ?_] at ep
        · exact ep
        · refine Decidable.byContradiction fun c => ?_
          have : w ∈ ([] : List (List Nat)) := by
            rw [ey]
            refine List.mem_filter.mpr ⟨hw, decide_eq_true fun y => c ?_⟩
            rcases List.mem_append.mp y with y | y
            · exact .inr y
            · exact .inl (List.mem_singleton.mp y)
          cases this
      | cons w0 yr =>
        have m0 : w0 ∈ r.ws.filter fun w => decide (w ∉ kds rs ++ [digW]) := by rw [← ey]; exact List.mem_cons_self
        obtain ⟨m1, m2⟩ := List.mem_filter.mp m0
        rw [if_neg fun c => (show w0 ∉ kds rs ++ [digW] from of_decide_eq_true m2) (by
          rcases c w0 m1 with y | y
          · rw [y]
            exact List.mem_append_right _ List.mem_cons_self
          · exact List.mem_append_left _ y)] at ep
        exact iteT ⟨_, rfl, szle, fun a na => bad (i, kinD) (or_some ep) _ a (s6.trans (Same.new na)) upd_same⟩
    rintro σ H4 ⟨y2, rfl, s4, _, ep⟩
    rw [show ((us.length : Int)).toNat = rs.length by omega, List.drop_length] at ep
    have e2 : p2 (kds rs) rs 0 = none := ep
    rw [or_none e2] at bad fl
    have s04 := s03.trans s4
    -- the beginnings
    refine ⟨.ref l, rfl, .ref l, us.length, rfl, .inl ⟨_, SqL.of (s04 _ _ hl), rfl⟩, us.length, rfl, by omega, by omega, for_range (lo := 0) (n := ((us.length : Int)).toNat) (fun i σ H5 => ∃ y2 y5, σ = [some (.str (mk n)), some (.ref l), y2, y3, some (.ref kl), y5, none, none, none] ∧ Same H4 H5 ∧ i ≤ rs.length ∧ p3 [] rs = p3 (rs.take i) (rs.drop i)) ⟨_, _, rfl, Same.refl _, Nat.zero_le _, rfl⟩ ?_ ?_⟩
    · rintro i σ H5 hi' ⟨y2, y5, rfl, s5, _, ep⟩
      have il : i < rs.length := by
        have : i < us.length := hi'
        omega
      have e0 : ((0 : Int) + (i : Nat)) = (i : Nat) := by omega
      rw [e0]
      obtain ⟨r, er⟩ : ∃ r, rs[i]? = some r := ⟨_, List.getElem?_eq_getElem il⟩
      obtain ⟨v, ev⟩ : ∃ v, us[i]? = some v := ⟨us[i], List.getElem?_eq_getElem (by omega)⟩
      have s05 := s04.trans s5
      obtain ⟨r', er', b, pw, rfl, hb, hpw⟩ := (ROs.same s05 ro).get ev
      rw [er] at er'
      cases er'
      rw [drop_at er, p3] at ep
      refine ⟨.ref l, rfl, .int i, rfl, i, rfl, l, us, rfl, SqL.of (s05 _ _ hl), fun c nc => ?_⟩
      rw [cutV_to]
      have s6 := s05.trans (Same.new (o := .lst (us.take i)) nc)
      have s56 := s5.trans (Same.new (o := .lst (us.take i)) nc)
      have ec : upd H5 c (.lst (us.take i)) c = some (.lst (us.take i)) := upd_same
      generalize upd H5 c (.lst (us.take i)) = H6 at s6 ec s56
      have row6 := (ROs.same s6 ro).get ev
      obtain ⟨r', er', b', pw', eb', hb6, hpw6⟩ := row6
      rw [er] at er'
      cases er'
      cases eb'
      have tk6 := (ROs.same s6 ro).take i
      refine ⟨c, rfl, ⟨_, SqL.of ec⟩, fun D nD => ?_⟩
      refine lc_list (xs := us.take i) (fun k H7 => k ≤ 10 ∧ ∃ ms, H7 D = some (.lst ms) ∧ Same H6 H7 ∧ All2 (RO H6) ms (((rs.take i).take k).filter fun x => decide (x.kd = r.kd))) ⟨Nat.zero_le _, [], upd_same, Same.new nD, .nil⟩ ?_ ?_ ?_
      · rintro k H7 _ ⟨_, ms, _, s7, _⟩
        exact SqL.of (s7 _ _ ec)
      · rintro k x H7 hx ⟨_, ms, eD, s7, mm⟩
        obtain ⟨rk, erk, rok⟩ := tk6.get hx
        have rok6 := rok
        obtain ⟨bk, pk, rfl, hbk, hpk⟩ := rok
        have kl : k < (rs.take i).length := (List.getElem?_eq_some_iff.mp erk).1
        have kl10 : k < 10 := by
          rw [List.length_take] at kl
          omega
        refine ⟨rfl, .ref bk, rfl, bk, _, 0, .str (mk rk.kd), rfl, rfl, SqT.of (s7 _ _ hbk), rfl, .ref l, rfl, .int i, rfl, l, us, i, _, rfl, rfl, SqL.of (s7 _ _ (s6 _ _ hl)), atI_nat ev, b, _, 0, .str (mk r.kd), rfl, rfl, SqT.of (s7 _ _ hb6), rfl, rfl, _, rfl, ?_⟩
        rw [dec_str2]
        have ml : ms.length ≤ 10 := by
          rw [mm.len]
          exact Nat.le_trans (List.length_filter_le _ _) (by rw [List.length_take, List.length_take]; omega)
        by_cases e : rk.kd = r.kd
        · rw [decide_eq_true e]
          refine iteT ⟨_, rfl, _, eD, small1000 (by omega), kl10, ms ++ [.ref bk], upd_same, Same.updN s7 nD, ?_⟩
          rw [take_get erk, List.filter_append, List.filter_cons, decide_eq_true e]
          exact All2.app mm (.cons rok6 .nil)
        · rw [decide_eq_false e]
          refine iteF ⟨kl10, ms, eD, s7, ?_⟩
          rw [take_get erk, List.filter_append, List.filter_cons, decide_eq_false e]
          show All2 _ _ (_ ++ [])
          rw [List.append_nil]
          exact mm
      rintro H7 ⟨_, ms, eD, s7, mm⟩
      rw [tk6.len, List.take_length] at mm
      have fo : ∀ x ∈ rs, FmOk x.fm x.ws := fun x hx => by
        obtain ⟨j, ej⟩ := List.mem_iff_getElem?.mp hx
        exact (okA j x ej).fm
      have rm := List.mem_of_getElem? er
      obtain ⟨ys, eys⟩ : ∃ ys, ys = (rs.take i).filter fun x => decide (x.kd = r.kd) := ⟨_, rfl⟩
      rw [← eys] at mm
      have ysm : ∀ x ∈ ys, x ∈ rs := fun x hx => by
        rw [eys] at hx
        exact List.mem_of_mem_take (List.mem_filter.mp hx).1
      have yl : ys.length ≤ 10 := by
        rw [eys]
        exact Nat.le_trans (List.length_filter_le _ _) (by rw [List.length_take]; omega)
      refine ⟨.ref l, rfl, .int i, rfl, l, us, i, _, rfl, rfl, SqL.of (s7 _ _ (s6 _ _ hl)), atI_nat ev, .ref b, r, rfl, ⟨b, pw', rfl, s7 _ _ hb6, s7 _ _ hpw6⟩, fo r rm, ?_⟩
      refine ⟨.ref D, rfl, D, rfl, ⟨_, SqL.of eD⟩, fun D2 nD2 => ?_⟩
      refine lc_pureL (xs := ms) (fs := strL (ys.map fun x => sS x.fm)) (SqL.of eD) nD2 (by rw [List.length_map, List.length_map, mm.len]) (by rw [mm.len]; omega) (fun _ => rfl) (fun j x y H' Q' hy hz' s' q' => ?_) ?_
      · obtain ⟨rj, erj, roj⟩ := mm.get hy
        rw [List.getElem?_map, List.getElem?_map, erj] at hz'
        have ez := (Option.some.inj hz').symm
        subst ez
        exact ⟨_, rfl, x, rj, rfl, roj.same (s7.trans s'), fo rj (ysm rj (List.mem_of_getElem? erj)), q'⟩
      have s8 := (s6.trans s7).trans (Same.new (o := .lst (strL (ys.map fun x => sS x.fm))) nD2)
      have s58 := (s56.trans s7).trans (Same.new (o := .lst (strL (ys.map fun x => sS x.fm))) nD2)
      have eD2 : upd H7 D2 (.lst (strL (ys.map fun x => sS x.fm))) D2 = some (.lst (strL (ys.map fun x => sS x.fm))) := upd_same
      generalize upd H7 D2 (.lst (strL (ys.map fun x => sS x.fm))) = H8 at s8 s58 eD2
      refine ⟨D2, _, rfl, .inl (SqL.of eD2), rfl, flat_strL _, _, rfl, ?_⟩
      rw [if_neg Bool.false_ne_true, in_strL]
      by_cases m : sS r.fm ∈ ys.map fun x => sS x.fm
      · rw [decide_eq_true m]
        obtain ⟨x, hx, ex⟩ := List.mem_map.mp m
        have hx2 := hx
        rw [eys] at hx2
        obtain ⟨hx3, hx4⟩ := List.mem_filter.mp hx2
        rw [if_neg fun z => z x hx3 (of_decide_eq_true hx4) ((sS_stW (fo r rm) (fo x (ysm x hx))).mp ex)] at ep
        have tl : (rs.take i).length = i := by rw [List.length_take]; omega
        rw [tl] at ep
        exact iteT ⟨_, rfl, szle, fun a na => bad (i, begD) (or_some ep) _ a (s8.trans (Same.new na)) upd_same⟩
      · rw [decide_eq_false m]
        rw [if_pos fun x hx ek z => m (List.mem_map.mpr ⟨x, by rw [eys]; exact List.mem_filter.mpr ⟨hx, decide_eq_true ek⟩, (sS_stW (fo r rm) (fo x (List.mem_of_mem_take hx))).mpr z⟩)] at ep
        exact iteF ⟨_, _, rfl, s58, il, by rw [take_get er]; exact ep⟩
    rintro σ H5 ⟨y2, y5, rfl, s5, _, ep⟩
    rw [show ((us.length : Int)).toNat = rs.length by omega, List.drop_length] at ep
    have e3 : p3 [] rs = none := ep
    rw [or_none e3] at bad fl
    have s05 := s04.trans s5
    have okR : ∀ x ∈ rs, ∃ bs, RwOk bs x := fun x hx => by
      obtain ⟨j, ej⟩ := List.mem_iff_getElem?.mp hx
      exact ⟨_, okA j x ej⟩
    have kmem : ∀ r ∈ rs, r.kd ∈ kds rs := fun r hr => kds_mem hr
    -- the grounds
    refine ⟨.ref l, rfl, l, us, rs, rfl, s05 _ _ hl, ROs.same s05 ro, hi, kds3 okA, fun r hr => ⟨(okR r hr).choose_spec.fm.wl, (sane r hr).kd.1, (sane r hr).nm.1, fun w hw => ((sane r hr).ws w hw).1, (sane r hr).fm.1⟩, fun H6 g bs s6 eg ek => ?_⟩
    have s06 := s05.trans s6
    have dg : ∀ (H' : Hp) (w : List Nat), H' g = some (.dK (bsK bs)) → ∃ o, DGet H' g (.str (mk w)) o ∧ o.isSome = decide (w ∈ keyB bs) := fun H' w e' => by
      refine ⟨_, DGet.k (k := .inr (mk w)) e', ?_⟩
      rw [valV_bsK, find_isSome]
    refine ⟨.ref l, rfl, .ref l, us.length, rfl, .inl ⟨_, SqL.of (s06 _ _ hl), rfl⟩, us.length, rfl, by omega, by omega, for_range (lo := 0) (n := ((us.length : Int)).toNat) (fun i σ H7 => ∃ y2, σ = [some (.str (mk n)), some (.ref l), y2, y3, some (.ref kl), y5, some (.ref g), none, none] ∧ Same H6 H7 ∧ i ≤ rs.length ∧ p4 rs rs 0 = p4 rs (rs.drop i) i) ⟨_, rfl, Same.refl _, Nat.zero_le _, rfl⟩ ?_ ?_⟩
    · rintro i σ H7 hi' ⟨y2, rfl, s7, _, ep⟩
      have il : i < rs.length := by
        have : i < us.length := hi'
        omega
      have e0 : ((0 : Int) + (i : Nat)) = (i : Nat) := by omega
      rw [e0]
      obtain ⟨r, er⟩ : ∃ r, rs[i]? = some r := ⟨_, List.getElem?_eq_getElem il⟩
      obtain ⟨v, ev⟩ : ∃ v, us[i]? = some v := ⟨us[i], List.getElem?_eq_getElem (by omega)⟩
      have s07 := s06.trans s7
      obtain ⟨r', er', b, pw, rfl, hb, hpw⟩ := (ROs.same s07 ro).get ev
      rw [er] at er'
      cases er'
      have rm := List.mem_of_getElem? er
      rw [drop_at er, p4] at ep
      obtain ⟨o, dgo, eo⟩ := dg H7 r.kd (s7 _ _ eg)
      have nd : r.kd ≠ digW := fun z => by
        have := (okA i r er).kd
        rw [z] at this
        cases this
      have iff := gAll_iff (kds3 okA) kmem (kmem r rm) nd
      refine ⟨.ref l, rfl, .int i, rfl, l, us, i, _, rfl, rfl, SqL.of (s07 _ _ hl), atI_nat ev, b, _, 0, .str (mk r.kd), rfl, rfl, SqT.of hb, rfl, .ref g, rfl, g, o, rfl, dgo, _, rfl, ?_⟩
      rw [eo, ek]
      by_cases m : r.kd ∈ gAll rs
      · rw [decide_eq_true m]
        rw [if_pos (iff.mp m)] at ep
        exact iteF ⟨_, rfl, s7, il, ep⟩
      · rw [decide_eq_false m]
        rw [if_neg fun z => m (iff.mpr z)] at ep
        exact iteT ⟨_, rfl, szle, fun a na => bad (i, finD) ep _ a (s07.trans (Same.new na)) upd_same⟩
    rintro σ H7 ⟨y2, rfl, s7, _, ep⟩
    rw [show ((us.length : Int)).toNat = rs.length by omega, List.drop_length] at ep
    have e4 : p4 rs rs 0 = none := ep
    rw [e4] at fl
    have := q _ (s06.trans s7)
    rw [fl] at this
    exact this
end
end TW

namespace TW
open PySem PySem.Spec PyProof.Rows L2
/-- a table of these rows, or why there is none -/
def TabQ (K : PySem.W.Frag) (H : Hp) (n : List Nat) (rs : List Rw) (Q : VK) (E : XK) : Prop := match fltN n rs with
  | some z => WhyE K H E z
  | none => ∀ H' a, Same H H' → H a = none → TbO K H' a n rs → Q (.ref a) H'
def sp_ltable (K : PySem.W.Frag) : Sp := fun vs H Q E => ∃ (l : Addr) (n : List Nat) (us : List V) (rs : List Rw), vs = [.str (mk n), .ref l] ∧ (∀ c ∈ n, c < 128) ∧ n.length ≤ 1400 ∧ H l = some (.lst us) ∧ All2 (RO H) us rs ∧ rs.length ≤ 12 ∧ (∀ r ∈ rs, RwS r) ∧ TabQ K H n rs Q E
theorem tstar_of {K : PySem.W.Frag} {H : Hp} {Q : VK} {E : XK} {n : List Nat} {us : List V} {rs : List Rw} (n7 : ∀ c ∈ n, c < 128) (nl : n.length ≤ 1400) (ro : All2 (RO H) us rs) (rl : rs.length ≤ 12) (sn : ∀ r ∈ rs, RwS r) (q : TabQ K H n rs Q E) :
    ∀ x dx, H x = none → H dx = none → dx ≠ x → sp_tstar K (V.ref x :: .str (mk n) :: us) (upd (upd H dx (.own x)) x (.ins (CTb K) dx [])) (fun v H2 => v = .non ∧ Q (.ref x) H2) E := by
  intro x dx nx nd ne
  have ul := ro.len
  have s6 : Same H (upd (upd H dx (.own x)) x (.ins (CTb K) dx [])) := fun b o e => by rw [upd_ne (ne_of_none e nx), upd_ne (ne_of_none e nd)]; exact e
  refine ⟨[.ref x, .str (mk n)], us, rfl, rfl, by rw [ul]; exact Nat.le_trans (show rs.length ≤ 1400 by omega) szle14, fun p np => ?_⟩
  have s7 := s6.trans (Same.new (o := .tup us) np)
  refine tinit_of n7 nl (Same.new np _ _ upd_same) upd_same (ROs.same s7 ro) (by omega) sn ?_
  unfold TabQ at q
  cases ef : fltN n rs with
  | some w =>
    rw [ef] at q
    exact WhyE.same s7 q
  | none =>
    rw [ef] at q
    refine fun H' rx tb => ⟨rfl, q H' x (fun b o e => ?_) nx tb⟩
    exact rx b o (ne_of_none e nx) (s7 _ _ e)
section
variable {P : Program} {w : World} {K : PySem.W.Frag} {mg : Str → Option Value} {base : Heap}
theorem ok_ltable (T : Tx K mg) (Z : Tc K mg) (M : Tk K mg) (N : Tn K mg) (CC : Tg mg) (W : Tw K) (O : To K) (B : Tt K) (JT : TeT P K mg) (JN : TeN P K mg) : FnR P w K mg base (L2.CX P w) 8 (He.ga K "_law_table") (sp_ltable K) := by
  have G_tinit : FnR P w K mg base (L2.CX P w) 6 (mTb K "__init__") (sp_tstar K) := ok_tinit T Z M N CC W O B JT JN
  refine fnRX T.d_law_table sc_law_table (fun _ _ _ _ _ _ us hl => match us, hl with | [_, _], _ => rfl) (fun vs H Q E h => ?_) (fun cdv A outer s H vs Q E hr h => ?_)
  · obtain ⟨l, n, us, rs, rfl, _⟩ := h
    rfl
  · obtain ⟨l, n, us, rs, rfl, n7, nl, hl, ro, rl, sn, q⟩ := h
    refine ⟨_, (pss_cons (ps_if (pt_cmpR op_eq (pe_callB call_len (by rfl) T.z_len (by decide +kernel) (pa_cons (pv 1) pa_nil)) pe_int (nomark _))
(pss_one (ps_ret (pe_makeRS B.mk_ G_tinit (hr.mono (by omega)) rfl N.v_Table (fun σ => passAt (takes_of rfl rfl rfl rfl) σ) (pa_cons (pv 0) pa_nil))))
pss_nil)
(pss_cons (ps_if (pt_cmpR op_eq (pe_callB call_len (by rfl) T.z_len (by decide +kernel) (pa_cons (pv 1) pa_nil)) pe_int (nomark _))
(pss_one (ps_ret (pe_makeRS B.mk_ G_tinit (hr.mono (by omega)) rfl N.v_Table (fun σ => passAt (takes_of rfl rfl rfl rfl) σ) (pa_cons (pv 0) (pa_cons (pe_ix (r := rIxL K) ix_list (pv 1) pe_int (fun _ _ => rfl)) pa_nil)))))
pss_nil)
(pss_cons (ps_if (pt_cmpR op_eq (pe_callB call_len (by rfl) T.z_len (by decide +kernel) (pa_cons (pv 1) pa_nil)) pe_int (nomark _))
(pss_one (ps_ret (pe_makeRS B.mk_ G_tinit (hr.mono (by omega)) rfl N.v_Table (fun σ => passAt (takes_of rfl rfl rfl rfl) σ) (pa_cons (pv 0) (pa_cons (pe_ix (r := rIxL K) ix_list (pv 1) pe_int (fun _ _ => rfl)) (pa_cons (pe_ix (r := rIxL K) ix_list (pv 1) pe_int (fun _ _ => rfl)) pa_nil))))))
pss_nil)
(pss_cons (ps_if (pt_cmpR op_eq (pe_callB call_len (by rfl) T.z_len (by decide +kernel) (pa_cons (pv 1) pa_nil)) pe_int (nomark _))
(pss_one (ps_ret (pe_makeRS B.mk_ G_tinit (hr.mono (by omega)) rfl N.v_Table (fun σ => passAt (takes_of rfl rfl rfl rfl) σ) (pa_cons (pv 0) (pa_cons (pe_ix (r := rIxL K) ix_list (pv 1) pe_int (fun _ _ => rfl)) (pa_cons (pe_ix (r := rIxL K) ix_list (pv 1) pe_int (fun _ _ => rfl)) (pa_cons (pe_ix (r := rIxL K) ix_list (pv 1) pe_int (fun _ _ => rfl)) pa_nil)))))))
pss_nil)
(pss_cons (ps_if (pt_cmpR op_eq (pe_callB call_len (by rfl) T.z_len (by decide +kernel) (pa_cons (pv 1) pa_nil)) pe_int (nomark _))
(pss_one (ps_ret (pe_makeRS B.mk_ G_tinit (hr.mono (by omega)) rfl N.v_Table (fun σ => passAt (takes_of rfl rfl rfl rfl) σ) (pa_cons (pv 0) (pa_cons (pe_ix (r := rIxL K) ix_list (pv 1) pe_int (fun _ _ => rfl)) (pa_cons (pe_ix (r := rIxL K) ix_list (pv 1) pe_int (fun _ _ => rfl)) (pa_cons (pe_ix (r := rIxL K) ix_list (pv 1) pe_int (fun _ _ => rfl)) (pa_cons (pe_ix (r := rIxL K) ix_list (pv 1) pe_int (fun _ _ => rfl)) pa_nil))))))))
pss_nil)
(pss_cons (ps_if (pt_cmpR op_eq (pe_callB call_len (by rfl) T.z_len (by decide +kernel) (pa_cons (pv 1) pa_nil)) pe_int (nomark _))
(pss_one (ps_ret (pe_makeRS B.mk_ G_tinit (hr.mono (by omega)) rfl N.v_Table (fun σ => passAt (takes_of rfl rfl rfl rfl) σ) (pa_cons (pv 0) (pa_cons (pe_ix (r := rIxL K) ix_list (pv 1) pe_int (fun _ _ => rfl)) (pa_cons (pe_ix (r := rIxL K) ix_list (pv 1) pe_int (fun _ _ => rfl)) (pa_cons (pe_ix (r := rIxL K) ix_list (pv 1) pe_int (fun _ _ => rfl)) (pa_cons (pe_ix (r := rIxL K) ix_list (pv 1) pe_int (fun _ _ => rfl)) (pa_cons (pe_ix (r := rIxL K) ix_list (pv 1) pe_int (fun _ _ => rfl)) pa_nil)))))))))
pss_nil)
(pss_cons (ps_if (pt_cmpR op_eq (pe_callB call_len (by rfl) T.z_len (by decide +kernel) (pa_cons (pv 1) pa_nil)) pe_int (nomark _))
(pss_one (ps_ret (pe_makeRS B.mk_ G_tinit (hr.mono (by omega)) rfl N.v_Table (fun σ => passAt (takes_of rfl rfl rfl rfl) σ) (pa_cons (pv 0) (pa_cons (pe_ix (r := rIxL K) ix_list (pv 1) pe_int (fun _ _ => rfl)) (pa_cons (pe_ix (r := rIxL K) ix_list (pv 1) pe_int (fun _ _ => rfl)) (pa_cons (pe_ix (r := rIxL K) ix_list (pv 1) pe_int (fun _ _ => rfl)) (pa_cons (pe_ix (r := rIxL K) ix_list (pv 1) pe_int (fun _ _ => rfl)) (pa_cons (pe_ix (r := rIxL K) ix_list (pv 1) pe_int (fun _ _ => rfl)) (pa_cons (pe_ix (r := rIxL K) ix_list (pv 1) pe_int (fun _ _ => rfl)) pa_nil))))))))))
pss_nil)
(pss_cons (ps_if (pt_cmpR op_eq (pe_callB call_len (by rfl) T.z_len (by decide +kernel) (pa_cons (pv 1) pa_nil)) pe_int (nomark _))
(pss_one (ps_ret (pe_makeRS B.mk_ G_tinit (hr.mono (by omega)) rfl N.v_Table (fun σ => passAt (takes_of rfl rfl rfl rfl) σ) (pa_cons (pv 0) (pa_cons (pe_ix (r := rIxL K) ix_list (pv 1) pe_int (fun _ _ => rfl)) (pa_cons (pe_ix (r := rIxL K) ix_list (pv 1) pe_int (fun _ _ => rfl)) (pa_cons (pe_ix (r := rIxL K) ix_list (pv 1) pe_int (fun _ _ => rfl)) (pa_cons (pe_ix (r := rIxL K) ix_list (pv 1) pe_int (fun _ _ => rfl)) (pa_cons (pe_ix (r := rIxL K) ix_list (pv 1) pe_int (fun _ _ => rfl)) (pa_cons (pe_ix (r := rIxL K) ix_list (pv 1) pe_int (fun _ _ => rfl)) (pa_cons (pe_ix (r := rIxL K) ix_list (pv 1) pe_int (fun _ _ => rfl)) pa_nil)))))))))))
pss_nil)
(pss_cons (ps_if (pt_cmpR op_eq (pe_callB call_len (by rfl) T.z_len (by decide +kernel) (pa_cons (pv 1) pa_nil)) pe_int (nomark _))
(pss_one (ps_ret (pe_makeRS B.mk_ G_tinit (hr.mono (by omega)) rfl N.v_Table (fun σ => passAt (takes_of rfl rfl rfl rfl) σ) (pa_cons (pv 0) (pa_cons (pe_ix (r := rIxL K) ix_list (pv 1) pe_int (fun _ _ => rfl)) (pa_cons (pe_ix (r := rIxL K) ix_list (pv 1) pe_int (fun _ _ => rfl)) (pa_cons (pe_ix (r := rIxL K) ix_list (pv 1) pe_int (fun _ _ => rfl)) (pa_cons (pe_ix (r := rIxL K) ix_list (pv 1) pe_int (fun _ _ => rfl)) (pa_cons (pe_ix (r := rIxL K) ix_list (pv 1) pe_int (fun _ _ => rfl)) (pa_cons (pe_ix (r := rIxL K) ix_list (pv 1) pe_int (fun _ _ => rfl)) (pa_cons (pe_ix (r := rIxL K) ix_list (pv 1) pe_int (fun _ _ => rfl)) (pa_cons (pe_ix (r := rIxL K) ix_list (pv 1) pe_int (fun _ _ => rfl)) pa_nil))))))))))))
pss_nil)
(pss_cons (ps_if (pt_cmpR op_eq (pe_callB call_len (by rfl) T.z_len (by decide +kernel) (pa_cons (pv 1) pa_nil)) pe_int (nomark _))
(pss_one (ps_ret (pe_makeRS B.mk_ G_tinit (hr.mono (by omega)) rfl N.v_Table (fun σ => passAt (takes_of rfl rfl rfl rfl) σ) (pa_cons (pv 0) (pa_cons (pe_ix (r := rIxL K) ix_list (pv 1) pe_int (fun _ _ => rfl)) (pa_cons (pe_ix (r := rIxL K) ix_list (pv 1) pe_int (fun _ _ => rfl)) (pa_cons (pe_ix (r := rIxL K) ix_list (pv 1) pe_int (fun _ _ => rfl)) (pa_cons (pe_ix (r := rIxL K) ix_list (pv 1) pe_int (fun _ _ => rfl)) (pa_cons (pe_ix (r := rIxL K) ix_list (pv 1) pe_int (fun _ _ => rfl)) (pa_cons (pe_ix (r := rIxL K) ix_list (pv 1) pe_int (fun _ _ => rfl)) (pa_cons (pe_ix (r := rIxL K) ix_list (pv 1) pe_int (fun _ _ => rfl)) (pa_cons (pe_ix (r := rIxL K) ix_list (pv 1) pe_int (fun _ _ => rfl)) (pa_cons (pe_ix (r := rIxL K) ix_list (pv 1) pe_int (fun _ _ => rfl)) pa_nil)))))))))))))
pss_nil)
(pss_cons (ps_if (pt_cmpR op_eq (pe_callB call_len (by rfl) T.z_len (by decide +kernel) (pa_cons (pv 1) pa_nil)) pe_int (nomark _))
(pss_one (ps_ret (pe_makeRS B.mk_ G_tinit (hr.mono (by omega)) rfl N.v_Table (fun σ => passAt (takes_of rfl rfl rfl rfl) σ) (pa_cons (pv 0) (pa_cons (pe_ix (r := rIxL K) ix_list (pv 1) pe_int (fun _ _ => rfl)) (pa_cons (pe_ix (r := rIxL K) ix_list (pv 1) pe_int (fun _ _ => rfl)) (pa_cons (pe_ix (r := rIxL K) ix_list (pv 1) pe_int (fun _ _ => rfl)) (pa_cons (pe_ix (r := rIxL K) ix_list (pv 1) pe_int (fun _ _ => rfl)) (pa_cons (pe_ix (r := rIxL K) ix_list (pv 1) pe_int (fun _ _ => rfl)) (pa_cons (pe_ix (r := rIxL K) ix_list (pv 1) pe_int (fun _ _ => rfl)) (pa_cons (pe_ix (r := rIxL K) ix_list (pv 1) pe_int (fun _ _ => rfl)) (pa_cons (pe_ix (r := rIxL K) ix_list (pv 1) pe_int (fun _ _ => rfl)) (pa_cons (pe_ix (r := rIxL K) ix_list (pv 1) pe_int (fun _ _ => rfl)) (pa_cons (pe_ix (r := rIxL K) ix_list (pv 1) pe_int (fun _ _ => rfl)) pa_nil))))))))))))))
pss_nil)
(pss_cons (ps_if (pt_cmpR op_eq (pe_callB call_len (by rfl) T.z_len (by decide +kernel) (pa_cons (pv 1) pa_nil)) pe_int (nomark _))
(pss_one (ps_ret (pe_makeRS B.mk_ G_tinit (hr.mono (by omega)) rfl N.v_Table (fun σ => passAt (takes_of rfl rfl rfl rfl) σ) (pa_cons (pv 0) (pa_cons (pe_ix (r := rIxL K) ix_list (pv 1) pe_int (fun _ _ => rfl)) (pa_cons (pe_ix (r := rIxL K) ix_list (pv 1) pe_int (fun _ _ => rfl)) (pa_cons (pe_ix (r := rIxL K) ix_list (pv 1) pe_int (fun _ _ => rfl)) (pa_cons (pe_ix (r := rIxL K) ix_list (pv 1) pe_int (fun _ _ => rfl)) (pa_cons (pe_ix (r := rIxL K) ix_list (pv 1) pe_int (fun _ _ => rfl)) (pa_cons (pe_ix (r := rIxL K) ix_list (pv 1) pe_int (fun _ _ => rfl)) (pa_cons (pe_ix (r := rIxL K) ix_list (pv 1) pe_int (fun _ _ => rfl)) (pa_cons (pe_ix (r := rIxL K) ix_list (pv 1) pe_int (fun _ _ => rfl)) (pa_cons (pe_ix (r := rIxL K) ix_list (pv 1) pe_int (fun _ _ => rfl)) (pa_cons (pe_ix (r := rIxL K) ix_list (pv 1) pe_int (fun _ _ => rfl)) (pa_cons (pe_ix (r := rIxL K) ix_list (pv 1) pe_int (fun _ _ => rfl)) pa_nil)))))))))))))))
pss_nil)
(pss_one (ps_ret (pe_makeRS B.mk_ G_tinit (hr.mono (by omega)) rfl N.v_Table (fun σ => passAt (takes_of rfl rfl rfl rfl) σ) (pa_cons (pv 0) (pa_cons (pe_ix (r := rIxL K) ix_list (pv 1) pe_int (fun _ _ => rfl)) (pa_cons (pe_ix (r := rIxL K) ix_list (pv 1) pe_int (fun _ _ => rfl)) (pa_cons (pe_ix (r := rIxL K) ix_list (pv 1) pe_int (fun _ _ => rfl)) (pa_cons (pe_ix (r := rIxL K) ix_list (pv 1) pe_int (fun _ _ => rfl)) (pa_cons (pe_ix (r := rIxL K) ix_list (pv 1) pe_int (fun _ _ => rfl)) (pa_cons (pe_ix (r := rIxL K) ix_list (pv 1) pe_int (fun _ _ => rfl)) (pa_cons (pe_ix (r := rIxL K) ix_list (pv 1) pe_int (fun _ _ => rfl)) (pa_cons (pe_ix (r := rIxL K) ix_list (pv 1) pe_int (fun _ _ => rfl)) (pa_cons (pe_ix (r := rIxL K) ix_list (pv 1) pe_int (fun _ _ => rfl)) (pa_cons (pe_ix (r := rIxL K) ix_list (pv 1) pe_int (fun _ _ => rfl)) (pa_cons (pe_ix (r := rIxL K) ix_list (pv 1) pe_int (fun _ _ => rfl)) (pa_cons (pe_ix (r := rIxL K) ix_list (pv 1) pe_int (fun _ _ => rfl)) pa_nil)))))))))))))))))))))))))))), ?_⟩
    have fin := tstar_of n7 nl ro rl sn q
    have ul : us.length ≤ 12 := by rw [ro.len]; exact rl
    clear ro q
    match us, ul, hl, fin with
    | [], _, hl, fin => exact ⟨.ref l, rfl, .ref l, _, rfl, .inl ⟨_, SqL.of hl, rfl⟩, rfl, _, rfl, iteT ⟨_, rfl, fin⟩⟩
    | [_], _, hl, fin => exact ⟨.ref l, rfl, .ref l, _, rfl, .inl ⟨_, SqL.of hl, rfl⟩, rfl, _, rfl, iteF ⟨.ref l, rfl, .ref l, _, rfl, .inl ⟨_, SqL.of hl, rfl⟩, rfl, _, rfl, iteT ⟨_, rfl, .ref l, rfl, l, _, 0, _, rfl, rfl, SqL.of hl, atI_nat (j := 0) rfl, fin⟩⟩⟩
    | [_, _], _, hl, fin => exact ⟨.ref l, rfl, .ref l, _, rfl, .inl ⟨_, SqL.of hl, rfl⟩, rfl, _, rfl, iteF ⟨.ref l, rfl, .ref l, _, rfl, .inl ⟨_, SqL.of hl, rfl⟩, rfl, _, rfl, iteF ⟨.ref l, rfl, .ref l, _, rfl, .inl ⟨_, SqL.of hl, rfl⟩, rfl, _, rfl, iteT ⟨_, rfl, .ref l, rfl, l, _, 0, _, rfl, rfl, SqL.of hl, atI_nat (j := 0) rfl, .ref l, rfl, l, _, 1, _, rfl, rfl, SqL.of hl, atI_nat (j := 1) rfl, fin⟩⟩⟩⟩
    | [_, _, _], _, hl, fin => exact ⟨.ref l, rfl, .ref l, _, rfl, .inl ⟨_, SqL.of hl, rfl⟩, rfl, _, rfl, iteF ⟨.ref l, rfl, .ref l, _, rfl, .inl ⟨_, SqL.of hl, rfl⟩, rfl, _, rfl, iteF ⟨.ref l, rfl, .ref l, _, rfl, .inl ⟨_, SqL.of hl, rfl⟩, rfl, _, rfl, iteF ⟨.ref l, rfl, .ref l, _, rfl, .inl ⟨_, SqL.of hl, rfl⟩, rfl, _, rfl, iteT ⟨_, rfl, .ref l, rfl, l, _, 0, _, rfl, rfl, SqL.of hl, atI_nat (j := 0) rfl, .ref l, rfl, l, _, 1, _, rfl, rfl, SqL.of hl, atI_nat (j := 1) rfl, .ref l, rfl, l, _, 2, _, rfl, rfl, SqL.of hl, atI_nat (j := 2) rfl, fin⟩⟩⟩⟩⟩
    | [_, _, _, _], _, hl, fin => exact ⟨.ref l, rfl, .ref l, _, rfl, .inl ⟨_, SqL.of hl, rfl⟩, rfl, _, rfl, iteF ⟨.ref l, rfl, .ref l, _, rfl, .inl ⟨_, SqL.of hl, rfl⟩, rfl, _, rfl, iteF ⟨.ref l, rfl, .ref l, _, rfl, .inl ⟨_, SqL.of hl, rfl⟩, rfl, _, rfl, iteF ⟨.ref l, rfl, .ref l, _, rfl, .inl ⟨_, SqL.of hl, rfl⟩, rfl, _, rfl, iteF ⟨.ref l, rfl, .ref l, _, rfl, .inl ⟨_, SqL.of hl, rfl⟩, rfl, _, rfl, iteT ⟨_, rfl, .ref l, rfl, l, _, 0, _, rfl, rfl, SqL.of hl, atI_nat (j := 0) rfl, .ref l, rfl, l, _, 1, _, rfl, rfl, SqL.of hl, atI_nat (j := 1) rfl, .ref l, rfl, l, _, 2, _, rfl, rfl, SqL.of hl, atI_nat (j := 2) rfl, .ref l, rfl, l, _, 3, _, rfl, rfl, SqL.of hl, atI_nat (j := 3) rfl, fin⟩⟩⟩⟩⟩⟩
    | [_, _, _, _, _], _, hl, fin => exact ⟨.ref l, rfl, .ref l, _, rfl, .inl ⟨_, SqL.of hl, rfl⟩, rfl, _, rfl, iteF ⟨.ref l, rfl, .ref l, _, rfl, .inl ⟨_, SqL.of hl, rfl⟩, rfl, _, rfl, iteF ⟨.ref l, rfl, .ref l, _, rfl, .inl ⟨_, SqL.of hl, rfl⟩, rfl, _, rfl, iteF ⟨.ref l, rfl, .ref l, _, rfl, .inl ⟨_, SqL.of hl, rfl⟩, rfl, _, rfl, iteF ⟨.ref l, rfl, .ref l, _, rfl, .inl ⟨_, SqL.of hl, rfl⟩, rfl, _, rfl, iteF ⟨.ref l, rfl, .ref l, _, rfl, .inl ⟨_, SqL.of hl, rfl⟩, rfl, _, rfl, iteT ⟨_, rfl, .ref l, rfl, l, _, 0, _, rfl, rfl, SqL.of hl, atI_nat (j := 0) rfl, .ref l, rfl, l, _, 1, _, rfl, rfl, SqL.of hl, atI_nat (j := 1) rfl, .ref l, rfl, l, _, 2, _, rfl, rfl, SqL.of hl, atI_nat (j := 2) rfl, .ref l, rfl, l, _, 3, _, rfl, rfl, SqL.of hl, atI_nat (j := 3) rfl, .ref l, rfl, l, _, 4, _, rfl, rfl, SqL.of hl, atI_nat (j := 4) rfl, fin⟩⟩⟩⟩⟩⟩⟩
    | [_, _, _, _, _, _], _, hl, fin => exact ⟨.ref l, rfl, .ref l, _, rfl, .inl ⟨_, SqL.of hl, rfl⟩, rfl, _, rfl, iteF ⟨.ref l, rfl, .ref l, _, rfl, .inl ⟨_, SqL.of hl, rfl⟩, rfl, _, rfl, iteF ⟨.ref l, rfl, .ref l, _, rfl, .inl ⟨_, SqL.of hl, rfl⟩, rfl, _, rfl, iteF ⟨.ref l, rfl, .ref l, _, rfl, .inl ⟨_, SqL.of hl, rfl⟩, rfl, _, rfl, iteF ⟨.ref l, rfl, .ref l, _, rfl, .inl ⟨_, SqL.of hl, rfl⟩, rfl, _, rfl, iteF ⟨.ref l, rfl, .ref l, _, rfl, .inl ⟨_, SqL.of hl, rfl⟩, rfl, _, rfl, iteF ⟨.ref l, rfl, .ref l, _, rfl, .inl ⟨_, SqL.of hl, rfl⟩, rfl, _, rfl, iteT ⟨_, rfl, .ref l, rfl, l, _, 0, _, rfl, rfl, SqL.of hl, atI_nat (j := 0) rfl, .ref l, rfl, l, _, 1, _, rfl, rfl, SqL.of hl, atI_nat (j := 1) rfl, .ref l, rfl, l, _, 2, _, rfl, rfl, SqL.of hl, atI_nat (j := 2) rfl, .ref l, rfl, l, _, 3, _, rfl, rfl, SqL.of hl, atI_nat (j := 3) rfl, .ref l, rfl, l, _, 4, _, rfl, rfl, SqL.of hl, atI_nat (j := 4) rfl, .ref l, rfl, l, _, 5, _, rfl, rfl, SqL.of hl, atI_nat (j := 5) rfl, fin⟩⟩⟩⟩⟩⟩⟩⟩
    | [_, _, _, _, _, _, _], _, hl, fin => exact ⟨.ref l, rfl, .ref l, _, rfl, .inl ⟨_, SqL.of hl, rfl⟩, rfl, _, rfl, iteF ⟨.ref l, rfl, .ref l, _, rfl, .inl ⟨_, SqL.of hl, rfl⟩, rfl, _, rfl, iteF ⟨.ref l, rfl, .ref l, _, rfl, .inl ⟨_, SqL.of hl, rfl⟩, rfl, _, rfl, iteF ⟨.ref l, rfl, .ref l, _, rfl, .inl ⟨_, SqL.of hl, rfl⟩, rfl, _, rfl, iteF ⟨.ref l, rfl, .ref l, _, rfl, .inl ⟨_, SqL.of hl, rfl⟩, rfl, _, rfl, iteF ⟨.ref l, rfl, .ref l, _, rfl, .inl ⟨_, SqL.of hl, rfl⟩, rfl, _, rfl, iteF ⟨.ref l, rfl, .ref l, _, rfl, .inl ⟨_, SqL.of hl, rfl⟩, rfl, _, rfl, iteF ⟨.ref l, rfl, .ref l, _, rfl, .inl ⟨_, SqL.of hl, rfl⟩, rfl, _, rfl, iteT ⟨_, rfl, .ref l, rfl, l, _, 0, _, rfl, rfl, SqL.of hl, atI_nat (j := 0) rfl, .ref l, rfl, l, _, 1, _, rfl, rfl, SqL.of hl, atI_nat (j := 1) rfl, .ref l, rfl, l, _, 2, _, rfl, rfl, SqL.of hl, atI_nat (j := 2) rfl, .ref l, rfl, l, _, 3, _, rfl, rfl, SqL.of hl, atI_nat (j := 3) rfl, .ref l, rfl, l, _, 4, _, rfl, rfl, SqL.of hl, atI_nat (j := 4) rfl, .ref l, rfl, l, _, 5, _, rfl, rfl, SqL.of hl, atI_nat (j := 5) rfl, .ref l, rfl, l, _, 6, _, rfl, rfl, SqL.of hl, atI_nat (j := 6) rfl, fin⟩⟩⟩⟩⟩⟩⟩⟩⟩
    | [_, _, _, _, _, _, _, _], _, hl, fin => exact ⟨.ref l, rfl, .ref l, _, rfl, .inl ⟨_, SqL.of hl, rfl⟩, rfl, _, rfl, iteF ⟨.ref l, rfl, .ref l, _, rfl, .inl ⟨_, SqL.of hl, rfl⟩, rfl, _, rfl, iteF ⟨.ref l, rfl, .ref l, _, rfl, .inl ⟨_, SqL.of hl, rfl⟩, rfl, _, rfl, iteF ⟨.ref l, rfl, .ref l, _, rfl, .inl ⟨_, SqL.of hl, rfl⟩, rfl, _, rfl, iteF ⟨.ref l, rfl, .ref l, _, rfl, .inl ⟨_, SqL.of hl, rfl⟩, rfl, _, rfl, iteF ⟨.ref l, rfl, .ref l, _, rfl, .inl ⟨_, SqL.of hl, rfl⟩, rfl, _, rfl, iteF ⟨.ref l, rfl, .ref l, _, rfl, .inl ⟨_, SqL.of hl, rfl⟩, rfl, _, rfl, iteF ⟨.ref l, rfl, .ref l, _, rfl, .inl ⟨_, SqL.of hl, rfl⟩, rfl, _, rfl, iteF ⟨.ref l, rfl, .ref l, _, rfl, .inl ⟨_, SqL.of hl, rfl⟩, rfl, _, rfl, iteT ⟨_, rfl, .ref l, rfl, l, _, 0, _, rfl, rfl, SqL.of hl, atI_nat (j := 0) rfl, .ref l, rfl, l, _, 1, _, rfl, rfl, SqL.of hl, atI_nat (j := 1) rfl, .ref l, rfl, l, _, 2, _, rfl, rfl, SqL.of hl, atI_nat (j := 2) rfl, .ref l, rfl, l, _, 3, _, rfl, rfl, SqL.of hl, atI_nat (j := 3) rfl, .ref l, rfl, l, _, 4, _, rfl, rfl, SqL.of hl, atI_nat (j := 4) rfl, .ref l, rfl, l, _, 5, _, rfl, rfl, SqL.of hl, atI_nat (j := 5) rfl, .ref l, rfl, l, _, 6, _, rfl, rfl, SqL.of hl, atI_nat (j := 6) rfl, .ref l, rfl, l, _, 7, _, rfl, rfl, SqL.of hl, atI_nat (j := 7) rfl, fin⟩⟩⟩⟩⟩⟩⟩⟩⟩⟩
    | [_, _, _, _, _, _, _, _, _], _, hl, fin => exact ⟨.ref l, rfl, .ref l, _, rfl, .inl ⟨_, SqL.of hl, rfl⟩, rfl, _, rfl, iteF ⟨.ref l, rfl, .ref l, _, rfl, .inl ⟨_, SqL.of hl, rfl⟩, rfl, _, rfl, iteF ⟨.ref l, rfl, .ref l, _, rfl, .inl ⟨_, SqL.of hl, rfl⟩, rfl, _, rfl, iteF ⟨.ref l, rfl, .ref l, _, rfl, .inl ⟨_, SqL.of hl, rfl⟩, rfl, _, rfl, iteF ⟨.ref l, rfl, .ref l, _, rfl, .inl ⟨_, SqL.of hl, rfl⟩, rfl, _, rfl, iteF ⟨.ref l, rfl, .ref l, _, rfl, .inl ⟨_, SqL.of hl, rfl⟩, rfl, _, rfl, iteF ⟨.ref l, rfl, .ref l, _, rfl, .inl ⟨_, SqL.of hl, rfl⟩, rfl, _, rfl, iteF ⟨.ref l, rfl, .ref l, _, rfl, .inl ⟨_, SqL.of hl, rfl⟩, rfl, _, rfl, iteF ⟨.ref l, rfl, .ref l, _, rfl, .inl ⟨_, SqL.of hl, rfl⟩, rfl, _, rfl, iteF ⟨.ref l, rfl, .ref l, _, rfl, .inl ⟨_, SqL.of hl, rfl⟩, rfl, _, rfl, iteT ⟨_, rfl, .ref l, rfl, l, _, 0, _, rfl, rfl, SqL.of hl, atI_nat (j := 0) rfl, .ref l, rfl, l, _, 1, _, rfl, rfl, SqL.of hl, atI_nat (j := 1) rfl, .ref l, rfl, l, _, 2, _, rfl, rfl, SqL.of hl, atI_nat (j := 2) rfl, .ref l, rfl, l, _, 3, _, rfl, rfl, SqL.of hl, atI_nat (j := 3) rfl, .ref l, rfl, l, _, 4, _, rfl, rfl, SqL.of hl, atI_nat (j := 4) rfl, .ref l, rfl, l, _, 5, _, rfl, rfl, SqL.of hl, atI_nat (j := 5) rfl, .ref l, rfl, l, _, 6, _, rfl, rfl, SqL.of hl, atI_nat (j := 6) rfl, .ref l, rfl, l, _, 7, _, rfl, rfl, SqL.of hl, atI_nat (j := 7) rfl, .ref l, rfl, l, _, 8, _, rfl, rfl, SqL.of hl, atI_nat (j := 8) rfl, fin⟩⟩⟩⟩⟩⟩⟩⟩⟩⟩⟩
    | [_, _, _, _, _, _, _, _, _, _], _, hl, fin => exact ⟨.ref l, rfl, .ref l, _, rfl, .inl ⟨_, SqL.of hl, rfl⟩, rfl, _, rfl, iteF ⟨.ref l, rfl, .ref l, _, rfl, .inl ⟨_, SqL.of hl, rfl⟩, rfl, _, rfl, iteF ⟨.ref l, rfl, .ref l, _, rfl, .inl ⟨_, SqL.of hl, rfl⟩, rfl, _, rfl, iteF ⟨.ref l, rfl, .ref l, _, rfl, .inl ⟨_, SqL.of hl, rfl⟩, rfl, _, rfl, iteF ⟨.ref l, rfl, .ref l, _, rfl, .inl ⟨_, SqL.of hl, rfl⟩, rfl, _, rfl, iteF ⟨.ref l, rfl, .ref l, _, rfl, .inl ⟨_, SqL.of hl, rfl⟩, rfl, _, rfl, iteF ⟨.ref l, rfl, .ref l, _, rfl, .inl ⟨_, SqL.of hl, rfl⟩, rfl, _, rfl, iteF ⟨.ref l, rfl, .ref l, _, rfl, .inl ⟨_, SqL.of hl, rfl⟩, rfl, _, rfl, iteF ⟨.ref l, rfl, .ref l, _, rfl, .inl ⟨_, SqL.of hl, rfl⟩, rfl, _, rfl, iteF ⟨.ref l, rfl, .ref l, _, rfl, .inl ⟨_, SqL.of hl, rfl⟩, rfl, _, rfl, iteF ⟨.ref l, rfl, .ref l, _, rfl, .inl ⟨_, SqL.of hl, rfl⟩, rfl, _, rfl, iteT ⟨_, rfl, .ref l, rfl, l, _, 0, _, rfl, rfl, SqL.of hl, atI_nat (j := 0) rfl, .ref l, rfl, l, _, 1, _, rfl, rfl, SqL.of hl, atI_nat (j := 1) rfl, .ref l, rfl, l, _, 2, _, rfl, rfl, SqL.of hl, atI_nat (j := 2) rfl, .ref l, rfl, l, _, 3, _, rfl, rfl, SqL.of hl, atI_nat (j := 3) rfl, .ref l, rfl, l, _, 4, _, rfl, rfl, SqL.of hl, atI_nat (j := 4) rfl, .ref l, rfl, l, _, 5, _, rfl, rfl, SqL.of hl, atI_nat (j := 5) rfl, .ref l, rfl, l, _, 6, _, rfl, rfl, SqL.of hl, atI_nat (j := 6) rfl, .ref l, rfl, l, _, 7, _, rfl, rfl, SqL.of hl, atI_nat (j := 7) rfl, .ref l, rfl, l, _, 8, _, rfl, rfl, SqL.of hl, atI_nat (j := 8) rfl, .ref l, rfl, l, _, 9, _, rfl, rfl, SqL.of hl, atI_nat (j := 9) rfl, fin⟩⟩⟩⟩⟩⟩⟩⟩⟩⟩⟩⟩
    | [_, _, _, _, _, _, _, _, _, _, _], _, hl, fin => exact ⟨.ref l, rfl, .ref l, _, rfl, .inl ⟨_, SqL.of hl, rfl⟩, rfl, _, rfl, iteF ⟨.ref l, rfl, .ref l, _, rfl, .inl ⟨_, SqL.of hl, rfl⟩, rfl, _, rfl, iteF ⟨.ref l, rfl, .ref l, _, rfl, .inl ⟨_, SqL.of hl, rfl⟩, rfl, _, rfl, iteF ⟨.ref l, rfl, .ref l, _, rfl, .inl ⟨_, SqL.of hl, rfl⟩, rfl, _, rfl, iteF ⟨.ref l, rfl, .ref l, _, rfl, .inl ⟨_, SqL.of hl, rfl⟩, rfl, _, rfl, iteF ⟨.ref l, rfl, .ref l, _, rfl, .inl ⟨_, SqL.of hl, rfl⟩, rfl, _, rfl, iteF ⟨.ref l, rfl, .ref l, _, rfl, .inl ⟨_, SqL.of hl, rfl⟩, rfl, _, rfl, iteF ⟨.ref l, rfl, .ref l, _, rfl, .inl ⟨_, SqL.of hl, rfl⟩, rfl, _, rfl, iteF ⟨.ref l, rfl, .ref l, _, rfl, .inl ⟨_, SqL.of hl, rfl⟩, rfl, _, rfl, iteF ⟨.ref l, rfl, .ref l, _, rfl, .inl ⟨_, SqL.of hl, rfl⟩, rfl, _, rfl, iteF ⟨.ref l, rfl, .ref l, _, rfl, .inl ⟨_, SqL.of hl, rfl⟩, rfl, _, rfl, iteF ⟨.ref l, rfl, .ref l, _, rfl, .inl ⟨_, SqL.of hl, rfl⟩, rfl, _, rfl, iteT ⟨_, rfl, .ref l, rfl, l, _, 0, _, rfl, rfl, SqL.of hl, atI_nat (j := 0) rfl, .ref l, rfl, l, _, 1, _, rfl, rfl, SqL.of hl, atI_nat (j := 1) rfl, .ref l, rfl, l, _, 2, _, rfl, rfl, SqL.of hl, atI_nat (j := 2) rfl, .ref l, rfl, l, _, 3, _, rfl, rfl, SqL.of hl, atI_nat (j := 3) rfl, .ref l, rfl, l, _, 4, _, rfl, rfl, SqL.of hl, atI_nat (j := 4) rfl, .ref l, rfl, l, _, 5, _, rfl, rfl, SqL.of hl, atI_nat (j := 5) rfl, .ref l, rfl, l, _, 6, _, rfl, rfl, SqL.of hl, atI_nat (j := 6) rfl, .ref l, rfl, l, _, 7, _, rfl, rfl, SqL.of hl, atI_nat (j := 7) rfl, .ref l, rfl, l, _, 8, _, rfl, rfl, SqL.of hl, atI_nat (j := 8) rfl, .ref l, rfl, l, _, 9, _, rfl, rfl, SqL.of hl, atI_nat (j := 9) rfl, .ref l, rfl, l, _, 10, _, rfl, rfl, SqL.of hl, atI_nat (j := 10) rfl, fin⟩⟩⟩⟩⟩⟩⟩⟩⟩⟩⟩⟩⟩
    | [_, _, _, _, _, _, _, _, _, _, _, _], _, hl, fin => exact ⟨.ref l, rfl, .ref l, _, rfl, .inl ⟨_, SqL.of hl, rfl⟩, rfl, _, rfl, iteF ⟨.ref l, rfl, .ref l, _, rfl, .inl ⟨_, SqL.of hl, rfl⟩, rfl, _, rfl, iteF ⟨.ref l, rfl, .ref l, _, rfl, .inl ⟨_, SqL.of hl, rfl⟩, rfl, _, rfl, iteF ⟨.ref l, rfl, .ref l, _, rfl, .inl ⟨_, SqL.of hl, rfl⟩, rfl, _, rfl, iteF ⟨.ref l, rfl, .ref l, _, rfl, .inl ⟨_, SqL.of hl, rfl⟩, rfl, _, rfl, iteF ⟨.ref l, rfl, .ref l, _, rfl, .inl ⟨_, SqL.of hl, rfl⟩, rfl, _, rfl, iteF ⟨.ref l, rfl, .ref l, _, rfl, .inl ⟨_, SqL.of hl, rfl⟩, rfl, _, rfl, iteF ⟨.ref l, rfl, .ref l, _, rfl, .inl ⟨_, SqL.of hl, rfl⟩, rfl, _, rfl, iteF ⟨.ref l, rfl, .ref l, _, rfl, .inl ⟨_, SqL.of hl, rfl⟩, rfl, _, rfl, iteF ⟨.ref l, rfl, .ref l, _, rfl, .inl ⟨_, SqL.of hl, rfl⟩, rfl, _, rfl, iteF ⟨.ref l, rfl, .ref l, _, rfl, .inl ⟨_, SqL.of hl, rfl⟩, rfl, _, rfl, iteF ⟨.ref l, rfl, .ref l, _, rfl, .inl ⟨_, SqL.of hl, rfl⟩, rfl, _, rfl, iteF ⟨_, rfl, .ref l, rfl, l, _, 0, _, rfl, rfl, SqL.of hl, atI_nat (j := 0) rfl, .ref l, rfl, l, _, 1, _, rfl, rfl, SqL.of hl, atI_nat (j := 1) rfl, .ref l, rfl, l, _, 2, _, rfl, rfl, SqL.of hl, atI_nat (j := 2) rfl, .ref l, rfl, l, _, 3, _, rfl, rfl, SqL.of hl, atI_nat (j := 3) rfl, .ref l, rfl, l, _, 4, _, rfl, rfl, SqL.of hl, atI_nat (j := 4) rfl, .ref l, rfl, l, _, 5, _, rfl, rfl, SqL.of hl, atI_nat (j := 5) rfl, .ref l, rfl, l, _, 6, _, rfl, rfl, SqL.of hl, atI_nat (j := 6) rfl, .ref l, rfl, l, _, 7, _, rfl, rfl, SqL.of hl, atI_nat (j := 7) rfl, .ref l, rfl, l, _, 8, _, rfl, rfl, SqL.of hl, atI_nat (j := 8) rfl, .ref l, rfl, l, _, 9, _, rfl, rfl, SqL.of hl, atI_nat (j := 9) rfl, .ref l, rfl, l, _, 10, _, rfl, rfl, SqL.of hl, atI_nat (j := 10) rfl, .ref l, rfl, l, _, 11, _, rfl, rfl, SqL.of hl, atI_nat (j := 11) rfl, fin⟩⟩⟩⟩⟩⟩⟩⟩⟩⟩⟩⟩⟩
    | _ :: _ :: _ :: _ :: _ :: _ :: _ :: _ :: _ :: _ :: _ :: _ :: _ :: us, h, _, _ => exact absurd h (by simp)
end
end TW

namespace TW
open PySem PySem.Spec PyProof.Rows L2
/-! ### try with several clauses, each of which names the exception: except x as n -/
abbrev Clause := Value × (Addr → Value → Option Addr → TS)
/-- the ends of a suite behind which slot i is empty -/
abbrev endsN (i : Nat) (D : Ends) : Ends := ⟨fun τ G => D.nx (τ.set i none) G, D.rt, fun τ G => D.bk (τ.set i none) G, fun τ G => D.ct (τ.set i none) G⟩
def wAsM (K : PySem.W.Frag) (i : Nat) (Wout : WX) (D : Ends) : List Clause → WX
  | [] => Wout
  | x :: r => fun cls d τ G => ∃ b, PySem.W.exmOne K cls x.1 = some b ∧ (b = true → ∀ a, G a = none → x.2 a cls d (endsN i D) (τ.set i (some (.ref a))) G) ∧ (b = false → wAsM K i Wout D r cls d τ G)
inductive HdAs (X : Cx) (n : Str) : List ExceptHandler → List Clause → Prop
  | nil : HdAs X n [] []
  | cons {x : Str} {c : Value} {ts : Addr → Value → Option Addr → TS} {s0 : Stmt} {su : List Stmt} {np pp : Pos} {hds : List ExceptHandler} {l : List Clause} (hc : Names X x c)
      (hsu : ∀ (a : Addr) (oe : Obj) (cls : Value) (d : Option Addr) (pn : List (Addr × Obj)), Zc cls d oe → (∃ vs, oe.data = .fields vs) → PSs (X.suite a ((a, oe) :: pn)) (s0 :: su) (ts a cls d)) (r : HdAs X n hds l) :
      HdAs X n (.ExceptHandler (some (.Name x np)) (some n) (s0 :: su) pp :: hds) ((c, ts) :: l)
section
variable {X : Cx} {n : Str} {i : Nat} {body : List Stmt} {h0 : ExceptHandler} {hds : List ExceptHandler} {l : List Clause} {pos : Pos} {tb : WX → TS} {Wout : WX}
theorem ps_try_asM (hs : X.stack = X.env :: X.outer) (hf : X.env.frame = some X.env.locals) (hN : X.N.Nodup) (hi : X.N[i]? = some n) (hln : X.env.kindOf n = some .local) (tk : Takes X Wout)
    (hb : ∀ (W : WX) (pn : List (Addr × Obj)) (xe : Value → Shared → Prop), Takes (X.tr pn xe) W → PassesOwn (model X.prog X.w) X.A X.env xe → PSs (X.tr pn xe) body (tb W))
    (hh : HdAs X n (h0 :: hds) l) : PS X (.Try body (h0 :: hds) [] [] pos) (fun D τ G => tb (wAsM X.K i Wout D l) D τ G) := by
  refine ⟨fun pins s τ G D I h => ?_⟩
  have kx := I.ok
  have fr : X.A.frames = some (X.env :: X.outer) := by rw [kx.frames, hs]
  have lc : Loc X.env.scope n := .inl hln
  have toLook : PassesOwn (model X.prog X.w) X.A X.env (fun e s1 => wpAny (model X.prog X.w) X.A (noteFrame e X.env) (fun _ s2 => wpAny (model X.prog X.w) X.A (setFlight e none) (fun _ s3 => wpAny (model X.prog X.w) X.A (handleBy e X.env (h0 :: hds)) (SP X pins D) X.xe s3) X.xe s2) X.xe s1) := PassesOwn.looking
  refine wpAny_Try_except ?_
  refine wpAny_mono ((hb (wAsM X.K i Wout D l) (X.pn ++ pins) _ ?_ toLook).run [] s τ G D (I.toTry _) h) ?_ (fun e s1 he => he)
  · rintro u s' ⟨a, B, sI, pins', τ', G', cls, d, rfl, J', nb, up, sky, na, os, ag, w⟩
    have J : Inv X pins τ' G' sI := J'.ofTry kx
    have sk : Sky B (X.env :: X.outer) a (Zc cls d) X.env.locals s'.heap := by
      rw [← hs]
      exact sky
    show wpAny (model X.prog X.w) X.A (noteFrame (.ref a) X.env) _ _ _
    refine Sky.land Zc.steady fr hf sk fun g3 l3 u3 => ?_
    have up3 := up.trans u3
    have J3 : Inv X pins τ' G' { s' with heap := g3 } := J.landed nb l3.1 up3 os ag
    obtain ⟨o3, w3, e3, z3, d3⟩ := l3.there
    have nfr : a ∉ frs (X.env :: X.outer) := fun hm => by
      obtain ⟨_, o', eo, nf⟩ := l3.2.2.1.mem hm
      rw [e3] at eo
      cases eo
      exact nf _ d3
    have nL : a ≠ X.env.locals := fun z => nfr (List.mem_filterMap.mpr ⟨X.env, List.mem_cons_self, by rw [hf, z]⟩)
    have nF : a ∉ X.fs := fun hm => by
      obtain ⟨y, hy, q⟩ := List.mem_filterMap.mp hm
      exact nfr (List.mem_filterMap.mpr ⟨y, List.mem_cons_of_mem _ hy, q⟩)
    have S3 := J3.suite e3 d3 na nL nF
    suffices go : ∀ {hs2 : List ExceptHandler} {l2 : List Clause}, HdAs X n hs2 l2 → wAsM X.K i Wout D l2 cls d τ' G' → wpAny (model X.prog X.w) X.A (handleBy (.ref a) X.env hs2) (SP X pins D) X.xe { s' with heap := g3 } from go hh w
    intro hs2 l2 hk
    induction hk with
    | nil =>
      intro wo
      refine wpAny_handleBy_nil ?_
      obtain ⟨k1, k2, k3, oe, vs, T, oT, ts', he, hz, hd, h1, hr⟩ := id l3
      unfold PySem.passOn
      refine wpAny_bind (wpAny_field he hd h1 ?_)
      rw [if_neg (show ¬ ((Value.ref T == Value.none) = true) from by simp)]
      have out : wpAny (model X.prog X.w) X.A (setFlight (.ref a) X.env.frame) (fun _ s4 => wpAny (model X.prog X.w) X.A (throw (.ref a) : Sem Flow) (SP X pins D) X.xe s4) X.xe { s' with heap := g3 } := by
        rw [hf]
        refine HandSPX.setFlight_upZ l3 fun g4 l4 u4 => wpAny_throw (tk _ _ ?_)
        exact ⟨a, B, sI, pins, τ', G', cls, d, rfl, J, nb, up3.trans u4, .inr (.inr (by rw [hs]; exact l4)), na, os, ag, wo⟩
      first
        | exact wpAny_bind (wpAny_pure (wpAny_bind out))
        | exact wpAny_bind out
    | @cons x c ts s0 su np pp hds2 l3' hc hsu r ih =>
      intro wc
      obtain ⟨b, hb1, hy, hno⟩ := wc
      refine wpAny_handleBy_cons (codeAny_handlers_test ?_) (by intro q; cases q)
      have LT : PySem.W.Looks (model X.prog X.w) g3 (typeOf (.ref a)) cls := fun A Q E s k q => wpAny_typeOf_ref (k _ _ e3) (by rw [z3.1]; exact q)
      have LM := PySem.W.exm_one (M := model X.prog X.w) J3.kIn LT hb1
      have named : ∀ {Q : Value → Shared → Prop} {E : Value → Shared → Prop}, Q c { s' with heap := g3 } → wpAny (model X.prog X.w) (X.A.mark (some (.ref a))) (eval (.Name x np) X.env) Q E { s' with heap := g3 } := fun {Q E} q => by
        obtain ⟨hg, hd2, hm | ⟨hm, hv, hnn⟩⟩ := hc
        · exact ld_glob (X := X.suite a ((a, o3) :: (X.pn ++ pins))) S3 hg hm q hd2
        · exact ld_blt (X := X.suite a ((a, o3) :: (X.pn ++ pins))) S3 hg hm hv q hnn hd2
      refine named (LM.here ?_)
      cases b with
      | false =>
        show wpAny _ X.A (handleBy (.ref a) X.env hds2) _ _ _
        exact ih (hno rfl)
      | true =>
        refine codeAny_handlers_suite_as ?_
        refine HandSPX.lands_againZ l3 fun g4 l4 u4 => ?_
        have J4 : Inv X pins τ' G' { s' with heap := g4 } := J.landed nb l4.1 (up3.trans u4) os ag
        obtain ⟨o4, w4, e4, z4, d4⟩ := l4.there
        have S4 := J4.suite e4 d4 na nL nF
        refine store_ok (X := X.suite a ((a, o4) :: (X.pn ++ pins))) (v := .ref a) S4 hN hi lc rfl (fun s5 S5 => ?_) (.inr hln)
        refine wpAny_mono ((hsu a o4 cls d (X.pn ++ pins) z4 ⟨_, d4⟩).run [] s5 _ G' _ S5 (hy rfl a na)) (fun f s6 sp => ?_) (fun _ _ z => False.elim z)
        have gone : ∀ {τ6 : L2.St} {G6 : Hp} {Q : Shared → Prop}, Inv (X.suite a ((a, o4) :: (X.pn ++ pins))) [] τ6 G6 s6 → (∀ s7, Inv X pins (τ6.set i none) G6 s7 → Q s7) →
            wpAny (model X.prog X.w) X.A (do bindName X.env n .none; unbindBehindTheSuite X.env n pp) (fun _ s7 => Q s7) X.xe s6 := fun {τ6 G6 Q} S6 hq => gone_ok (S6.unsuite kx) hN hi hln hq
        cases f with
        | next =>
          obtain ⟨τ6, G6, S6, q6⟩ := sp
          exact gone S6 fun s7 J7 => ⟨_, _, J7, q6⟩
        | ret u =>
          obtain ⟨v6, τ6, G6, S6, r6, q6⟩ := sp
          exact gone S6 fun s7 J7 => ⟨_, _, _, J7, r6, q6⟩
        | brk =>
          obtain ⟨τ6, G6, S6, q6⟩ := sp
          exact gone S6 fun s7 J7 => ⟨_, _, J7, q6⟩
        | cont =>
          obtain ⟨τ6, G6, S6, q6⟩ := sp
          exact gone S6 fun s7 J7 => ⟨_, _, J7, q6⟩
  · intro f s1 sp
    cases f with
    | next =>
      obtain ⟨τ1, G1, J1, q⟩ := sp
      exact wpAny_execs_nil ⟨τ1, G1, J1.ofTry kx, q⟩
    | ret u =>
      obtain ⟨v, τ1, G1, J1, rv, q⟩ := sp
      exact ⟨v, τ1, G1, J1.ofTry kx, rv, q⟩
    | brk =>
      obtain ⟨τ1, G1, J1, q⟩ := sp
      exact ⟨τ1, G1, J1.ofTry kx, q⟩
    | cont =>
      obtain ⟨τ1, G1, J1, q⟩ := sp
      exact ⟨τ1, G1, J1.ofTry kx, q⟩
end
end TW

namespace TW
/-! ## the least trees are the least of all derivable ones: plain -/
/-! ### brackets -/
def b1 (c : Nat) : Int := if c = 40 then 1 else if c = 41 then -1 else 0
def bal : List Nat → Int
  | [] => 0
  | c :: r => b1 c + bal r
theorem bal_app : ∀ a b : List Nat, bal (a ++ b) = bal a + bal b
  | [], b => by
    rw [List.nil_append, bal]
    omega
  | c :: a, b => by
    rw [List.cons_append, bal, bal, bal_app a b]
    omega
theorem name_sign {n : List Nat} {ks : List Tr} (h : wf (.nd n ks) = true) : ∀ c ∈ n, 48 ≤ c := by
  intro c hc
  rcases name_cases h with z | ⟨z, _⟩
  · cases n with
    | nil => cases hc
    | cons x r =>
      rw [bigN, Bool.and_eq_true, Bool.and_eq_true] at z
      obtain ⟨⟨z1, z2⟩, _⟩ := z
      rcases List.mem_cons.mp hc with rfl | hc
      · unfold capC at z1
        have := Nat.le_of_ble_eq_true (Bool.and_eq_true_iff.mp z1).1
        omega
      · have := List.all_eq_true.mp z2 c hc
        unfold alnC capC at this
        rw [Bool.or_eq_true, Bool.or_eq_true, Bool.and_eq_true, Bool.and_eq_true, Bool.and_eq_true] at this
        rcases this with (⟨h1, _⟩ | ⟨h1, _⟩) | ⟨h1, _⟩
        · have := Nat.le_of_ble_eq_true h1
          omega
        · have := Nat.le_of_ble_eq_true h1
          omega
        · exact Nat.le_of_ble_eq_true h1
  · rcases leaf_cases z with e | ⟨d, e, hd⟩
    · rw [e] at hc
      rw [List.mem_singleton.mp hc]
      decide
    · rw [e] at hc
      rw [List.mem_singleton.mp hc]
      unfold digC at hd
      exact Nat.le_of_ble_eq_true (Bool.and_eq_true_iff.mp hd).1
theorem bal_name : ∀ {n : List Nat}, (∀ c ∈ n, 48 ≤ c) → bal n = 0
  | [], _ => rfl
  | c :: r, h => by
    have h1 := h c List.mem_cons_self
    rw [bal, bal_name fun x hx => h x (List.mem_cons_of_mem _ hx)]
    unfold b1
    rw [if_neg (by omega), if_neg (by omega)]
    rfl
/-- every beginning has no more closing brackets than opening ones -/
def BalOk (l : List Nat) : Prop := bal l = 0 ∧ ∀ p z, l = p ++ z → 0 ≤ bal p
theorem BalOk.app {a b : List Nat} (ha : BalOk a) (hb : BalOk b) : BalOk (a ++ b) := by
  refine ⟨by rw [bal_app, ha.1, hb.1]; rfl, fun p z e => ?_⟩
  rcases List.append_eq_append_iff.mp e with ⟨m, rfl, e2⟩ | ⟨m, e1, e2⟩
  · rw [bal_app, ha.1, Int.zero_add]
    exact hb.2 m z e2
  · exact ha.2 p m e1
theorem BalOk.low {l : List Nat} (h : ∀ c ∈ l, c ≠ 40 ∧ c ≠ 41) : BalOk l := by
  have key : ∀ p : List Nat, (∀ c ∈ p, c ≠ 40 ∧ c ≠ 41) → bal p = 0 := by
    intro p
    induction p with
    | nil => exact fun _ => rfl
    | cons c r ih =>
      intro hp
      have h1 := hp c List.mem_cons_self
      rw [bal, ih fun x hx => hp x (List.mem_cons_of_mem _ hx)]
      unfold b1
      rw [if_neg h1.1, if_neg h1.2]
      rfl
  refine ⟨key l h, fun p z e => ?_⟩
  rw [key p fun c hc => h c (e ▸ List.mem_append_left _ hc)]
  exact Int.le_refl _
theorem BalOk.wrap {l : List Nat} (h : BalOk l) : BalOk (40 :: (l ++ [41])) := by
  have e1 : bal [41] = -1 := rfl
  have e0 : b1 40 = 1 := rfl
  refine ⟨by rw [bal, bal_app, h.1, e1, e0]; rfl, fun p z e => ?_⟩
  cases p with
  | nil => exact Int.le_refl _
  | cons c p =>
    rw [List.cons_append] at e
    injection e with ec e
    subst ec
    rw [bal, e0]
    rcases List.append_eq_append_iff.mp e with ⟨m, rfl, e2⟩ | ⟨m, e3, e2⟩
    · rw [bal_app, h.1]
      cases m with
      | nil => decide
      | cons x m =>
        rw [List.cons_append] at e2
        injection e2 with ex e2
        have em : m = [] := (List.append_eq_nil_iff.mp e2.symm).1
        rw [em, ← ex]
        decide
    · have := h.2 p m e3
      omega
mutual
theorem tm_bal : ∀ t : Tr, wf t = true → BalOk (tm t)
  | .nd n [], h => by
    rw [tm_leaf]
    exact BalOk.low fun c hc => by
      have := name_sign h c hc
      omega
  | .nd n (k :: r), h => by
    have hk : wfs (k :: r) = true := by
      rw [wf, Bool.and_eq_true, Bool.and_eq_true] at h
      exact h.2.2
    rw [tm_node]
    refine BalOk.app (BalOk.low fun c hc => ?_) (BalOk.wrap (tms_bal (k :: r) hk))
    have := name_sign h c hc
    omega
theorem tms_bal : ∀ ks : List Tr, wfs ks = true → BalOk (jn (tms ks))
  | [], _ => by
    rw [tms, jn]
    exact BalOk.low fun c hc => nomatch hc
  | [t], h => by
    rw [wfs, Bool.and_eq_true] at h
    rw [tms, tms, jn]
    exact tm_bal t h.1
  | t :: u :: r, h => by
    rw [wfs, Bool.and_eq_true] at h
    rw [tms, tms, jn]
    refine BalOk.app (tm_bal t h.1) ?_
    show BalOk ([44, 32] ++ jn (tm u :: tms r))
    refine BalOk.app (BalOk.low fun c hc => ?_) ?_
    · rcases List.mem_cons.mp hc with rfl | hc
      · decide
      · rw [List.mem_singleton.mp hc]
        decide
    · have := tms_bal (u :: r) h.2
      rw [tms] at this
      exact this
end
theorem wf_kd2 {n : List Nat} {ks : List Tr} (h : wf (.nd n ks) = true) : wfs ks = true := by
  rw [wf, Bool.and_eq_true, Bool.and_eq_true] at h
  exact h.2.2
/-- no term with brackets is a proper beginning of another term -/
theorem no_pre {t u : Tr} (ht : wf t = true) (hu : wf u = true) {z : List Nat} (e : tm u = tm t ++ z) (hz : z ≠ []) : ∃ n, t = .nd n [] := by
  obtain ⟨n, ks⟩ := t
  cases ks with
  | nil => exact ⟨n, rfl⟩
  | cons k r =>
    exfalso
    have m40 : 40 ∈ tm (.nd n (k :: r)) := by
      rw [tm_node]
      simp
    obtain ⟨m, us⟩ := u
    cases us with
    | nil =>
      rw [tm_leaf] at e
      have := name_sign hu 40 (by rw [e]; exact List.mem_append_left _ m40)
      omega
    | cons v s =>
      rw [tm_node m] at e
      obtain ⟨z', x, rfl⟩ : ∃ z' x, z = z' ++ [x] := by
        rcases List.eq_nil_or_concat z with h | ⟨z', x, h⟩
        · exact absurd h hz
        · exact ⟨z', x, by rw [h, List.concat_eq_append]⟩
      have e2 : (m ++ 40 :: jn (tms (v :: s))) ++ [41] = (tm (.nd n (k :: r)) ++ z') ++ [x] := by
        rw [List.append_assoc, List.cons_append, e, List.append_assoc]
      have e3 := (List.append_inj' e2 rfl).1
      have bt := (tm_bal _ ht).1
      rcases List.append_eq_append_iff.mp e3 with ⟨a, e4, e5⟩ | ⟨a, e4, e5⟩
      · cases a with
        | nil =>
          rw [List.append_nil] at e4
          have := name_sign hu 40 (by rw [← e4]; exact m40)
          omega
        | cons y a =>
          rw [List.cons_append] at e5
          injection e5 with ey e5
          have := (tms_bal (v :: s) (wf_kd2 hu)).2 a z' e5
          rw [e4, bal_app, bal, bal_name (name_sign hu), ← ey] at bt
          have e0 : b1 40 = 1 := rfl
          omega
      · have := name_sign hu 40 (by rw [e4]; exact List.mem_append_left _ m40)
        omega
theorem lt_split : ∀ {a b : List Nat}, a < b → (∃ z, z ≠ [] ∧ b = a ++ z) ∨ ∃ p x y r s, a = p ++ x :: r ∧ b = p ++ y :: s ∧ x < y
  | a, [], h => absurd h (List.not_lt_nil a)
  | [], d :: s, _ => .inl ⟨d :: s, List.cons_ne_nil _ _, rfl⟩
  | c :: r, d :: s, h => by
    rcases List.cons_lt_cons_iff.mp h with z | ⟨z, y⟩
    · exact .inr ⟨[], c, d, r, s, rfl, rfl, z⟩
    · subst z
      rcases lt_split y with ⟨z, hz, e⟩ | ⟨p, x, y, r', s', e1, e2, l⟩
      · exact .inl ⟨z, hz, by rw [e]; rfl⟩
      · exact .inr ⟨c :: p, x, y, r', s', by rw [e1]; rfl, by rw [e2]; rfl, l⟩
theorem pre_lt : ∀ (p : List Nat) {a b : List Nat}, a < b → p ++ a < p ++ b
  | [], _, _, h => h
  | c :: p, _, _, h => by
    rw [List.cons_append, List.cons_append, List.cons_lt_cons_iff]
    exact .inr ⟨rfl, pre_lt p h⟩
theorem dif_lt (p : List Nat) {x y : Nat} {r s : List Nat} (h : x < y) : p ++ x :: r < p ++ y :: s := pre_lt p (List.cons_lt_cons_iff.mpr (.inl h))
/-- terms of one size stay apart whatever stands behind them -/
theorem tm_ext {t u : Tr} (ht : wf t = true) (hu : wf u = true) (es : sz t = sz u) (h : tm t < tm u) {c : Nat} (hc : c < 48) (Y Z : List Nat) : tm t ++ c :: Y < tm u ++ Z := by
  rcases lt_split h with ⟨z, hz, e⟩ | ⟨p, x, y, r, s, e1, e2, l⟩
  · obtain ⟨n, rfl⟩ := no_pre ht hu e hz
    obtain ⟨m, us⟩ := u
    cases us with
    | cons v s =>
      have := sz_pos v
      rw [sz, sz, szs, szs] at es
      omega
    | nil =>
      rw [tm_leaf, tm_leaf] at e ⊢
      cases z with
      | nil => exact absurd rfl hz
      | cons x z =>
        have := name_sign hu x (by rw [e]; exact List.mem_append_right _ List.mem_cons_self)
        rw [e, List.append_assoc, List.cons_append]
        exact dif_lt n (by omega)
  · rw [e1, e2, List.append_assoc, List.append_assoc, List.cons_append, List.cons_append]
    exact dif_lt p l
/-! ### the order by size and term -/
def leT (t u : Tr) : Prop := sz t < sz u ∨ (sz t = sz u ∧ (tm t = tm u ∨ tm t < tm u))
theorem leT_refl (t : Tr) : leT t t := .inr ⟨rfl, .inl rfl⟩
theorem leT_trans {t u v : Tr} (h : leT t u) (g : leT u v) : leT t v := by
  unfold leT at *
  rcases h with h | ⟨h, h'⟩
  · rcases g with g | ⟨g, _⟩ <;> exact .inl (by omega)
  · rcases g with g | ⟨g, g'⟩
    · exact .inl (by omega)
    · refine .inr ⟨by omega, ?_⟩
      rcases h' with h' | h'
      · rw [h']
        exact g'
      · rcases g' with g' | g'
        · exact .inr (g' ▸ h')
        · exact .inr (List.lt_trans h' g')
theorem leT_iff {t u : Tr} : leT t u ↔ ¬ ltT u t := by
  unfold leT ltT
  constructor
  · rintro (h | ⟨h, h'⟩) (g | ⟨g, g'⟩)
    · omega
    · omega
    · omega
    · rcases h' with h' | h'
      · exact absurd g' (by rw [h']; exact List.lt_irrefl _)
      · exact absurd (List.lt_trans g' h') (List.lt_irrefl _)
  · intro z
    by_cases h : sz t < sz u
    · exact .inl h
    · have e : sz t = sz u := by
        have : ¬ sz u < sz t := fun w => z (.inl w)
        omega
      refine .inr ⟨e, ?_⟩
      have n : ¬ tm u < tm t := fun w => z (.inr ⟨e.symm, w⟩)
      by_cases h2 : tm t < tm u
      · exact .inr h2
      · exact .inl (List.le_antisymm (List.not_lt.mp n) (List.not_lt.mp h2))
/-- trees of one size and one term -/
def eqK (t u : Tr) : Prop := sz t = sz u ∧ tm t = tm u
theorem eqK.le {t u : Tr} (h : eqK t u) : leT t u := .inr ⟨h.1, .inl h.2⟩
theorem eqK.symm {t u : Tr} (h : eqK t u) : eqK u t := ⟨h.1.symm, h.2.symm⟩
theorem eqK.trans {t u v : Tr} (h : eqK t u) (g : eqK u v) : eqK t v := ⟨h.1.trans g.1, h.2.trans g.2⟩
theorem leT_anti {t u : Tr} (h : leT t u) (g : leT u t) : eqK t u := by
  unfold leT at h g
  rcases h with h | ⟨h, h'⟩
  · rcases g with g | ⟨g, _⟩ <;> omega
  · refine ⟨h, ?_⟩
    rcases h' with h' | h'
    · exact h'
    · rcases g with g | ⟨_, g'⟩
      · omega
      · rcases g' with g' | g'
        · exact g'.symm
        · exact absurd (List.lt_trans h' g') (List.lt_irrefl _)
theorem ltT_le {t u : Tr} (h : ltT t u) : leT t u := by
  rcases h with h | ⟨h, h'⟩
  · exact .inl h
  · exact .inr ⟨h, .inr h'⟩
inductive LeTs : List Tr → List Tr → Prop
  | nil : LeTs [] []
  | cons {t u : Tr} {ts us : List Tr} : leT t u → LeTs ts us → LeTs (t :: ts) (u :: us)
theorem LeTs.len {ts us : List Tr} (h : LeTs ts us) : ts.length = us.length := by
  induction h with
  | nil => rfl
  | cons _ _ ih => rw [List.length_cons, List.length_cons, ih]
theorem LeTs.cmp {ts us : List Tr} (h : LeTs ts us) (w1 : wfs ts = true) (w2 : wfs us = true) : szs ts < szs us ∨ (szs ts = szs us ∧ (jn (tms ts) = jn (tms us) ∨ ∀ Y Z, jn (tms ts) ++ 41 :: Y < jn (tms us) ++ Z)) := by
  induction h with
  | nil => exact .inr ⟨rfl, .inl rfl⟩
  | @cons t u ts us h hs ih =>
    rw [wfs, Bool.and_eq_true] at w1 w2
    have ih := ih w1.2 w2.2
    rw [szs, szs]
    have l := hs.len
    rcases h with h | ⟨h, h'⟩
    · refine .inl ?_
      rcases ih with i | ⟨i, _⟩ <;> omega
    · rcases ih with i | ⟨i, i'⟩
      · exact .inl (by omega)
      · refine .inr ⟨by omega, ?_⟩
        cases ts with
        | nil =>
          cases us with
          | cons _ _ => cases l
          | nil =>
            have j1 : ∀ x : Tr, jn (tms [x]) = tm x := fun x => by rw [tms, tms, jn]
            rw [j1, j1]
            rcases h' with h' | h'
            · exact .inl h'
            · exact .inr fun Y Z => tm_ext w1.1 w2.1 h h' (by decide) Y Z
        | cons t2 ts =>
          cases us with
          | nil => cases l
          | cons u2 us =>
            have j : ∀ (x y : Tr) (r : List Tr), jn (tms (x :: y :: r)) = tm x ++ 44 :: 32 :: jn (tms (y :: r)) := fun x y r => by rw [tms, tms, jn]
            rw [j, j]
            rcases h' with h' | h'
            · rcases i' with i' | i'
              · exact .inl (by rw [h', i'])
              · refine .inr fun Y Z => ?_
                rw [h', List.append_assoc, List.append_assoc]
                refine pre_lt _ ?_
                exact pre_lt [44, 32] (i' Y Z)
            · refine .inr fun Y Z => ?_
              rw [List.append_assoc, List.append_assoc]
              exact tm_ext w1.1 w2.1 h h' (by decide) _ _
theorem LeTs.nd {ts us : List Tr} (h : LeTs ts us) (w1 : wfs ts = true) (w2 : wfs us = true) (n : List Nat) : leT (.nd n ts) (.nd n us) := by
  have l := h.len
  have c := h.cmp w1 w2
  unfold leT
  rw [sz, sz]
  rcases c with c | ⟨c, c'⟩
  · exact .inl (by omega)
  · refine .inr ⟨by omega, ?_⟩
    cases ts with
    | nil =>
      cases us with
      | cons _ _ => cases l
      | nil => exact .inl rfl
    | cons t ts =>
      cases us with
      | nil => cases l
      | cons u us =>
        rw [tm_node, tm_node]
        rcases c' with c' | c'
        · exact .inl (by rw [c'])
        · refine .inr (pre_lt n ?_)
          have := pre_lt [40] (c' [] [41])
          exact this
theorem letsF {R : List Nat → Tr → Tr → Prop} {L M : LM} (hR : ∀ w t u, L w = some t → M w = some u → R w t u → leT t u) : ∀ {ws : List (List Nat)}, (∀ w ∈ ws, ∃ t u, L w = some t ∧ M w = some u ∧ R w t u) → LeTs (ws.filterMap L) (ws.filterMap M)
  | [], _ => .nil
  | w :: ws, h => by
    obtain ⟨t, u, e1, e2, r⟩ := h w List.mem_cons_self
    rw [List.filterMap_cons, e1, List.filterMap_cons, e2]
    exact .cons (hR w t u e1 e2 r) (letsF hR fun x hx => h x (List.mem_cons_of_mem _ hx))
/-! ### the map of the table is the least one -/
/-- rows that are right enough -/
structure RwG (rs : List Rw) : Prop where
  nm : ∀ r ∈ rs, bigN r.nm = true
  kd : ∀ r ∈ rs, bigN r.kd = true
  w3 : ∀ r ∈ rs, r.ws.length ≤ 3
theorem wfs_of {ts : List Tr} (h : ∀ t ∈ ts, wf t = true) : wfs ts = true := by
  induction ts with
  | nil => rw [wfs]
  | cons t ts ih =>
    rw [wfs, h t List.mem_cons_self, ih fun x hx => h x (List.mem_cons_of_mem _ hx)]
    rfl
theorem drv_wf {rs : List Rw} (g : RwG rs) {w : List Nat} {t : Tr} (d : Drv rs w t) : wf t = true := by
  induction d with
  | dig => rfl
  | row r ts hr hl hd ih =>
    refine bigN_wf (g.nm r hr) (by rw [hl]; exact g.w3 r hr) (wfs_of fun t ht => ?_)
    obtain ⟨i, ei⟩ := List.mem_iff_getElem?.mp ht
    have il := (List.getElem?_eq_some_iff.mp ei).1
    exact ih i _ t (List.getElem?_eq_getElem (by omega)) ei
theorem drv_at {rs : List Rw} {r : Rw} {ts : List Tr} (hl : ts.length = r.ws.length) {t : Tr} (ht : t ∈ ts) : ∃ (i : Nat) (w : List Nat), r.ws[i]? = some w ∧ ts[i]? = some t := by
  obtain ⟨i, ei⟩ := List.mem_iff_getElem?.mp ht
  have il := (List.getElem?_eq_some_iff.mp ei).1
  exact ⟨i, _, List.getElem?_eq_getElem (by omega), ei⟩
theorem lets_ix {L : LM} : ∀ {ws : List (List Nat)} {ts : List Tr}, ts.length = ws.length → (∀ (i : Nat) (w : List Nat) (t : Tr), ws[i]? = some w → ts[i]? = some t → ∃ u, L w = some u ∧ leT u t) → LeTs (ws.filterMap L) ts
  | [], [], _, _ => .nil
  | [], _ :: _, h, _ => by cases h
  | _ :: _, [], h, _ => by cases h
  | w :: ws, t :: ts, h, k => by
    obtain ⟨u, e, l⟩ := k 0 w t rfl rfl
    rw [List.filterMap_cons, e]
    exact .cons l (lets_ix (Nat.succ.inj h) fun i w' t' e1 e2 => k (i + 1) w' t' e1 e2)
theorem least_low {rs : List Rw} {L : LM} (g : RwG rs) (lok : LOkS rs L) (cl : ∀ r ∈ rs, Cl L r) {w : List Nat} {u : Tr} (d : Drv rs w u) : ∃ t, L w = some t ∧ leT t u := by
  induction d with
  | dig => exact ⟨_, lok.ok.dig, leT_refl _⟩
  | row r ts hr hl hd ih =>
    have wts : wfs ts = true := wfs_of fun t ht => by
      obtain ⟨i, w, e1, e2⟩ := drv_at (rs := rs) hl ht
      exact drv_wf g (hd i w t e1 e2)
    have lt := lets_ix (L := L) hl ih
    have all : ∀ w ∈ r.ws, (L w).isSome = true := fun w hw => by
      obtain ⟨i, ei⟩ := List.mem_iff_getElem?.mp hw
      have il := (List.getElem?_eq_some_iff.mp ei).1
      obtain ⟨u, e, _⟩ := ih i w _ ei (List.getElem?_eq_getElem (by omega))
      rw [e]
      rfl
    obtain ⟨t, et, nl⟩ := cl r hr all
    exact ⟨t, et, leT_trans (leT_iff.mpr nl) (lt.nd (fm_wf lok.wf) wts r.nm)⟩
/-! ### the law's rounds -/
open Classical in
noncomputable def lstp (L : LM) (r : Rw) : LM := if (∀ w ∈ r.ws, (L w).isSome = true) ∧ (∀ u, L r.kd = some u → ltT (.nd r.nm (r.ws.filterMap L)) u) then up L r.kd (.nd r.nm (r.ws.filterMap L)) else L
noncomputable def lrnd (rs : List Rw) (L : LM) : LM := rs.foldl lstp L
noncomputable def lrnds (rs : List Rw) (L : LM) : Nat → LM
  | 0 => L
  | n + 1 => lrnd rs (lrnds rs L n)
def L0 : LM := fun w => if w = digW then some (.nd [48] []) else none
theorem lok0 (rs : List Rw) : LOkS rs L0 := by
  refine ⟨⟨rfl, fun w hw' => ?_, fun w t ht => ?_, fun w t ht => ?_⟩, fun w t ht => ?_⟩
  · unfold L0 at hw'
    by_cases e : w = digW
    · exact .inl e
    · rw [if_neg e] at hw'
      cases hw'
  all_goals
    unfold L0 at ht
    by_cases e : w = digW
    · rw [if_pos e] at ht
      rw [← Option.some.inj ht]
      first
        | rfl
        | exact Nat.le_trans (show sz (.nd [48] []) ≤ Sb 0 by decide) (Sb_mono (Nat.zero_le _))
        | (rw [e]; exact .dig)
    · rw [if_neg e] at ht
      cases ht
theorem lstp_ok {rs : List Rw} (g : RwG rs) {L : LM} (lok : LOkS rs L) {r : Rw} (hr : r ∈ rs) : LOkS rs (lstp L r) := by
  unfold lstp
  split
  · rename_i c
    obtain ⟨hall, hlt⟩ := c
    have wt : wf (.nd r.nm (r.ws.filterMap L)) = true := bigN_wf (g.nm r hr) (by rw [fm_len hall]; exact g.w3 r hr) (fm_wf lok.wf)
    have zs := fm_sz (ws := r.ws) lok.sz
    have w3 := g.w3 r hr
    refine lok.up (kds_nodup rs) (kds_mem hr) (fun z => ?_) wt ?_ (fun u hu => ?_) (lok.drv hr hall)
    · have := g.kd r hr
      rw [z] at this
      cases this
    · rw [sz]
      have : r.ws.length * Sb (nK L (kds rs)) ≤ 3 * Sb (nK L (kds rs)) := Nat.mul_le_mul_right _ w3
      omega
    · rcases hlt u hu with h | ⟨h, _⟩
      · exact Nat.le_of_lt h
      · exact Nat.le_of_eq h
  · exact lok
theorem lrnd_ok {rs : List Rw} (g : RwG rs) : ∀ {us : List Rw} {L : LM}, (∀ r ∈ us, r ∈ rs) → LOkS rs L → LOkS rs (us.foldl lstp L)
  | [], _, _, h => h
  | r :: us, L, hu, h => lrnd_ok g (us := us) (fun x hx => hu x (List.mem_cons_of_mem _ hx)) (lstp_ok g h (hu r List.mem_cons_self))
/-- at w the map L has a tree of the size and term that M has -/
def OkAt (M L : LM) (w : List Nat) : Prop := ∃ t m, L w = some t ∧ M w = some m ∧ eqK t m
section
variable {rs : List Rw} {M : LM} (g : RwG rs) (lokM : LOkS rs M) (cl : ∀ r ∈ rs, Cl M r)
include g lokM cl
theorem okat_step {L : LM} (lok : LOkS rs L) {r : Rw} (hr : r ∈ rs) {w : List Nat} (h : OkAt M L w) : OkAt M (lstp L r) w := by
  unfold lstp
  split
  · rename_i c
    obtain ⟨hall, hlt⟩ := c
    by_cases e : w = r.kd
    · subst e
      obtain ⟨t, m, e1, e2, k⟩ := h
      have l1 := hlt t e1
      obtain ⟨m', em, lm⟩ := least_low g lokM cl (lok.drv hr hall)
      rw [e2] at em
      cases em
      exact absurd l1 (leT_iff.mp (leT_trans k.le lm))
    · obtain ⟨t, m, e1, e2, k⟩ := h
      refine ⟨t, m, ?_, e2, k⟩
      unfold up
      rw [if_neg e]
      exact e1
  · exact h
theorem okat_new {L : LM} (lok : LOkS rs L) {r : Rw} (hr : r ∈ rs) (hw : ∀ w ∈ r.ws, OkAt M L w) {m : Tr} (em : M r.kd = some m) (hm : leT (.nd r.nm (r.ws.filterMap M)) m) : OkAt M (lstp L r) r.kd := by
  have hall : ∀ w ∈ r.ws, (L w).isSome = true := fun w h => by
    obtain ⟨t, _, e, _⟩ := hw w h
    rw [e]
    rfl
  have le1 : leT (.nd r.nm (r.ws.filterMap L)) m := by
    refine leT_trans (LeTs.nd (letsF (R := fun _ t u => eqK t u) (fun w t u _ _ k => k.le) fun w h => ?_) (fm_wf lok.wf) (fm_wf lokM.wf) r.nm) hm
    obtain ⟨t, u, e1, e2, k⟩ := hw w h
    exact ⟨t, u, e1, e2, k⟩
  have low : ∀ {u : Tr}, Drv rs r.kd u → leT m u := fun d => by
    obtain ⟨m', e, l⟩ := least_low g lokM cl d
    rw [em] at e
    cases e
    exact l
  unfold lstp
  split
  · refine ⟨_, m, by unfold up; rw [if_pos rfl], em, leT_anti le1 (low (lok.drv hr hall))⟩
  · rename_i c
    cases e : L r.kd with
    | none => exact absurd ⟨hall, fun u hu => by rw [e] at hu; cases hu⟩ c
    | some t =>
      have nlt : ¬ ltT (.nd r.nm (r.ws.filterMap L)) t := fun z => c ⟨hall, fun u hu => by rw [e] at hu; cases hu; exact z⟩
      exact ⟨t, m, e, em, leT_anti (leT_trans (leT_iff.mpr nlt) le1) (low (lok.sd r.kd t e))⟩
theorem okat_fold {w : List Nat} : ∀ {us : List Rw} {L : LM}, (∀ r ∈ us, r ∈ rs) → LOkS rs L → OkAt M L w → OkAt M (us.foldl lstp L) w
  | [], _, _, _, h => h
  | r :: us, L, hu, lok, h => okat_fold (us := us) (fun x hx => hu x (List.mem_cons_of_mem _ hx)) (lstp_ok g lok (hu r List.mem_cons_self)) (okat_step g lokM cl lok (hu r List.mem_cons_self) h)
theorem okat_round {L : LM} (lok : LOkS rs L) {r : Rw} (hr : r ∈ rs) (hw : ∀ w ∈ r.ws, OkAt M L w) {m : Tr} (em : M r.kd = some m) (hm : leT (.nd r.nm (r.ws.filterMap M)) m) : OkAt M (lrnd rs L) r.kd := by
  obtain ⟨a, b, e⟩ := List.append_of_mem hr
  have sa : ∀ x ∈ a, x ∈ rs := fun x hx => by rw [e]; exact List.mem_append_left _ hx
  have sb : ∀ x ∈ b, x ∈ rs := fun x hx => by rw [e]; exact List.mem_append_right _ (List.mem_cons_of_mem _ hx)
  have l1 := lrnd_ok g sa lok
  unfold lrnd
  have ef : rs.foldl lstp L = b.foldl lstp (lstp (a.foldl lstp L) r) := by
    conv => lhs; rw [e]
    rw [List.foldl_append, List.foldl_cons]
  rw [ef]
  exact okat_fold g lokM cl sb (lstp_ok g l1 hr) (okat_new g lokM cl l1 hr (fun w h => okat_fold g lokM cl sa lok (hw w h)) em hm)
omit g lokM cl in
theorem cnt_lt {α : Type} {p q : α → Bool} : ∀ {l : List α}, (∀ x, p x = true → q x = true) → (∃ x ∈ l, q x = true ∧ p x = false) → l.countP p < l.countP q
  | [], _, ⟨x, h, _⟩ => nomatch h
  | y :: l, h, ⟨x, hx, q1, p1⟩ => by
    have le : l.countP p ≤ l.countP q := List.countP_mono_left fun x _ => h x
    rw [List.countP_cons, List.countP_cons]
    rcases List.mem_cons.mp hx with rfl | hx
    · rw [q1, p1]
      simp
      omega
    · have ih := cnt_lt (l := l) h ⟨x, hx, q1, p1⟩
      cases ep : p y with
      | true =>
        rw [h y ep]
        omega
      | false =>
        have : (if false = true then 1 else 0) = 0 := rfl
        omega
/-- what the law's four rounds find -/
theorem least_four (k3 : (kds rs).length ≤ 3) {k : List Nat} {m : Tr} (em : M k = some m) : OkAt M (lrnds rs L0 4) k := by
  have ok : ∀ n, LOkS rs (lrnds rs L0 n) := fun n => by
    induction n with
    | zero => exact lok0 rs
    | succ n ih => exact lrnd_ok g (fun _ h => h) ih
  obtain ⟨rk, erk⟩ : ∃ rk : Tr → Nat, rk = fun t => (kds rs).countP fun w => match M w with | some u => decide (sz u < sz t) | none => false := ⟨_, rfl⟩
  have dig : ∀ n, OkAt M (lrnds rs L0 n) digW := fun n => ⟨_, _, (ok n).ok.dig, lokM.ok.dig, rfl, rfl⟩
  have key : ∀ n k m, M k = some m → k ≠ digW → rk m < n → OkAt M (lrnds rs L0 n) k := by
    intro n
    induction n with
    | zero => intro k m _ _ h; exact absurd h (Nat.not_lt_zero _)
    | succ n ih =>
      intro k m em nd hr
      have d := lokM.sd k m em
      cases d with
      | dig => exact absurd rfl nd
      | row r ts hr' hl hd =>
        have lt := lets_ix (L := M) hl fun i w t e1 e2 => least_low g lokM cl (hd i w t e1 e2)
        have wts : wfs ts = true := wfs_of fun t ht => by
          obtain ⟨i, w, e1, e2⟩ := drv_at (rs := rs) hl ht
          exact drv_wf g (hd i w t e1 e2)
        refine okat_round g lokM cl (ok n) hr' (fun w hw => ?_) em (lt.nd (fm_wf lokM.wf) wts r.nm)
        obtain ⟨i, ei⟩ := List.mem_iff_getElem?.mp hw
        have il := (List.getElem?_eq_some_iff.mp ei).1
        have et : ts[i]? = some ts[i] := List.getElem?_eq_getElem (by omega)
        obtain ⟨u, eu, lu⟩ := least_low g lokM cl (hd i w _ ei et)
        by_cases ew : w = digW
        · rw [ew]
          exact dig n
        refine ih w u eu ew ?_
        have h2 := szs_get et
        have h3 : sz u ≤ sz ts[i] := by
          rcases lu with z | ⟨z, _⟩ <;> omega
        have h4 : sz u < sz (.nd r.nm ts) := by
          rw [sz]
          omega
        have : rk u < rk (.nd r.nm ts) := by
          rw [erk]
          refine cnt_lt (fun x hx => ?_) ⟨w, (lokM.ok.only w (by rw [eu]; rfl)).resolve_left ew, ?_, ?_⟩
          · cases ex : M x with
            | none => rw [ex] at hx; cases hx
            | some v =>
              rw [ex] at hx
              have := of_decide_eq_true hx
              exact decide_eq_true (by omega)
          · rw [eu]
            exact decide_eq_true h4
          · rw [eu]
            exact decide_eq_false (by omega)
        omega
  by_cases e : k = digW
  · rw [e]
    exact dig 4
  · refine key 4 k m em e ?_
    have : rk m ≤ (kds rs).length := by
      rw [erk]
      exact List.countP_le_length
    omega
end
end TW

namespace TW
open PySem PySem.Spec PyProof.Rows L2
theorem call_isP {X : Cx} (K : PySem.W.Frag) (hK : X.K = K := by rfl) : CallR X (.builtin "isinstance") (rIsi K) := by
  subst hK
  exact call_isi
/-! ### a classmethod whose error leaves with the slots -/
def tCMethS (C : Addr) (sp : Sp) (E : L2.St → XK) (ta : TE) (t : TA) : TE := fun σ H Q => ta σ H fun x H1 => x = .ref C ∧ t σ H1 fun vs H2 => sp (.ref C :: vs) H2 Q (E σ)
section
variable {X : Cx} {CX : CXT} {k : Nat} {C p g : Addr} {mc : Value} {sp : Sp} {o e : Expr} {es : List Expr} {m : Str} {pos apos : Pos} {ta : TE} {t : TA} {pl : Sem Bool}
theorem run_cmS {pins : List (Addr × Obj)} {σ : L2.St} {H : Hp} {s : Shared} {q : Addr} {E : XK} {Q : VK} {us : List Value} {vs : List V} (F : FnR X.prog X.w X.K X.mg X.base CX k g sp) (hr : Room k X.A) (hx : PassesAt CX X σ E) (I : Inv X ((q, PySem.W.methodObj (.ref g) (.ref C)) :: pins) σ H s)
    (r : Vals vs us) (h : sp (.ref C :: vs) H Q E) : wpAny (model X.prog X.w) X.A (call (.ref q) us) (EP X pins σ Q) X.xe s := by
  have z : wpAny (model X.prog X.w) X.A (call (.ref q) us) (EP X ((q, PySem.W.methodObj (.ref g) (.ref C)) :: pins) σ Q) X.xe s :=
    wpAny_call (PySem.W.method_call (ClX.pin_at I) (run_fnRS (us := .ref C :: us) (vs := .ref C :: vs) F hr hx I (.cons rfl r) h))
  exact thn z fun _ _ y => ClX.unpinE y
theorem pe_cmethS {E : L2.St → XK} (he : PE X o ta) (r : ClX.CRead X.K C mc) (c : ClX.CMet X.K C mc m p g) (F : FnR X.prog X.w X.K X.mg X.base CX k g sp) (hr : Room k X.A) (hx : ∀ σ, PassesAt CX X σ (E σ)) (ha : PA X (e :: es) t)
    (hst : starEach (e :: es) X.env = (false, eval e X.env) :: starEach es X.env := by rfl) (hpl : (backTo pos (starEach es X.env)).any (·.1) = false := by rfl)
    (ht : eval (.Call (.Attribute o m apos) (e :: es) [] pos) X.env = (do
      let ov ← eval o X.env
      standAt apos.atName
      let (f, first) ← holding [ov] (getMethod ov m pl)
      callWith pos f first (backTo pos (starEach (e :: es) X.env)) (backToKw pos (keywordEach [] X.env))) := by rfl) :
    PE X (.Call (.Attribute o m apos) (e :: es) [] pos) (tCMethS C sp E ta t) := by
  refine ⟨fun pins s σ H Q I h => ?_⟩
  refine PySem.W.methodCall_KW (pl := pl) (thn (he.run pins s σ H _ I h) fun u s1 ⟨x, H1, I1, rx, ex, q⟩ => ?_) ht
  subst ex
  obtain rfl : u = Value.ref C := rx
  refine ClX.getmethcm_ok I1 r c fun s2 I2 => ?_
  refine ClX.callwith_cm I2 (ClX.base_none I1 (Nat.le_refl _)) c.fi (thn (ha.run pos _ s2 σ H1 _ I2 q) fun us s3 ⟨vs, H2, I3, rv, q2⟩ => ⟨⟨ClX.pin_at I3, I3.kIn⟩, ?_⟩) hst hpl
  exact run_cmS F hr (hx σ) I3 rv q2
end
abbrev CW (K : PySem.W.Frag) : Addr := He.ga K "WorkError"
theorem kit_ib {K : PySem.W.Frag} : PySem.W.kitOne K (.type "int") (.type "bool") = some false := kit_ty (show kitB "int" "bool" = some false by decide +kernel)
/-- the errors that are caught -/
structure TeX4 (K : PySem.W.Frag) (mg : Str → Option Value) : Prop where
  v_WorkError : mg "WorkError" = some (.ref (CW K))
  x_bn : XfC K (CBN K)
  x_bc : XfC K (CBC K)
  x_bl : XfC K (CBL K)
  x_bt : XfC K (CBT K)
  c_bt : ExcC K (CBT K)
  m_bn : PySem.W.exmOne K (.ref (CBN K)) (.ref (CBN K)) = some true
  m_bc_bn : PySem.W.exmOne K (.ref (CBC K)) (.ref (CBN K)) = some false
  m_bc : PySem.W.exmOne K (.ref (CBC K)) (.ref (CBC K)) = some true
  m_bl_bn : PySem.W.exmOne K (.ref (CBL K)) (.ref (CBN K)) = some false
  m_bl_bc : PySem.W.exmOne K (.ref (CBL K)) (.ref (CBC K)) = some false
  m_bl : PySem.W.exmOne K (.ref (CBL K)) (.ref (CBL K)) = some true
  m_bt_bn : PySem.W.exmOne K (.ref (CBT K)) (.ref (CBN K)) = some false
  m_bt_bc : PySem.W.exmOne K (.ref (CBT K)) (.ref (CBC K)) = some false
  m_bt_bl : PySem.W.exmOne K (.ref (CBT K)) (.ref (CBL K)) = some false
  m_bt : PySem.W.exmOne K (.ref (CBT K)) (.ref (CBT K)) = some true
  x_unk : XfC K (CUn K)
  c_unk : ExcC K (CUn K)
  m_unk : PySem.W.exmOne K (.ref (CUn K)) (.ref (CUn K)) = some true
  i_unk_w : PySem.W.kitOne K (.ref (CUn K)) (.ref (CW K)) = some true
  i_unk_v : PySem.W.kitOne K (.ref (CUn K)) (.type "ValueError") = some true
  i_unk_bt : PySem.W.kitOne K (.ref (CUn K)) (.ref (CBT K)) = some false
  i_bt_w : PySem.W.kitOne K (.ref (CBT K)) (.ref (CW K)) = some true
/-- what comes of rows and of a text -/
noncomputable def outN (n : List Nat) (rs : List Rw) : Sum Why (List Nat × List Rw) := match fltN n rs with
  | some z => .inl z
  | none => .inr (n, rs)
noncomputable def outD (d : List Nat) : Sum Why (List Nat × List Rw) := match rdT d with
  | .inl k => .inl (.line k)
  | .inr x => outN x.1 x.2
def OutQ (K : PySem.W.Frag) (H : Hp) (Q : VK) : Sum Why (List Nat × List Rw) → Prop
  | .inl z => ∀ H' a, Same H H' → H' a = some (.tup (whyV z)) → Q (.ref a) H'
  | .inr x => ∀ H' a, Same H H' → TbO K H' a x.1 x.2 → Q (.ref a) H'
def sp_built (K : PySem.W.Frag) : Sp := fun vs H Q _ => ∃ (l : Addr) (n : List Nat) (tx : V) (o : Sum Why (List Nat × List Rw)), vs = [.str (mk n), .ref l, tx] ∧ OutQ K H Q o ∧
  ((tx = .non ∧ ∃ us rs, (∀ c ∈ n, c < 128) ∧ n.length ≤ 1400 ∧ H l = some (.lst us) ∧ All2 (RO H) us rs ∧ rs.length ≤ 12 ∧ (∀ r ∈ rs, RwS r) ∧ o = outN n rs) ∨
   ∃ d, tx = .str (mk d) ∧ (∀ c ∈ d, c < 128) ∧ d.length ≤ 1380 ∧ o = outD d)
section
variable {P : Program} {w : World} {K : PySem.W.Frag} {mg : Str → Option Value} {base : Heap}
theorem ok_built (T : Tx K mg) (Z : Tc K mg) (M : Tk K mg) (N : Tn K mg) (CC : Tg mg) (W : Tw K) (O : To K) (B : Tt K) (RT : Ttr K) (JT : TeT P K mg) (JN : TeN P K mg) (JL : TeB P K mg) (JX : TeX4 K mg) : FnR P w K mg base CX0 9 (He.ga K "_law_built") (sp_built K) := by
  have G_law_table : FnR P w K mg base (L2.CX P w) 8 (He.ga K "_law_table") (sp_ltable K) := ok_ltable T Z M N CC W O B JT JN
  have G_tread : FnR P w K mg base (L2.CX P w) 8 (gTR K) (sp_tread K) := ok_tread T Z M N CC W O B RT JT JN JL
  refine fnR0 T.d_law_built sc_law_built (fun _ _ _ _ _ _ us hl => match us, hl with | [_, _, _], _ => rfl) (fun vs H Q E h => ?_) (fun cdv A outer s H vs Q E hr h => ?_)
  · obtain ⟨l, n, tx, o, rfl, _⟩ := h
    rfl
  · obtain ⟨l, n, tx, o, rfl, q, h⟩ := h
    refine ⟨_, (pss_cons (ps_try_asM (i := 4) (Wout := fun _ _ _ _ => False) rfl rfl sc_law_built.nd rfl rfl takes0 (fun W pn xe tk _ => pss_one (ps_if (pt_cmpR op_isN (pv 2) pe_non (nomark _)) (pss_one (ps_set (i := 3) sc_law_built.nd rfl (.inl rfl) (pe_crS G_law_table (hr.mono (by decide)) (by rfl) T.v_law_table T.k_law_table (fun σ => passAt tk σ) (pa_cons (pv 0) (pa_cons (pv 1) pa_nil))))) (pss_one (ps_set (i := 3) sc_law_built.nd rfl (.inl rfl) (pe_cmethS (pe_glob (v := .ref (CTb K)) (by rfl) N.v_Table rfl) RT.rd RT.met G_tread (hr.mono (by decide)) (fun σ => passAt tk σ) (pa_cons (pv 2) pa_nil)))))) (.cons ⟨rfl, by decide, .inl JN.v_BadName⟩ (fun a oe cls d pn hz hf => (pss_one (ps_ret (pe_tup (pa_cons pe_str (pa_cons (pe_xf JX.x_bn JN.e_bn.no hz hf (pv 4)) pa_nil)))))) (.cons ⟨rfl, by decide, .inl JN.v_BadCount⟩ (fun a oe cls d pn hz hf => (pss_one (ps_ret (pe_tup (pa_cons pe_str (pa_cons (pe_xf JX.x_bc JN.e_bc.no hz hf (pv 4)) pa_nil)))))) (.cons ⟨rfl, by decide, .inl JL.v_BadLine⟩ (fun a oe cls d pn hz hf => (pss_one (ps_ret (pe_tup (pa_cons pe_str (pa_cons (pe_xf JX.x_bl JL.e_bl.no hz hf (pv 4)) pa_nil)))))) (.cons ⟨rfl, by decide, .inl JT.v_BadTable⟩ (fun a oe cls d pn hz hf => (pss_cons (ps_if (PW.pt (pw_or (pt_not (pt_val (pe_callB (call_isX JX.c_bt hz hf) (by rfl) T.z_isinstance (by decide +kernel) (pa_cons (pv 4) (pa_cons (pe_glob (v := .ref (CW K)) (by rfl) JX.v_WorkError rfl) pa_nil))))) (pw_or1 (pt_val (pe_callB (call_isP K) (by rfl) T.z_isinstance (by decide +kernel) (pa_cons (pe_xf JX.x_bt JT.e_bt.no hz hf (pv 4)) (pa_cons (pe_bltn (v := .ty "bool") (by rfl) T.z_bool (by decide +kernel) rfl) pa_nil))))))) (pss_one (ps_ret (pe_tup (pa_cons pe_str pa_nil)))) pss_nil) (pss_one (ps_ret (pe_tup (pa_cons pe_str (pa_cons (pe_xf JX.x_bt JT.e_bt.no hz hf (pv 4)) (pa_cons (pe_xf JX.x_bt JT.e_bt.nog hz hf (pv 4)) pa_nil)))))))) .nil)))))
(pss_one (ps_ret (pv 3)))), ?_⟩
    have tell : ∀ z, o = .inl z → ∀ H' a, Same H H' → H' a = some (.tup (whyV z)) → Q (.ref a) H' := fun z e => by
      rw [e] at q
      exact q
    have done : ∀ n rs, o = .inr (n, rs) → ∀ H' a, Same H H' → TbO K H' a n rs → Q (.ref a) H' := fun n rs e => by
      rw [e] at q
      exact q
    rcases h with ⟨rfl, us, rs, n7, nl, hl, ro, r12, sn, eo⟩ | ⟨d, rfl, d7, dl, eo⟩
    · refine ⟨.non, rfl, rfl, _, rfl, iteT ⟨.str (mk n), rfl, .ref l, rfl, l, n, us, rs, rfl, n7, nl, hl, ro, r12, sn, ?_⟩⟩
      unfold TabQ
      unfold outN at eo
      cases ef : fltN n rs with
      | none =>
        rw [ef] at eo
        exact fun H' a s' _ tb => ⟨_, rfl, done n rs eo H' a s' tb⟩
      | some z =>
        rw [ef] at eo
        have tl := tell z eo
        cases z with
        | name k =>
          intro H1 d s1 nd
          refine ⟨true, JX.m_bn, fun _ a0 na => ?_, fun z => nomatch z⟩
          have s2 : Same H1 (upd H1 d (.xd [(("name" : Str), .str (mk k))])) := Same.new nd
          exact ⟨.ref a0, rfl, rfl, rfl, d, _, .str (mk k), rfl, upd_same, rfl, szle, fun y ny => tl _ y (s1.trans (s2.trans (Same.new ny))) upd_same⟩
        | count k =>
          intro H1 d s1 nd
          refine ⟨false, JX.m_bc_bn, (fun z => nomatch z), fun _ => ⟨true, JX.m_bc, fun _ a0 na => ?_, fun z => nomatch z⟩⟩
          have s2 : Same H1 (upd H1 d (.xd [(("count" : Str), .int (k : Nat))])) := Same.new nd
          exact ⟨.ref a0, rfl, rfl, rfl, d, _, .int (k : Nat), rfl, upd_same, rfl, szle, fun y ny => tl _ y (s1.trans (s2.trans (Same.new ny))) upd_same⟩
        | line k =>
          intro H1 d s1 nd
          refine ⟨false, JX.m_bl_bn, (fun z => nomatch z), fun _ => ⟨false, JX.m_bl_bc, (fun z => nomatch z), fun _ => ⟨true, JX.m_bl, fun _ a0 na => ?_, fun z => nomatch z⟩⟩⟩
          have s2 : Same H1 (upd H1 d (.xd [(("line" : Str), .int (k : Nat))])) := Same.new nd
          exact ⟨.ref a0, rfl, rfl, rfl, d, _, .int (k : Nat), rfl, upd_same, rfl, szle, fun y ny => tl _ y (s1.trans (s2.trans (Same.new ny))) upd_same⟩
        | tab i r =>
          intro H1 d s1 nd
          refine ⟨false, JX.m_bt_bn, (fun z => nomatch z), fun _ => ⟨false, JX.m_bt_bc, (fun z => nomatch z), fun _ => ⟨false, JX.m_bt_bl, (fun z => nomatch z), fun _ => ⟨true, JX.m_bt, fun _ a0 na => ?_, fun z => nomatch z⟩⟩⟩⟩
          have s2 : Same H1 (upd H1 d (.xd [(("row" : Str), .int (i : Nat)), (("reason" : Str), .str (mk r))])) := Same.new nd
          refine ⟨.ref a0, rfl, .ref (CW K), .ref (CW K), true, d, _, rfl, fun u h => h, rfl, rfl, upd_same, JX.i_bt_w, true, rfl, ?_⟩
          refine iteF ?_
          refine ⟨.ref a0, rfl, rfl, rfl, d, _, .int (i : Nat), rfl, upd_same, rfl, .int (i : Nat), .ty "bool", _, _, false, rfl, .ty _, .base (.int _), kit_ib, false, rfl, iteF ?_⟩
          exact ⟨.ref a0, rfl, rfl, rfl, d, _, .int (i : Nat), rfl, upd_same, rfl, .ref a0, rfl, rfl, rfl, d, _, .str (mk r), rfl, upd_same, rfl, szle, fun y ny => tl _ y (s1.trans (s2.trans (Same.new ny))) upd_same⟩
    · refine ⟨.str (mk d), rfl, rfl, _, rfl, iteF ?_⟩
      refine ⟨rfl, .str (mk d), rfl, d, rfl, d7, dl, ?_⟩
      unfold outD at eo
      cases er : rdT d with
      | inl k =>
        rw [er] at eo
        have tl := tell (.line k) eo
        intro H1 d s1 nd
        refine ⟨false, JX.m_bl_bn, (fun z => nomatch z), fun _ => ⟨false, JX.m_bl_bc, (fun z => nomatch z), fun _ => ⟨true, JX.m_bl, fun _ a0 na => ?_, fun z => nomatch z⟩⟩⟩
        have s2 : Same H1 (upd H1 d (.xd [(("line" : Str), .int (k : Nat))])) := Same.new nd
        exact ⟨.ref a0, rfl, rfl, rfl, d, _, .int (k : Nat), rfl, upd_same, rfl, szle, fun y ny => tl _ y (s1.trans (s2.trans (Same.new ny))) upd_same⟩
      | inr x =>
        obtain ⟨n', rs⟩ := x
        rw [er] at eo
        replace eo : o = outN n' rs := eo
        unfold outN at eo
        show (match fltN n' rs with
          | some w => WhyE K H _ w
          | none => _)
        cases ef : fltN n' rs with
        | none =>
          rw [ef] at eo
          exact fun H' a s' _ tb => ⟨_, rfl, done n' rs eo H' a s' tb⟩
        | some z =>
          rw [ef] at eo
          have tl := tell z eo
          cases z with
          | name k =>
            intro H1 d s1 nd
            refine ⟨true, JX.m_bn, fun _ a0 na => ?_, fun z => nomatch z⟩
            have s2 : Same H1 (upd H1 d (.xd [(("name" : Str), .str (mk k))])) := Same.new nd
            exact ⟨.ref a0, rfl, rfl, rfl, d, _, .str (mk k), rfl, upd_same, rfl, szle, fun y ny => tl _ y (s1.trans (s2.trans (Same.new ny))) upd_same⟩
          | count k =>
            intro H1 d s1 nd
            refine ⟨false, JX.m_bc_bn, (fun z => nomatch z), fun _ => ⟨true, JX.m_bc, fun _ a0 na => ?_, fun z => nomatch z⟩⟩
            have s2 : Same H1 (upd H1 d (.xd [(("count" : Str), .int (k : Nat))])) := Same.new nd
            exact ⟨.ref a0, rfl, rfl, rfl, d, _, .int (k : Nat), rfl, upd_same, rfl, szle, fun y ny => tl _ y (s1.trans (s2.trans (Same.new ny))) upd_same⟩
          | line k =>
            intro H1 d s1 nd
            refine ⟨false, JX.m_bl_bn, (fun z => nomatch z), fun _ => ⟨false, JX.m_bl_bc, (fun z => nomatch z), fun _ => ⟨true, JX.m_bl, fun _ a0 na => ?_, fun z => nomatch z⟩⟩⟩
            have s2 : Same H1 (upd H1 d (.xd [(("line" : Str), .int (k : Nat))])) := Same.new nd
            exact ⟨.ref a0, rfl, rfl, rfl, d, _, .int (k : Nat), rfl, upd_same, rfl, szle, fun y ny => tl _ y (s1.trans (s2.trans (Same.new ny))) upd_same⟩
          | tab i r =>
            intro H1 d s1 nd
            refine ⟨false, JX.m_bt_bn, (fun z => nomatch z), fun _ => ⟨false, JX.m_bt_bc, (fun z => nomatch z), fun _ => ⟨false, JX.m_bt_bl, (fun z => nomatch z), fun _ => ⟨true, JX.m_bt, fun _ a0 na => ?_, fun z => nomatch z⟩⟩⟩⟩
            have s2 : Same H1 (upd H1 d (.xd [(("row" : Str), .int (i : Nat)), (("reason" : Str), .str (mk r))])) := Same.new nd
            refine ⟨.ref a0, rfl, .ref (CW K), .ref (CW K), true, d, _, rfl, fun u h => h, rfl, rfl, upd_same, JX.i_bt_w, true, rfl, ?_⟩
            refine iteF ?_
            refine ⟨.ref a0, rfl, rfl, rfl, d, _, .int (i : Nat), rfl, upd_same, rfl, .int (i : Nat), .ty "bool", _, _, false, rfl, .ty _, .base (.int _), kit_ib, false, rfl, iteF ?_⟩
            exact ⟨.ref a0, rfl, rfl, rfl, d, _, .int (i : Nat), rfl, upd_same, rfl, .ref a0, rfl, rfl, rfl, d, _, .str (mk r), rfl, upd_same, rfl, szle, fun y ny => tl _ y (s1.trans (s2.trans (Same.new ny))) upd_same⟩
end
end TW

namespace TW
open PySem PySem.Spec PyProof.Rows L2
/-! ### _law_least -/
/-- a comprehension with a test over a tuple; the value is asked only where the test holds -/
theorem lc_filtP {K : PySem.W.Frag} {a : Addr} {α : Type} {xs : List α} {h : α → V} {tt : TT} {te : TE} {s : Nat} {σ : L2.St} {H1 : Hp} {D : Addr} {Qd : Hp → Prop} (p : α → Bool) (g : α → V) (hl : H1 a = some (.tup (xs.map h))) (nD : H1 D = none) (small : xs.length ≤ 1000)
    (h2 : ∀ x : V, wipe ((wipe σ [s]).set s (some x)) [s] = wipe σ [s]) (ht : ∀ (c : α) (H' : Hp) (Q : Bool → Hp → Prop), c ∈ xs → Same H1 H' → Q (p c) H' → tt ((wipe σ [s]).set s (some (h c))) H' Q)
    (he : ∀ (c : α) (H' : Hp) (Q : VK), c ∈ xs → p c = true → Same H1 H' → Q (g c) H' → te ((wipe σ [s]).set s (some (h c))) H' Q) (q : Qd (upd H1 D (.lst ((xs.filter p).map g)))) :
    LcGoal (Itt K a) (gName s) tt te [s] σ H1 D Qd := by
  have sm : ∀ l : List V, Same H1 (upd H1 D (.lst l)) := fun l => Same.new nD
  refine lc_tup (xs := xs.map h) (fun i H3 => i ≤ xs.length ∧ H3 = upd H1 D (.lst (((xs.take i).filter p).map g))) ⟨Nat.zero_le _, rfl⟩ ?_ ?_ ?_
  · rintro i H3 _ ⟨_, rfl⟩
    exact SqT.of (sm _ _ _ hl)
  · rintro i x H3 hx ⟨_, rfl⟩
    rw [List.getElem?_map] at hx
    cases gi : xs[i]? with
    | none => rw [gi] at hx; cases hx
    | some c1 =>
    rw [gi] at hx
    have ex := (Option.some.inj hx).symm
    subst ex
    have hlt : i < xs.length := (List.getElem?_eq_some_iff.mp gi).1
    have cm := List.mem_of_getElem? gi
    refine ⟨h2 _, ?_⟩
    have et : (xs.take (i + 1)).filter p = (xs.take i).filter p ++ (if p c1 then [c1] else []) := by
      rw [take_get gi, List.filter_append, List.filter_cons]
      rfl
    refine ht c1 _ _ cm (sm _) ?_
    cases e : p c1 with
    | true =>
      rw [if_pos e] at et
      rw [if_pos rfl]
      refine he c1 _ _ cm e (sm _) ⟨_, upd_same, ?_, hlt, ?_⟩
      · have := List.length_filter_le p (xs.take i)
        rw [List.length_take] at this
        rw [List.length_map]
        exact small1000 (by omega)
      · rw [upd_upd, et, List.map_append]
        rfl
    | false =>
      rw [if_neg (by rw [e]; exact Bool.false_ne_true), List.append_nil] at et
      rw [if_neg Bool.false_ne_true]
      exact ⟨hlt, by rw [et]⟩
  · rintro H3 ⟨_, rfl⟩
    rw [List.length_map, List.take_length]
    exact q
/-- a tuple of size and term -/
def NtO (H : Hp) (v : V) (t : Tr) : Prop := ∃ p, v = .ref p ∧ H p = some (.tup [.int (sz t : Int), .str (mk (tm t))])
theorem NtO.same {H H' : Hp} (s : Same H H') {v : V} {t : Tr} (h : NtO H v t) : NtO H' v t := by
  obtain ⟨p, e, hp⟩ := h
  exact ⟨p, e, s _ _ hp⟩
theorem NtO.dp {K : PySem.W.Frag} {H : Hp} {v : V} {t : Tr} (h : NtO H v t) : Dp K H v (ntD (nt t)) := by
  obtain ⟨p, rfl, hp⟩ := h
  exact dp_nt hp
/-- the dict at g holds sizes and terms of the trees of L -/
def DT (ks : List (List Nat)) (H : Hp) (g : Addr) (L : LM) : Prop := ∃ kvs : List (Key × V), H g = some (.dK kvs) ∧ kvs.length ≤ 1 + nK L ks ∧ ∀ w, match L w with
  | some t => ∃ v, valV kvs (.inr (mk w)) = some v ∧ NtO H v t
  | none => valV kvs (.inr (mk w)) = none
theorem DT.same {ks : List (List Nat)} {H H' : Hp} {g : Addr} {L : LM} (h : DT ks H g L) (s : Same H H') : DT ks H' g L := by
  obtain ⟨kvs, hg, hlen, h⟩ := h
  refine ⟨kvs, s _ _ hg, hlen, fun w => ?_⟩
  have := h w
  cases e : L w with
  | none =>
    rw [e] at this
    exact this
  | some t =>
    rw [e] at this
    obtain ⟨v, hv, ht⟩ := this
    exact ⟨v, hv, ht.same s⟩
theorem NtO.kd {H : Hp} {g : Addr} {kvs : List (Key × V)} {o : HO} (e : H g = some (.dK kvs)) {v : V} {t : Tr} (h : NtO H v t) : NtO (upd H g o) v t := by
  obtain ⟨p, rfl, hp⟩ := h
  refine ⟨p, rfl, ?_⟩
  rw [upd_ne (fun z => by rw [z, e] at hp; cases hp)]
  exact hp
theorem DT.put {ks : List (List Nat)} {H : Hp} {g : Addr} {L : LM} {k : List Nat} {v : V} {t : Tr} (h : DT ks H g L) (hk : k ∈ ks) (small : ks.length ≤ 3) (ht : NtO H v t) : ∃ kvs, DPut H g (.str (mk k)) v (upd H g (.dK kvs)) ∧ DT ks (upd H g (.dK kvs)) g (up L k t) := by
  obtain ⟨kvs, hg, hlen, h⟩ := h
  have nk := nK_le L ks
  refine ⟨putK kvs (.inr (mk k)) v, DPut.k (k := .inr (mk k)) hg (Nat.lt_of_le_of_lt (show kvs.length ≤ 4 by omega) (by decide)), putK kvs (.inr (mk k)) v, upd_same, ?_, fun w => ?_⟩
  · have hkk := h k
    cases e : L k with
    | none =>
      rw [e] at hkk
      rw [putK_new v hkk, List.length_append]
      have := nK_new (t := t) (show (L k).isSome = false by rw [e]; rfl) ks hk
      show kvs.length + 1 ≤ _
      omega
    | some u =>
      rw [e] at hkk
      obtain ⟨v', hv', _⟩ := hkk
      rw [nK_old (show (L k).isSome = true by rw [e]; rfl) ks]
      unfold putK
      rw [valV_any, hv', if_pos (show (some v').isSome = true from rfl), List.length_map]
      exact hlen
  · unfold up
    rw [valV_put]
    by_cases e : w = k
    · subst e
      rw [if_pos rfl, if_pos rfl]
      exact ⟨v, rfl, ht.kd hg⟩
    · rw [if_neg e, if_neg (fun z => e (mk_inj (Sum.inr.inj z)))]
      have := h w
      cases e' : L w with
      | none =>
        rw [e'] at this
        exact this
      | some u =>
        rw [e'] at this
        obtain ⟨v', h1, h2⟩ := this
        exact ⟨v', h1, h2.kd hg⟩
theorem layNt : ∀ ts : List Tr, (∀ t ∈ ts, wf t = true) → PyData.canLayAll0 (ts.map fun t => ntD (nt t)) = true
  | [], _ => rfl
  | t :: r, h => by
    have e : PyData.strOk (mk (tm t)) = true := strOk_of (tm_ascii t (h t List.mem_cons_self))
    show ((PyData.strOk (mk (tm t)) && true) && PyData.canLayAll0 (r.map fun t => ntD (nt t))) = true
    rw [e, layNt r fun x hx => h x (List.mem_cons_of_mem _ hx)]
    rfl
theorem depthNt : ∀ ts : List Tr, PyData.depthAll (ts.map fun t => ntD (nt t)) ≤ 1
  | [] => Nat.zero_le _
  | t :: r => by
    show max (max 0 (max 0 0) + 1) (PyData.depthAll (r.map fun t => ntD (nt t))) ≤ 1
    have := depthNt r
    omega
theorem shapedNt {ts : List Tr} (h : ∀ t ∈ ts, wf t = true) : SeqAt.shaped (.list (ts.map fun t => ntD (nt t))) = true := by
  show (PyData.canLayAll0 (ts.map fun t => ntD (nt t)) && decide (PyData.depthAll (ts.map fun t => ntD (nt t)) + 1 ≤ 64)) = true
  rw [layNt ts h]
  have := depthNt ts
  exact decide_eq_true (by omega)
theorem sum_sz : ∀ ts : List Tr, (ts.map fun t => (sz t : Int)).sum = (szs ts : Nat)
  | [] => rfl
  | t :: r => by
    rw [List.map_cons, List.sum_cons, sum_sz r, szs]
    omega
theorem dpNts {K : PySem.W.Frag} {H : Hp} : ∀ {vs : List V} {ts : List Tr}, All2 (NtO H) vs ts → DpAll K H vs (ts.map fun t => ntD (nt t))
  | _, _, .nil => .nil
  | _, _, .cons h t => .cons h.dp (dpNts t)
/-- an assignment under a test: both ways lead to one state -/
theorem ite_join {b : Bool} {te : TE} {g : TG} {D : Ends} {σ : L2.St} {H : Hp} (σ' : L2.St) (rest : ∀ H', Same H H' → D.nx σ' H') (h1 : b = true → (∀ H', Same H H' → D.nx σ' H') → tAsg te g D σ H) (h2 : b = false → (∀ H', Same H H' → D.nx σ' H') → D.nx σ H) :
    (if b = true then tAsg te g D σ H else tNext D σ H) := by
  cases b with
  | true => exact h1 rfl rest
  | false => exact h2 rfl rest
def sp_lleast : Sp := fun vs H Q _ => ∃ (a : Addr) (us : List V) (rs : List Rw), vs = [.ref a] ∧ H a = some (.lst us) ∧ All2 (RO H) us rs ∧ RwG rs ∧ rs.length ≤ 100 ∧ (kds rs).length ≤ 3 ∧ ∀ H' g, Same H H' → DT (kds rs) H' g (lrnds rs L0 4) → Q (.ref g) H'
theorem take_fold {rs : List Rw} {L : LM} {j : Nat} {r : Rw} (er : rs[j]? = some r) : (rs.take (j + 1)).foldl lstp L = lstp ((rs.take j).foldl lstp L) r := by
  rw [take_get er, List.foldl_append]
  rfl
section
variable {P : Program} {w : World} {K : PySem.W.Frag} {mg : Str → Option Value} {base : Heap}
theorem ok_lleast (T : Tx K mg) : FnR P w K mg base CX0 1 (He.ga K "_law_least") sp_lleast := by
  refine fnR0 T.d_law_least sc_law_least (fun _ _ _ _ _ _ us hl => match us, hl with | [_], _ => rfl) (fun vs H Q E h => ?_) (fun cdv A outer s H vs Q E hr h => ?_)
  · obtain ⟨a, us, rs, rfl, _⟩ := h
    rfl
  · obtain ⟨a, us, rs, rfl, ha, hm, rg, hi, k3, q⟩ := h
    refine ⟨_, (pss_cons (ps_set (i := 1) sc_law_least.nd rfl (.inr rfl) (pe_disp (pps_cons pe_str (pe_tup (pa_cons pe_int (pa_cons pe_str pa_nil))) pps_nil) (by rfl) (by rfl) (by simp) (by decide)))
(pss_cons (ps_for PassesOwn.never rfl (pi_range1 (by rfl) T.z_range (pa_cons pe_int pa_nil)) (pg_name (i := 2) sc_law_least.nd rfl (.inl rfl))
(pss_one (ps_for PassesOwn.never rfl (pi_list (pv 0)) (pg_name (i := 3) sc_law_least.nd rfl (.inl rfl))
(pss_cons (ps_setLc (i := 4) (own := [("_law_want", 7)]) (g := gName 7) rfl sc_law_least.nd rfl rfl (sw_true rfl rfl rfl (by decide +kernel)) (pi_tup (pe_ix (r := rIxT K) ix_tup (pv 3) pe_int (fun _ _ => rfl))) (blkOk_by (own := [("_law_want", 7)]) (N := N_law_least) (sc := defScope s_law_least) (by decide +kernel)) (fun _ _ _ _ _ => pg_name (i := 7) sc_law_least.nd rfl (.inl rfl)) (fun _ _ _ _ _ => (pts_one (pt_cmp (pc_din (u1 hr) (pv 7) (pv 1))))) (fun _ _ _ _ _ => (pe_dget (u1 hr) (pv 1) (pv 7) (fun _ _ => rfl))))
(pss_one (ps_if (pt_cmpR op_eq (pe_callB call_len (by rfl) T.z_len (by decide +kernel) (pa_cons (pv 4) pa_nil)) (pe_callB call_len (by rfl) T.z_len (by decide +kernel) (pa_cons (pe_ix (r := rIxT K) ix_tup (pv 3) pe_int (fun _ _ => rfl)) pa_nil)) (nomark _))
(pss_cons (ps_set (i := 5) sc_law_least.nd rfl (.inl rfl) (pe_ix (r := rIxT K) ix_tup (pv 3) pe_int (fun _ _ => rfl)))
(pss_cons (ps_if (pt_cmpR (op_neD hr.units) (pv 4) (pe_lst pa_nil) (nomark _))
(pss_one (ps_set (i := 5) sc_law_least.nd rfl (.inl rfl) (pe_op op_add_str (pe_op op_add_str (pe_op op_add_str (pv 5) pe_str) (pe_join pe_str (pe_lc (own := [("_law_part", 8)]) (g := gName 8) rfl sc_law_least.nd (pi_list (pv 4)) (blkOk_by (own := [("_law_part", 8)]) (N := N_law_least) (sc := defScope s_law_least) (by decide +kernel)) (fun _ _ _ _ _ => pg_name (i := 8) sc_law_least.nd rfl (.inl rfl)) (fun _ _ _ _ _ => pts_nil) (fun _ _ _ _ _ => (pe_ix (r := rIxT K) ix_tup (pv 8) pe_int (fun _ _ => rfl)))))) pe_str)))
pss_nil)
(pss_cons (ps_set (i := 6) sc_law_least.nd rfl (.inl rfl) (pe_op op_add pe_int (pe_callB (cr_sum rfl) (by rfl) T.z_sum (by decide +kernel) (pa_cons (pe_lc (own := [("_law_part", 8)]) (g := gName 8) rfl sc_law_least.nd (pi_list (pv 4)) (blkOk_by (own := [("_law_part", 8)]) (N := N_law_least) (sc := defScope s_law_least) (by decide +kernel)) (fun _ _ _ _ _ => pg_name (i := 8) sc_law_least.nd rfl (.inl rfl)) (fun _ _ _ _ _ => pts_nil) (fun _ _ _ _ _ => (pe_ix (r := rIxT K) ix_tup (pv 8) pe_int (fun _ _ => rfl)))) pa_nil))))
(pss_one (ps_if (PW.pt (pw_or (pt_cmp (pc_dnotin (u1 hr) (pe_ix (r := rIxT K) ix_tup (pv 3) pe_int (fun _ _ => rfl)) (pv 1))) (pw_or1 (pt_cmpR (op_ltN hr.units) (pe_tup (pa_cons (pv 6) (pa_cons (pv 5) pa_nil))) (pe_dget (u1 hr) (pv 1) (pe_ix (r := rIxT K) ix_tup (pv 3) pe_int (fun _ _ => rfl)) (fun _ _ => rfl)) (nomark _)))))
(pss_one (ps_asg (pe_tup (pa_cons (pv 6) (pa_cons (pv 5) pa_nil))) (pg_sub (pv 1) (pe_ix (r := rIxT K) ix_tup (pv 3) pe_int (fun _ _ => rfl)) (set_dict (u1 hr)))))
pss_nil)))))
pss_nil))))))
(pss_one (ps_ret (pv 1))))), ?_⟩
    intro g ng
    refine ⟨szle, fun p0 np0 => ⟨Same.new np0 _ _ upd_same, [(.inr (mk digW), .ref p0)], rfl, (show 1 ≤ 15 by decide), ?_⟩⟩
    have s01 : Same H (upd (upd (upd H g (.dK [])) p0 (.tup [.int 1, .str (Str.ofString "0")])) g (.dK (mergeK [] [(.inr (mk digW), .ref p0)]))) := fun b o e => by
      rw [upd_ne (ne_of_none e ng)]
      exact Same.new np0 _ _ (Same.new ng _ _ e)
    have gp : p0 ≠ g := fun z => by rw [z, upd_same] at np0; cases np0
    have e01 : upd (upd (upd H g (.dK [])) p0 (.tup [.int 1, .str (Str.ofString "0")])) g (.dK (mergeK [] [(.inr (mk digW), .ref p0)])) p0 = some (.tup [.int 1, .str (Str.ofString "0")]) := by
      rw [upd_ne gp, upd_same]
    have dt0 : DT (kds rs) (upd (upd (upd H g (.dK [])) p0 (.tup [.int 1, .str (Str.ofString "0")])) g (.dK (mergeK [] [(.inr (mk digW), .ref p0)]))) g L0 := by
      refine ⟨_, upd_same, Nat.le_add_right 1 _, fun w => ?_⟩
      show match L0 w with
        | some t => ∃ v, valV (putK [] (Sum.inr (mk digW) : Key) (V.ref p0)) (Sum.inr (mk w) : Key) = some v ∧ NtO _ v t
        | none => valV (putK [] (Sum.inr (mk digW) : Key) (V.ref p0)) (Sum.inr (mk w) : Key) = none
      rw [valV_put]
      unfold L0
      by_cases e : w = digW
      · rw [if_pos e, e, if_pos rfl]
        exact ⟨_, rfl, p0, rfl, e01⟩
      · rw [if_neg e, if_neg (fun z => e (mk_inj (Sum.inr.inj z)))]
        rfl
    generalize upd (upd (upd H g (.dK [])) p0 (.tup [.int 1, .str (Str.ofString "0")])) g (.dK (mergeK [] [(.inr (mk digW), .ref p0)])) = H2 at s01 dt0
    clear e01 gp np0
    have ul : us.length = rs.length := hm.len
    have lokn : ∀ n, LOkS rs (lrnds rs L0 n) := fun n => by
      induction n with
      | zero => exact lok0 rs
      | succ n ih => exact lrnd_ok rg (fun _ h => h) ih
    refine ⟨4, rfl, by decide, by decide, for_range (lo := 0) (n := 4) (fun i σ H1 => ∃ y2 y3 y4 y5 y6, σ = [some (.ref a), some (.ref g), y2, y3, y4, y5, y6, none, none] ∧ Same H H1 ∧ DT (kds rs) H1 g (lrnds rs L0 i)) ⟨_, _, _, _, _, rfl, s01, dt0⟩ ?_ ?_⟩
    · rintro i σ H1 hi4 ⟨y2, y3, y4, y5, y6, rfl, s1, dt1⟩
      refine ⟨.ref a, rfl, a, rfl, ⟨_, SqL.of (s1 _ _ ha)⟩, for_list (xs := us) (fun j σ H2 => ∃ y2 y3 y4 y5 y6, σ = [some (.ref a), some (.ref g), y2, y3, y4, y5, y6, none, none] ∧ Same H H2 ∧ DT (kds rs) H2 g ((rs.take j).foldl lstp (lrnds rs L0 i))) ⟨_, _, _, _, _, rfl, s1, by rw [List.take_zero]; exact dt1⟩ ?_ ?_ ?_⟩
      · rintro j σ H2 _ ⟨y2, y3, y4, y5, y6, rfl, s2, _⟩
        exact SqL.of (s2 _ _ ha)
      · rintro j x σ H2 hx ⟨y2, y3, y4, y5, y6, rfl, s2, dt2⟩
        obtain ⟨r, er, hr1⟩ := hm.get hx
        obtain ⟨b, pw, rfl, hb, hpw⟩ := hr1.same s2
        have rm := List.mem_of_getElem? er
        have lok : LOkS rs ((rs.take j).foldl lstp (lrnds rs L0 i)) := lrnd_ok rg (fun r hr => List.mem_of_mem_take hr) (lokn i)
        rw [take_fold er]
        generalize (rs.take j).foldl lstp (lrnds rs L0 i) = L at dt2 lok
        have w3 := rg.w3 r rm
        have dg : ∀ (H' : Hp) (w : List Nat), Same H2 H' → ∃ o, DGet H' g (.str (mk w)) o ∧ o.isSome = (L w).isSome := fun H' w s' => by
          obtain ⟨kvs, hg, _, hv⟩ := dt2.same s'
          refine ⟨valV kvs (.inr (mk w)), DGet.k (k := .inr (mk w)) hg, ?_⟩
          have := hv w
          cases e : L w with
          | none =>
            rw [e] at this
            rw [this]
            rfl
          | some t =>
            rw [e] at this
            obtain ⟨v, hv, _⟩ := this
            rw [hv]
            rfl
        obtain ⟨kvs, hg2, kl2, hv2⟩ := id dt2
        obtain ⟨vf, evf⟩ : ∃ vf : List Nat → V, vf = fun w => (valV kvs (.inr (mk w))).getD .non := ⟨_, rfl⟩
        have hit : ∀ w t, L w = some t → valV kvs (.inr (mk w)) = some (vf w) ∧ NtO H2 (vf w) t := fun w t e => by
          have := hv2 w
          rw [e] at this
          obtain ⟨v, h1, h2⟩ := this
          rw [evf]
          dsimp only
          rw [h1]
          exact ⟨rfl, h2⟩
        refine ⟨.ref b, rfl, b, _, 2, _, rfl, rfl, SqT.of hb, rfl, pw, rfl, ⟨_, SqT.of hpw⟩, fun D nD => ?_⟩
        refine lc_filtP (xs := r.ws) (h := fun w => V.str (mk w)) (fun w => (L w).isSome) vf hpw nD (by omega) (fun _ => rfl) (fun w0 H' Q' hw s' q' => ?_) (fun w0 H' Q' hw hp s' q' => ?_) ?_
        · obtain ⟨o, d1, d2⟩ := dg H' w0 s'
          refine ⟨_, rfl, .ref g, rfl, g, o, rfl, d1, _, rfl, ?_⟩
          rw [d2]
          exact q'
        · obtain ⟨t, et⟩ := Option.isSome_iff_exists.mp hp
          obtain ⟨h1, h2⟩ := hit w0 t et
          exact ⟨.ref g, rfl, _, rfl, g, vf w0, rfl, by rw [← h1]; exact DGet.k (k := .inr (mk w0)) (s' _ _ hg2), q'⟩
        have s3 := Same.new (o := .lst ((r.ws.filter fun w => (L w).isSome).map vf)) nD
        have e3 : upd H2 D (.lst ((r.ws.filter fun w => (L w).isSome).map vf)) D = some (.lst ((r.ws.filter fun w => (L w).isSome).map vf)) := upd_same
        generalize upd H2 D (.lst ((r.ws.filter fun w => (L w).isSome).map vf)) = H3 at s3 e3
        have hb3 := s3 _ _ hb
        have hpw3 := s3 _ _ hpw
        refine ⟨.ref D, rfl, .ref D, _, rfl, .inl ⟨_, SqL.of e3, rfl⟩, .ref b, rfl, b, _, 2, _, rfl, rfl, SqT.of hb3, rfl, .ref pw, _, rfl, .inr ⟨_, SqT.of hpw3, rfl⟩, rfl, _, rfl, ?_⟩
        have s23 := s2.trans s3
        by_cases hall : ∀ w ∈ r.ws, (L w).isSome = true
        case neg =>
          have ne : (r.ws.filter fun w => (L w).isSome).length ≠ r.ws.length := fun z => hall (List.length_filter_eq_length_iff.mp z)
          rw [decide_eq_false (fun z => ne (by have := V.int.inj z; rw [List.length_map, List.length_map] at this; omega))]
          refine iteF ⟨_, _, _, _, _, rfl, s23, ?_⟩
          unfold lstp
          rw [if_neg fun z => hall z.1]
          exact dt2.same s3
        have ef : (r.ws.filter fun w => (L w).isSome) = r.ws := List.filter_eq_self.mpr hall
        rw [ef] at e3 ⊢
        rw [decide_eq_true (by rw [List.length_map, List.length_map])]
        refine iteT ?_
        obtain ⟨ts, ets⟩ : ∃ ts, ts = r.ws.filterMap L := ⟨_, rfl⟩
        have tl : ts.length = r.ws.length := by rw [ets]; exact fm_len hall
        have pt : All2 (NtO H3) (r.ws.map vf) ts := by
          rw [ets]
          have : ∀ ws : List (List Nat), (∀ w ∈ ws, (L w).isSome = true) → All2 (NtO H3) (ws.map vf) (ws.filterMap L) := by
            intro ws
            induction ws with
            | nil => exact fun _ => .nil
            | cons w ws ih =>
              intro h
              obtain ⟨t, et⟩ := Option.isSome_iff_exists.mp (h w List.mem_cons_self)
              rw [List.map_cons, List.filterMap_cons, et]
              exact .cons ((hit w t et).2.same s3) (ih fun x hx => h x (List.mem_cons_of_mem _ hx))
          exact this r.ws hall
        have wts : wfs ts = true := by rw [ets]; exact fm_wf lok.wf
        have wtm : ∀ t ∈ ts, wf t = true := fun t ht => wfs_mem wts ht
        have pl : (r.ws.map vf).length = ts.length := by rw [tl, List.length_map]
        generalize r.ws.map vf = ps at e3 pt pl
        refine ⟨.ref b, rfl, b, _, 1, _, rfl, rfl, SqT.of hb3, rfl, ?_⟩
        refine ⟨.ref D, rfl, Nat.zero_le _, fun z nz => ?_⟩
        have s4 := Same.new (o := .lst []) nz
        refine ⟨.list (ts.map fun t => ntD (nt t)), .list [], .lst (SqL.of (s4 _ _ e3)) (dpNts (pt.imp fun _ _ h => h.same s4)), .lst (SqL.of upd_same) .nil, shapedNt wtm, rfl, _, rfl, ?_⟩
        have e4 := s4 _ _ e3
        have pt4 : All2 (NtO (upd H3 z (.lst []))) ps ts := pt.imp fun _ _ h => h.same s4
        have s24 := s23.trans s4
        have hb4 := s4 _ _ hb3
        have s14 := s3.trans s4
        have dt4 := dt2.same s14
        generalize upd H3 z (.lst []) = H4 at e4 pt4 s24 hb4 dt4 s14
        have kz := nK_le L (kds rs)
        have zs := fm_sz (ws := r.ws) lok.sz
        rw [← ets] at zs
        have zb := Sb_le (Nat.le_trans kz k3)
        have zs3 : szs ts ≤ 120 := by
          have : r.ws.length * Sb (nK L (kds rs)) ≤ 3 * 40 := Nat.mul_le_mul w3 zb
          omega
        have bn := rg.nm r rm
        have nml := bigN_len bn
        have wcd : wf (.nd r.nm ts) = true := bigN_wf bn (by omega) wts
        have jl : (jn (tms ts)).length ≤ 1440 := by
          have := tms_len ts wts
          omega
        obtain ⟨cd, ecd⟩ : ∃ cd, cd = Tr.nd r.nm ts := ⟨_, rfl⟩
        have szc : sz cd = 1 + szs ts := by rw [ecd, sz]
        rw [← ecd] at wcd
        have kd : r.kd ≠ digW := fun z => by
          have := rg.kd r rm
          rw [z] at this
          cases this
        refine ite_join [some (.ref a), some (.ref g), y2, some (.ref b), some (.ref D), some (.str (mk (tm cd))), y6, none, none] (fun H5 s45 => ?_) (fun eb rest => ?_) (fun eb rest => ?_)
        case refine_2 =>
          have hn : ts ≠ [] := fun z => by
            rw [z] at eb
            cases eb
          refine ⟨_, rfl, mk r.nm, mk [40], rfl, rfl, ?_, ?_⟩
          · rw [mk_len, mk_len]
            exact Nat.le_trans (show r.nm.length + 1 ≤ 13000 by omega) (by decide)
          refine ⟨⟨_, rfl⟩, .ref D, rfl, D, rfl, ⟨_, SqL.of e4⟩, fun F nF => ?_⟩
          refine lc_pureL (xs := ps) (fs := ((tms ts).map mk).map V.str) (SqL.of e4) nF (by rw [List.length_map, List.length_map, tms_map, List.length_map, pl]) (by omega) (fun _ => rfl) ?_ ?_
          · intro k v y H' Q' hv hy s' hq
            obtain ⟨t, et, p, rfl, hp⟩ := pt4.get hv
            rw [tms_map, List.getElem?_map, List.getElem?_map, List.getElem?_map, et] at hy
            have := Option.some.inj hy
            subst this
            exact ⟨.ref p, rfl, p, _, 1, _, rfl, rfl, SqT.of (s' _ _ hp), rfl, hq⟩
          refine ⟨mk [44, 32], F, (tms ts).map mk, rfl, rfl, .inl (SqL.of upd_same), ?_, ?_⟩
          · have := jn_sum (tms ts)
            rw [mk_len]
            show _ + _ * 2 ≤ _
            omega
          rw [show Txt.join (mk [44, 32]) ((tms ts).map mk) = mk (jn (tms ts)) from (TL.join_eq _ _).trans (join_mk _)]
          refine ⟨mk (r.nm ++ [40]), mk (jn (tms ts)), by rw [mk_app], rfl, ?_, ?_⟩
          · rw [mk_len, mk_len, List.length_append]
            exact Nat.le_trans (show r.nm.length + 1 + (jn (tms ts)).length ≤ 100000 by omega) (by decide)
          refine ⟨mk (r.nm ++ [40] ++ jn (tms ts)), mk [41], by rw [mk_app], rfl, ?_, ?_⟩
          · rw [mk_len, mk_len, List.length_append, List.length_append]
            exact Nat.le_trans (show r.nm.length + 1 + (jn (tms ts)).length + 1 ≤ 100000 by omega) (by decide)
          have et : r.nm ++ [40] ++ jn (tms ts) ++ [41] = tm cd := by
            rw [ecd]
            cases ts with
            | nil => exact absurd rfl hn
            | cons k r =>
              rw [tm_node, List.append_assoc, List.append_assoc]
              rfl
          rw [mk_app, et]
          exact rest _ (Same.new nF)
        case refine_3 =>
          have hn : ts = [] := by
            cases ts with
            | nil => rfl
            | cons t tr => cases eb
          have := rest H4 (Same.refl _)
          rw [ecd, hn, tm_leaf] at this
          exact this
        have e5 := s45 _ _ e4
        have pt5 : All2 (NtO H5) ps ts := pt4.imp fun _ _ h => h.same s45
        refine ⟨.ref D, rfl, D, rfl, ⟨_, SqL.of e5⟩, fun F nF => ?_⟩
        refine lc_pureL (xs := ps) (fs := (ts.map fun t => (sz t : Int)).map V.int) (SqL.of e5) nF (by rw [List.length_map, List.length_map, pl]) (by omega) (fun _ => rfl) ?_ ?_
        · intro k v y H' Q' hv hy s' hq
          obtain ⟨t, et, p, rfl, hp⟩ := pt5.get hv
          rw [List.getElem?_map, List.getElem?_map, et] at hy
          have := Option.some.inj hy
          subst this
          exact ⟨.ref p, rfl, p, _, 0, _, rfl, rfl, SqT.of (s' _ _ hp), rfl, hq⟩
        refine ⟨F, _, rfl, SqL.of upd_same, _, _, rfl, rfl, ?_⟩
        rw [sum_sz]
        have s56 := Same.new (o := .lst ((ts.map fun t => (sz t : Int)).map V.int)) nF
        generalize upd H5 F (.lst ((ts.map fun t => (sz t : Int)).map V.int)) = H6 at s56
        have s46 := s45.trans s56
        have hb6 := s46 _ _ hb4
        have dt6 := dt4.same s46
        have s26 := s24.trans s46
        have esz : (1 : Int) + (szs ts : Nat) = (sz cd : Int) := by rw [szc]; omega
        show gName 6 (V.int (1 + ((szs ts : Nat) : Int))) _ H6 _
        rw [esz]
        -- the new tree is put
        have put : ∀ H7, Same H6 H7 → (∀ u, L r.kd = some u → ltT cd u) → ∃ HB : Addr → Hp, ∀ p2, H7 p2 = none → DPut (upd H7 p2 (.tup [.int (sz cd : Int), .str (mk (tm cd))])) g (.str (mk r.kd)) (.ref p2) (HB p2) ∧ Same H (HB p2) ∧ DT (kds rs) (HB p2) g (lstp L r) := fun H7 s67 hlt => by
          have key : ∀ p2, H7 p2 = none → ∃ HB, DPut (upd H7 p2 (.tup [.int (sz cd : Int), .str (mk (tm cd))])) g (.str (mk r.kd)) (.ref p2) HB ∧ Same H HB ∧ DT (kds rs) HB g (lstp L r) := fun p2 np2 => by
            have s8 := s67.trans (Same.new (o := .tup [.int (sz cd : Int), .str (mk (tm cd))]) np2)
            obtain ⟨kv, dp, dl⟩ := (dt6.same s8).put (k := r.kd) (v := .ref p2) (t := cd) (kds_mem rm) k3 ⟨p2, rfl, upd_same⟩
            refine ⟨_, dp, fun b' o e => ?_, ?_⟩
            · rw [upd_ne (ne_of_none e ng)]
              exact s8 _ _ (s26 _ _ e)
            · unfold lstp
              rw [← ets, ← ecd, if_pos ⟨hall, hlt⟩]
              exact dl
          refine ⟨fun p2 => if h : H7 p2 = none then (key p2 h).choose else H, fun p2 np2 => ?_⟩
          dsimp only
          rw [dif_pos np2]
          exact (key p2 np2).choose_spec
        obtain ⟨o, dgo, eo⟩ : ∃ o, DGet H6 g (.str (mk r.kd)) o ∧ o.isSome = (L r.kd).isSome := dg H6 r.kd (s14.trans s46)
        refine ⟨.ref b, rfl, b, _, 0, _, rfl, rfl, SqT.of hb6, rfl, .ref g, rfl, g, o, rfl, dgo, _, rfl, ?_⟩
        rw [eo]
        cases ek : L r.kd with
        | none =>
          obtain ⟨HB, hB⟩ := put H6 (Same.refl _) (fun u hu => by rw [ek] at hu; cases hu)
          refine iteT (iteT ⟨_, rfl, _, rfl, szle, fun p2 np2 => ?_⟩)
          obtain ⟨h1, h2, h3⟩ := hB p2 np2
          exact ⟨.ref g, rfl, .ref b, rfl, b, _, 0, _, rfl, rfl, SqT.of (Same.new np2 _ _ hb6), rfl, g, _, rfl, h1, _, _, _, _, _, rfl, h2, h3⟩
        | some u =>
          obtain ⟨v, dgv, hv⟩ : ∃ v, (∀ H7, Same H6 H7 → DGet H7 g (.str (mk r.kd)) (some v)) ∧ NtO H6 v u := by
            obtain ⟨kvs', hg', _, hv'⟩ := id dt6
            have := hv' r.kd
            rw [ek] at this
            obtain ⟨v, h1, h2⟩ := this
            exact ⟨v, fun H7 s7 => by rw [← h1]; exact DGet.k (k := .inr (mk r.kd)) (s7 _ _ hg'), h2⟩
          refine iteF ⟨_, rfl, _, rfl, szle, fun p1 np1 => ?_⟩
          have t1 : Same H6 (upd H6 p1 (.tup [.int (sz cd : Int), .str (mk (tm cd))])) := Same.new np1
          have f1 : upd H6 p1 (.tup [.int (sz cd : Int), .str (mk (tm cd))]) p1 = some (.tup [.int (sz cd : Int), .str (mk (tm cd))]) := upd_same
          generalize upd H6 p1 (.tup [.int (sz cd : Int), .str (mk (tm cd))]) = H7 at t1 f1
          refine ⟨.ref g, rfl, .ref b, rfl, b, _, 0, _, rfl, rfl, SqT.of (t1 _ _ hb6), rfl, g, v, rfl, dgv _ t1, nt cd, nt u, dp_nt f1, (hv.same t1).dp, _, rfl, ite2 (fun e => ?_) (fun e => ?_)⟩
          · have lt := (lt_iff cd u).mp e
            obtain ⟨HB, hB⟩ := put H7 t1 (fun u' hu => by rw [ek] at hu; rw [← Option.some.inj hu]; exact lt)
            refine ⟨_, rfl, _, rfl, szle, fun p2 np2 => ?_⟩
            obtain ⟨h1, h2, h3⟩ := hB p2 np2
            exact ⟨.ref g, rfl, .ref b, rfl, b, _, 0, _, rfl, rfl, SqT.of (Same.new np2 _ _ (t1 _ _ hb6)), rfl, g, _, rfl, h1, _, _, _, _, _, rfl, h2, h3⟩
          · have nlt : ¬ ltT cd u := fun h => e ((lt_iff cd u).mpr h)
            refine ⟨_, _, _, _, _, rfl, s26.trans t1, ?_⟩
            unfold lstp
            rw [← ets, ← ecd, if_neg fun z => nlt (z.2 u ek)]
            exact dt6.same t1
      · rintro σ H2 ⟨y2, y3, y4, y5, y6, rfl, s2, dt2⟩
        rw [ul, List.take_length] at dt2
        exact ⟨_, _, _, _, _, rfl, s2, dt2⟩
    · rintro σ H1 ⟨y2, y3, y4, y5, y6, rfl, s1, dt1⟩
      exact ⟨.ref g, rfl, q H1 g s1 dt1⟩
end
end TW

namespace TW
open PySem PySem.Spec PyProof.Rows L2
/-! ### _law_lines -/
def LinQ (H : Hp) (Q : VK) : Sum Nat (List Nat × List Rw) → Prop
  | .inl k => ∀ H' a x l, Same H H' → H' a = some (.tup [.int (k : Nat), .str (mk x), .ref l]) → H' l = some (.lst []) → Q (.ref a) H'
  | .inr (n, rs) => ∀ H' a l us, Same H H' → H' a = some (.tup [.int 0, .str (mk n), .ref l]) → H' l = some (.lst us) → All2 (RO H') us rs → Q (.ref a) H'
def sp_lines : Sp := fun vs H Q _ => ∃ d, vs = [.str (mk d)] ∧ d.length ≤ 1380 ∧ LinQ H Q (rdT d)
theorem rdT_sane {d n : List Nat} {rs : List Rw} (h : rdT d = .inr (n, rs)) (d7 : ∀ c ∈ d, c < 128) (dl : d.length ≤ 1380) : (∀ c ∈ n, c < 128) ∧ n.length ≤ 1380 ∧ rs.length ≤ 1400 ∧ ∀ r ∈ rs, RwS r := by
  have cnt := spl_cnt 10 d
  unfold rdT at h
  dsimp only at h
  split at h
  · rename_i ho
    split at h
    · cases h
    · rename_i rs' e
      injection h with h
      injection h with h1 h2
      subst h1 h2
      have hl := rdL_len e
      rw [List.length_drop] at hl
      refine ⟨?_, ?_, by omega, fun r hr => ?_⟩
      · cases esp : spl 10 d with
        | nil => exact absurd esp (spl_nn 10 d)
        | cons l0 lr =>
          show ∀ c ∈ (spl 32 l0).getD 1 [], c < 128
          intro c hc
          rw [List.getD_eq_getElem?_getD] at hc
          cases e1 : (spl 32 l0)[1]? with
          | none => rw [e1] at hc; cases hc
          | some p =>
            rw [e1] at hc
            exact d7 c (spl_mem (p := l0) (c := 10) (by rw [esp]; exact List.mem_cons_self) (spl_mem (List.mem_of_getElem? e1) hc))
      · cases esp : spl 10 d with
        | nil => exact absurd esp (spl_nn 10 d)
        | cons l0 lr =>
          show ((spl 32 l0).getD 1 []).length ≤ 1380
          rw [List.getD_eq_getElem?_getD]
          cases e1 : (spl 32 l0)[1]? with
          | none => exact Nat.zero_le _
          | some p =>
            have h1 := spl_len (List.mem_of_getElem? e1)
            have h2 := spl_len (c := 10) (l := d) (p := l0) (by rw [esp]; exact List.mem_cons_self)
            show p.length ≤ 1380
            omega
      · obtain ⟨l', hl, e'⟩ := rdL_mem e r hr
        exact row_sane (List.mem_of_mem_drop hl) e' d7 dl
  · cases h
section
variable {P : Program} {w : World} {K : PySem.W.Frag} {mg : Str → Option Value} {base : Heap}
theorem ok_lines (T : Tx K mg) : FnR P w K mg base CX0 1 (He.ga K "_law_lines") sp_lines := by
  refine fnR0 T.d_law_lines sc_law_lines (fun _ _ _ _ _ _ us hl => match us, hl with | [_], _ => rfl) (fun vs H Q E h => ?_) (fun cdv A outer s H vs Q E hr h => ?_)
  · obtain ⟨d, rfl, _⟩ := h
    rfl
  · obtain ⟨d, rfl, dl, q⟩ := h
    refine ⟨_, (pss_cons (ps_set (i := 1) sc_law_lines.nd rfl (.inl rfl) (pe_split (pv 0) pe_str))
(pss_cons (ps_set (i := 2) sc_law_lines.nd rfl (.inl rfl) (pe_split (pe_ix (r := rIxL K) ix_list (pv 1) pe_int (fun _ _ => rfl)) pe_str))
(pss_cons (ps_if (PW.pt (pw_or (pt_cmpR op_ne (pe_callB call_len (by rfl) T.z_len (by decide +kernel) (pa_cons (pv 2) pa_nil)) pe_int (nomark _)) (pw_or (pt_cmpR op_ne (pe_ix (r := rIxL K) ix_list (pv 2) pe_int (fun _ _ => rfl)) pe_str (nomark _)) (pw_or1 (pt_cmpR op_eq (pe_ix (r := rIxL K) ix_list (pv 2) pe_int (fun _ _ => rfl)) pe_str (nomark _))))))
(pss_one (ps_ret (pe_tup (pa_cons pe_int (pa_cons pe_str (pa_cons (pe_lst pa_nil) pa_nil))))))
pss_nil)
(pss_cons (ps_set (i := 3) sc_law_lines.nd rfl (.inl rfl) (pe_ix (r := rIxL K) ix_list (pv 2) pe_int (fun _ _ => rfl)))
(pss_cons (ps_set (i := 4) sc_law_lines.nd rfl (.inl rfl) (pe_lst pa_nil))
(pss_cons (ps_for PassesOwn.never rfl (pi_range2 (by rfl) T.z_range (pa_cons pe_int (pa_cons (pe_callB call_len (by rfl) T.z_len (by decide +kernel) (pa_cons (pv 1) pa_nil)) pa_nil))) (pg_name (i := 5) sc_law_lines.nd rfl (.inl rfl))
(pss_cons (ps_set (i := 2) sc_law_lines.nd rfl (.inl rfl) (pe_split (pe_ix (r := rIxL K) ix_list (pv 1) (pv 5) (fun _ _ => rfl)) pe_str))
(pss_cons (ps_if (PW.pt (pw_or (pt_cmpR op_lt (pe_callB call_len (by rfl) T.z_len (by decide +kernel) (pa_cons (pv 2) pa_nil)) pe_int (nomark _)) (pw_or1 (pt_cmpR op_in_seq pe_str (pv 2) (by rfl)))))
(pss_one (ps_ret (pe_tup (pa_cons (pe_op op_add (pv 5) pe_int) (pa_cons (pv 3) (pa_cons (pe_lst pa_nil) pa_nil))))))
pss_nil)
(pss_cons (ps_if (PW.pt (pw_or (pt_cmpR op_ne (pe_ix ix_str (pe_ix (r := rIxL K) ix_list (pv 2) pe_int (fun _ _ => rfl)) (pe_un un_neg pe_int) (fun _ _ => rfl)) pe_str (nomark _)) (pw_or1 (pt_cmpR op_ne (pe_ix (r := rIxL K) ix_list (pv 2) (pe_un un_neg pe_int) (fun _ _ => rfl)) pe_str (nomark _)))))
(pss_one (ps_ret (pe_tup (pa_cons (pe_op op_add (pv 5) pe_int) (pa_cons (pv 3) (pa_cons (pe_lst pa_nil) pa_nil))))))
pss_nil)
(pss_cons (ps_set (i := 6) sc_law_lines.nd rfl (.inl rfl) (pe_callTy call_tuple_of (by rfl) T.z_tuple (by decide +kernel) (pa_cons (pe_slice sl_list (pv 2) (po_some pe_int) (po_some (pe_un un_neg pe_int))) pa_nil)))
(pss_one (ps_expr (pe_bm PySem.F.plainAttrs_list PySem.F.slot_list_append PySem.F.type_list_append mt_append (pv 4) (pa_cons (pe_tup (pa_cons (pe_slice sl_str (pe_ix (r := rIxL K) ix_list (pv 2) pe_int (fun _ _ => rfl)) po_none (po_some (pe_un un_neg pe_int))) (pa_cons (pe_ix (r := rIxL K) ix_list (pv 2) pe_int (fun _ _ => rfl)) (pa_cons (pv 6) (pa_cons (pe_ix (r := rIxL K) ix_list (pv 2) (pe_un un_neg pe_int) (fun _ _ => rfl)) pa_nil))))) pa_nil)))))))))
(pss_one (ps_ret (pe_tup (pa_cons pe_int (pa_cons (pv 3) (pa_cons (pv 4) pa_nil)))))))))))), ?_⟩
    refine ⟨.str (mk d), rfl, ⟨_, rfl⟩, mk d, mk [10], rfl, rfl, rfl, ?_, fun l nl => ?_⟩
    · rw [mk_len]
      exact Nat.le_trans (show d.length + 2 ≤ 3000 by omega) (by decide)
    rw [split_mk (by decide)]
    have s1 := Same.new (o := .lst (((spl 10 d).map mk).map V.str)) nl
    have el : upd H l (.lst (((spl 10 d).map mk).map V.str)) l = some (.lst (strL (spl 10 d))) := by
      rw [upd_same, List.map_map]
      rfl
    generalize upd H l (.lst (((spl 10 d).map mk).map V.str)) = H1 at s1 el
    unfold rdT at q
    dsimp only at q
    have cnt := spl_cnt 10 d
    have lll : ∀ p ∈ spl 10 d, p.length ≤ 1380 := fun p hp => Nat.le_trans (spl_len hp) dl
    cases esp : spl 10 d with
    | nil => exact absurd esp (spl_nn 10 d)
    | cons l0 lr =>
    rw [esp] at q el cnt lll
    rw [List.drop_succ_cons, List.drop_zero] at q
    have l0l := lll l0 List.mem_cons_self
    refine ⟨.ref l, rfl, l, _, 0, .str (mk l0), rfl, rfl, SqL.of el, atI_nat (j := 0) rfl, ⟨_, rfl⟩, mk l0, mk [32], rfl, rfl, rfl, ?_, fun h nh => ?_⟩
    · rw [mk_len]
      exact Nat.le_trans (show l0.length + 2 ≤ 3000 by omega) (by decide)
    rw [split_mk (by decide)]
    have s2 := s1.trans (Same.new (o := .lst (((spl 32 l0).map mk).map V.str)) nh)
    have eh : upd H1 h (.lst (((spl 32 l0).map mk).map V.str)) h = some (.lst (strL (spl 32 l0))) := by
      rw [upd_same, List.map_map]
      rfl
    have el2 := Same.new (o := .lst (((spl 32 l0).map mk).map V.str)) nh _ _ el
    generalize upd H1 h (.lst (((spl 32 l0).map mk).map V.str)) = H2 at s2 eh el2
    replace q : LinQ H Q (if headOk (spl 32 l0) = true then match rdL lr 2 with
        | .inl k => .inl k
        | .inr rs => .inr ((spl 32 l0).getD 1 [], rs)
      else Sum.inl 1 : Sum Nat (List Nat × List Rw)) := q
    have hsl : ∀ p ∈ spl 32 l0, p.length ≤ 1380 := fun p hp => Nat.le_trans (spl_len hp) l0l
    generalize spl 32 l0 = hs at q eh hsl
    have sl : (strL hs).length = hs.length := List.length_map _
    refine ⟨.ref h, rfl, .ref h, _, rfl, .inl ⟨_, SqL.of eh, rfl⟩, rfl, _, rfl, ?_⟩
    have bad : headOk hs = false → LinQ H Q (.inl 1) := fun e => by
      rw [if_neg (by rw [e]; exact Bool.false_ne_true)] at q
      exact q
    have out1 : headOk hs = false → 0 ≤ sizeLine ∧ ∀ z, H2 z = none → 3 ≤ sizeLine ∧ ∀ t, upd H2 z (.lst []) t = none → Q (.ref t) (upd (upd H2 z (.lst [])) t (.tup [.int 1, .str (Str.ofString ""), .ref z])) := fun e => by
      refine ⟨Nat.zero_le _, fun z nz => ⟨szle, fun t nt => ?_⟩⟩
      have s3 := s2.trans ((Same.new (o := .lst []) nz).trans (Same.new (o := .tup [.int 1, .str (Str.ofString ""), .ref z]) nt))
      exact bad e _ t [] z s3 upd_same (Same.new nt _ _ upd_same)
    by_cases h2 : hs.length = 2
    case neg =>
      rw [show (!decide (V.int ((strL hs).length : Nat) = V.int 2)) = true from by
        rw [decide_eq_false fun z => h2 (by have := V.int.inj z; omega)]
        rfl]
      have b : headOk hs = false := by
        unfold headOk
        rw [decide_eq_false h2]
        rfl
      exact iteT (iteT (out1 b))
    obtain ⟨t0, n, rfl⟩ : ∃ a b, hs = [a, b] := by
      match hs, h2 with
      | [a, b], _ => exact ⟨a, b, rfl⟩
    refine iteF ?_
    refine ⟨.ref h, rfl, h, _, 0, .str (mk t0), rfl, rfl, SqL.of eh, atI_nat (j := 0) rfl, rfl, _, rfl, ?_⟩
    by_cases et : t0 = tabW
    case neg =>
      rw [show decide (V.str (mk t0) = V.str (Str.ofString "table")) = false from decide_eq_false fun z => et (mk_inj (V.str.inj z))]
      have b : headOk [t0, n] = false := by
        unfold headOk
        rw [show decide (([t0, n] : List (List Nat)).getD 0 [] = tabW) = false from decide_eq_false et]
        rfl
      exact iteT (iteT (out1 b))
    subst et
    rw [show decide (V.str (mk tabW) = V.str (Str.ofString "table")) = true from by decide +kernel]
    refine iteF ⟨.ref h, rfl, h, _, 1, _, rfl, rfl, SqL.of eh, atI_nat (j := 1) rfl, rfl, _, rfl, ?_⟩
    by_cases en : n = []
    case pos =>
      subst en
      exact iteT (out1 (by decide))
    rw [show decide (V.str (mk n) = V.str (Str.ofString "")) = false from decide_eq_false fun z => en (mk_inj (V.str.inj z))]
    refine iteF ?_
    rw [if_pos (show headOk [tabW, n] = true from by
      unfold headOk
      rw [show decide (([tabW, n] : List (List Nat)).getD 1 [] ≠ []) = true from decide_eq_true en]
      rfl)] at q
    -- rows
    refine ⟨.ref h, rfl, h, _, 1, .str (mk n), rfl, rfl, SqL.of eh, atI_nat (j := 1) rfl, Nat.zero_le _, fun g ng => ?_⟩
    have s3 := s2.trans (Same.new (o := .lst []) ng)
    have el3 := Same.new (o := .lst []) ng _ _ el2
    have eg3 : upd H2 g (.lst []) g = some (.lst []) := upd_same
    have ng0 : H g = none := s2.free ng
    generalize upd H2 g (.lst []) = H3 at s3 el3 eg3
    have ll : (strL (l0 :: lr)).length = lr.length + 1 := by rw [strL, List.length_map, List.length_cons]
    rw [List.length_cons] at cnt
    have nlg : l ≠ g := fun z => by rw [z, eg3] at el3; cases el3
    refine ⟨.ref l, rfl, .ref l, _, rfl, .inl ⟨_, SqL.of el3, rfl⟩, 1, _, rfl, ⟨by decide, by decide, by omega, by omega⟩, ?_⟩
    rw [show ((((strL (l0 :: lr)).length : Nat) : Int) - 1).toNat = lr.length by omega]
    refine for_range (lo := 1) (n := lr.length) (fun i σ H5 => ∃ us rs y2 y5 y6, σ = [some (.str (mk d)), some (.ref l), y2, some (.str (mk n)), some (.ref g), y5, y6] ∧ Same H H5 ∧ Rx g H3 H5 ∧ H5 g = some (.lst us) ∧ All2 (RO H5) us rs ∧ rs.length = i ∧ rdL lr 2 = pre rs (rdL (lr.drop i) (2 + i))) ?_ ?_ ?_
    · exact ⟨[], [], _, _, _, rfl, s3, Rx.same (Same.refl _), eg3, .nil, rfl, by show _ = pre [] (rdL lr 2); cases rdL lr 2 <;> rfl⟩
    · rintro i σ H5 hi' ⟨us, rs, y2, y5, y6, rfl, s5, r5, e5, ro5, ri, rd⟩
      have il : i < lr.length := hi'
      obtain ⟨li, er⟩ : ∃ li, lr[i]? = some li := ⟨_, List.getElem?_eq_getElem il⟩
      have lim := lll li (List.mem_cons_of_mem _ (List.mem_of_getElem? er))
      have cn := spl_cnt 32 li
      have wsm : ∀ p ∈ spl 32 li, p.length ≤ 1380 := fun p hp => Nat.le_trans (spl_len hp) lim
      rw [drop_at er, rdL] at rd
      have el5 := r5 _ _ nlg el3
      have at1 : atI (strL (l0 :: lr)) (1 + (i : Nat)) = some (.str (mk li)) := by
        rw [show (1 : Int) + (i : Nat) = ((i + 1 : Nat) : Int) by omega]
        refine atI_nat ?_
        show (List.map _ (l0 :: lr))[i + 1]? = _
        rw [List.getElem?_map, List.getElem?_cons_succ, er]
        rfl
      refine ⟨.ref l, rfl, _, rfl, l, _, _, .str (mk li), rfl, rfl, SqL.of el5, at1, ⟨_, rfl⟩, mk li, mk [32], rfl, rfl, rfl, ?_, fun f nf => ?_⟩
      · rw [mk_len]
        exact Nat.le_trans (show li.length + 2 ≤ 3000 by omega) (by decide)
      rw [split_mk (by decide)]
      have t7 := Same.new (o := .lst (((spl 32 li).map mk).map V.str)) nf
      have ef : upd H5 f (.lst (((spl 32 li).map mk).map V.str)) f = some (.lst (strL (spl 32 li))) := by
        rw [upd_same, List.map_map]
        rfl
      generalize upd H5 f (.lst (((spl 32 li).map mk).map V.str)) = H7 at t7 ef
      generalize spl 32 li = fs at rd ef cn wsm
      have s7 := s5.trans t7
      have fl : (strL fs).length = fs.length := List.length_map _
      have k2 : (1 : Int) + (i : Nat) + 1 = ((2 + i : Nat) : Int) := by omega
      have bad' : rowF fs = none → 0 ≤ sizeLine ∧ ∀ z, H7 z = none → 3 ≤ sizeLine ∧ ∀ t, upd H7 z (.lst []) t = none → Q (.ref t) (upd (upd H7 z (.lst [])) t (.tup [.int (1 + (i : Nat) + 1), .str (mk n), .ref z])) := fun e => by
        rw [e] at rd
        rw [rd] at q
        refine ⟨Nat.zero_le _, fun z nz => ⟨szle, fun t nt => ?_⟩⟩
        rw [k2]
        have s8 := s7.trans ((Same.new (o := .lst []) nz).trans (Same.new (o := .tup [.int ((2 + i : Nat) : Int), .str (mk n), .ref z]) nt))
        exact q _ t n z s8 upd_same (Same.new nt _ _ upd_same)
      by_cases f4 : 4 ≤ fs.length
      case neg =>
        refine ⟨.ref f, rfl, .ref f, _, rfl, .inl ⟨_, SqL.of ef, rfl⟩, _, 4, rfl, rfl, _, rfl, ?_⟩
        rw [decide_eq_true (show (((strL fs).length : Nat) : Int) < 4 by omega)]
        refine iteT ?_
        refine iteT ?_
        exact ⟨_, rfl, _, _, rfl, rfl, _, rfl, bad' (rowF_short f4)⟩
      obtain ⟨fa, fb, ws, fy, fz, rfl⟩ := four f4
      have eL : strL (fa :: fb :: (ws ++ [fy, fz])) = .str (mk fa) :: .str (mk fb) :: (strL ws ++ [.str (mk fy), .str (mk fz)]) := by
        show V.str (mk fa) :: V.str (mk fb) :: strL (ws ++ [fy, fz]) = _
        rw [strL_app]
        rfl
      refine ⟨.ref f, rfl, .ref f, _, rfl, .inl ⟨_, SqL.of ef, rfl⟩, _, 4, rfl, rfl, _, rfl, ?_⟩
      rw [decide_eq_false (show ¬ (((strL (fa :: fb :: (ws ++ [fy, fz]))).length : Nat) : Int) < 4 by omega)]
      refine iteF ⟨.ref f, rfl, f, _, rfl, .inl (SqL.of ef), rfl, flat_strL _, _, rfl, ?_⟩
      rw [if_neg Bool.false_ne_true, show inV (V.str (Str.ofString "")) (strL (fa :: fb :: (ws ++ [fy, fz]))) = decide ([] ∈ (fa :: fb :: (ws ++ [fy, fz]))) from in_strL [] _]
      by_cases e0 : [] ∈ (fa :: fb :: (ws ++ [fy, fz]))
      case pos =>
        rw [decide_eq_true e0]
        refine iteT ?_
        exact ⟨_, rfl, _, _, rfl, rfl, _, rfl, bad' (by rw [rowF_at, if_neg fun z => z.1 e0])⟩
      rw [decide_eq_false e0]
      have fne : fa ≠ [] := fun z => e0 (by rw [z]; exact List.mem_cons_self)
      obtain ⟨fi, fc, efa⟩ : ∃ fi fc, fa = fi ++ [fc] := by
        rcases List.eq_nil_or_concat fa with h | ⟨fi, fc, h⟩
        · exact absurd h fne
        · exact ⟨fi, fc, by rw [h, List.concat_eq_append]⟩
      have fal : fa.length ≤ 1380 := wsm fa List.mem_cons_self
      have atl : atI (mk fa).cps.toList (-1) = some fc := by
        show atI fa (-1) = _
        rw [efa]
        unfold atI ixN
        have l : ((fi ++ [fc]).length : Int) = fi.length + 1 := by simp
        rw [if_neg (by decide), if_pos (by rw [l]; omega)]
        show (fi ++ [fc])[((-1 : Int) + ((fi ++ [fc]).length : Int)).toNat]? = _
        rw [l, show ((-1 : Int) + ((fi.length : Int) + 1)).toNat = fi.length by omega, List.getElem?_append_right (Nat.le_refl _), Nat.sub_self]
        rfl
      refine iteF ⟨.ref f, rfl, f, _, 0, .str (mk fa), rfl, rfl, SqL.of ef, atI_nat (j := 0) rfl, 1, rfl, mk fa, -1, fc, rfl, rfl, by rw [mk_len]; exact Nat.le_trans (show fa.length ≤ 1400 by omega) szle14, atl, rfl, _, rfl, ?_⟩
      have elast : fa.getLast? = some fc := by rw [efa, List.getLast?_concat]
      by_cases e1 : fc = 58
      case neg =>
        rw [show decide (V.str ⟨#[fc]⟩ = V.str (Str.ofString ":")) = false from decide_eq_false fun z => e1 (List.cons.inj (mk_inj (l := [fc]) (m := [58]) (V.str.inj z))).1]
        refine iteT (iteT ?_)
        exact ⟨_, rfl, _, _, rfl, rfl, _, rfl, bad' (by rw [rowF_at, if_neg fun z => e1 (Option.some.inj (elast.symm.trans z.2.1))])⟩
      subst e1
      rw [show decide (V.str ⟨#[58]⟩ = V.str (Str.ofString ":")) = true from by decide +kernel]
      refine iteF ?_
      rw [eL] at ef
      have m2 : atI (V.str (mk fa) :: .str (mk fb) :: (strL ws ++ [.str (mk fy), .str (mk fz)])) (-2) = some (.str (mk fy)) := atI_m2 (.str (mk fa) :: .str (mk fb) :: strL ws)
      have m1 : atI (V.str (mk fa) :: .str (mk fb) :: (strL ws ++ [.str (mk fy), .str (mk fz)])) (-1) = some (.str (mk fz)) := atI_m1 (.str (mk fa) :: .str (mk fb) :: strL ws)
      refine ⟨.ref f, rfl, 2, rfl, f, _, -2, _, rfl, rfl, SqL.of ef, m2, rfl, _, rfl, ?_⟩
      by_cases e2 : fy = [61]
      case neg =>
        rw [show decide (V.str (mk fy) = V.str (Str.ofString "=")) = false from decide_eq_false fun z => e2 (mk_inj (V.str.inj z))]
        refine iteT ?_
        exact ⟨_, rfl, _, _, rfl, rfl, _, rfl, bad' (by rw [rowF_at, if_neg fun z => e2 z.2.2])⟩
      subst e2
      rw [show decide (V.str (mk [61]) = V.str (Str.ofString "=")) = true from by decide +kernel]
      refine iteF ?_
      have e7 := t7 _ _ e5
      refine ⟨.ref f, rfl, 2, rfl, 2, rfl, -2, rfl, f, _, rfl, SqL.of ef, fun e ne => ?_⟩
      rw [cutV_mid]
      refine ⟨e, _, rfl, .inl ⟨SqL.of upd_same, fun w nw => ?_⟩⟩
      have t8 := (Same.new (o := .lst (strL ws)) ne).trans (Same.new (o := .tup (strL ws)) nw)
      have ew : upd (upd H7 e (.lst (strL ws))) w (.tup (strL ws)) w = some (.tup (strL ws)) := upd_same
      generalize upd (upd H7 e (.lst (strL ws))) w (.tup (strL ws)) = H8 at t8 ew
      have ef8 := t8 _ _ ef
      refine ⟨.ref g, rfl, .inl ⟨rfl, _, SqL.of (t8 _ _ e7)⟩, ?_⟩
      refine ⟨.ref f, rfl, f, _, 0, .str (mk fa), rfl, rfl, SqL.of ef8, atI_nat (j := 0) rfl, 1, rfl, -1, rfl, mk fa, rfl, ?_, ?_⟩
      · rw [mk_len]
        exact Nat.le_trans (show fa.length ≤ 1400 by omega) szle14
      rw [cutS_last elast]
      refine ⟨.ref f, rfl, f, _, 1, .str (mk fb), rfl, rfl, SqL.of ef8, atI_nat (j := 1) rfl, ?_⟩
      refine ⟨_, rfl, .ref f, rfl, 1, rfl, f, _, -1, .str (mk fz), rfl, rfl, SqL.of ef8, m1, szle, fun z nz => ?_⟩
      have t9 := t8.trans (Same.new (o := .tup [.str (mk fa.dropLast), .str (mk fb), .ref w, .str (mk fz)]) nz)
      have ez : upd H8 z (.tup [.str (mk fa.dropLast), .str (mk fb), .ref w, .str (mk fz)]) z = some (.tup [.str (mk fa.dropLast), .str (mk fb), .ref w, .str (mk fz)]) := upd_same
      have ew9 := Same.new (o := .tup [.str (mk fa.dropLast), .str (mk fb), .ref w, .str (mk fz)]) nz _ _ ew
      generalize upd H8 z (.tup [.str (mk fa.dropLast), .str (mk fb), .ref w, .str (mk fz)]) = H9 at t9 ez ew9
      have t59 := t7.trans t9
      have e9 := t59 _ _ e5
      have ul := ro5.len
      have k9 : Kp H9 (upd H9 g (.lst (us ++ [.ref z]))) := Kp.updL e9
      refine ⟨g, us, _, rfl, rfl, e9, small14 (by omega), us ++ [.ref z], rs ++ [⟨fa.dropLast, fb, ws, fz⟩], _, _, _, rfl, Same.updN (s5.trans t59) ng0, ?_, upd_same, ?_, by rw [List.length_append, ri]; rfl, ?_⟩
      · exact r5.trans ((Rx.same t59).trans Rx.at)
      · exact All2.app ((ROs.same t59 ro5).imp fun _ _ y => y.kp k9) (.cons ⟨z, w, rfl, k9 _ _ ez (fun _ y => nomatch y), k9 _ _ ew9 (fun _ y => nomatch y)⟩ .nil)
      · rw [rd, rowF_at, if_pos ⟨e0, elast, rfl⟩, show 2 + (i + 1) = 2 + i + 1 by omega]
        dsimp only
        cases rdL (List.drop (i + 1) lr) (2 + i + 1) with
        | inl j => rfl
        | inr xs =>
          show Sum.inr _ = Sum.inr _
          rw [List.append_assoc]
          rfl
    · rintro σ H5 ⟨us, rs, y2, y5, y6, rfl, s5, r5, e5, ro5, ri, rd⟩
      rw [List.drop_of_length_le (Nat.le_refl _)] at rd
      replace rd : rdL lr 2 = .inr rs := by
        rw [rd]
        show Sum.inr (rs ++ []) = _
        rw [List.append_nil]
      rw [rd] at q
      refine ⟨_, rfl, .ref g, rfl, szle, fun t nt => ?_⟩
      have s6 := Same.new (o := .tup [.int 0, .str (mk n), .ref g]) nt
      exact q _ t g us (s5.trans s6) upd_same (s6 _ _ e5) (ROs.same s6 ro5)
end
end TW

namespace TW
open PySem PySem.Spec PyProof.Rows L2
/-! ### _law_maker_good -/
/-- classes whose instances are told apart -/
structure TeI4 (K : PySem.W.Frag) : Prop where
  mic : PySem.W.findIn K (.ref (CM K)) "__class__" = some (some (.builtin "object.__class__"))
  mim : PySem.W.mroIn K (CM K) (.type "object") = some true
  i_tb_tup : PySem.W.kitOne K (.ref (CTb K)) (.type "tuple") = some false
def sp_mgood (K : PySem.W.Frag) : Sp := fun vs H Q _ => ∃ (x v : V) (r : Rw), vs = [x, v] ∧ MO (CM K) H x r ∧ RO H v r ∧ Rasc r ∧ ∀ H', Same H H' → Q (.bl true) H'
theorem kit_tt {K : PySem.W.Frag} : PySem.W.kitOne K (.type "tuple") (.type "tuple") = some true := kit_same _
theorem eqvAllStrs : ∀ ls : List (List Nat), PyData.eqvAll ((ls.map mk).map PyData.str) ((ls.map mk).map PyData.str) = true
  | [] => rfl
  | l :: r => by
    show ((mk l == mk l) && PyData.eqvAll ((r.map mk).map PyData.str) ((r.map mk).map PyData.str)) = true
    rw [eqvAllStrs r, beq_self_eq_true]
    rfl
theorem eqvRow (r : Rw) : PyData.eqv (rowD r) (rowD r) = true := by
  show ((mk r.kd == mk r.kd) && ((mk r.nm == mk r.nm) && (PyData.eqvAll ((r.ws.map mk).map PyData.str) ((r.ws.map mk).map PyData.str) && ((mk r.fm == mk r.fm) && true)))) = true
  rw [eqvAllStrs, beq_self_eq_true, beq_self_eq_true, beq_self_eq_true]
  rfl
/-- a statement whose ways all lead to one state -/
theorem nx_join {D : Ends} {t b : TS} {σ : L2.St} {H : Hp} (σ' : L2.St) (rest : ∀ H', Same H H' → b D σ' H') (h : (∀ H', Same H H' → b D σ' H') → t { D with nx := b D } σ H) : tSeq t b D σ H := h rest
theorem seq_set {i : Nat} {v : V} {b : TS} {D : Ends} {σ : L2.St} {H : Hp} (h : b D (σ.set i (some v)) H) : tSeq (tAsg (tC v) (gName i)) b D σ H := h
/-- how many of maker, makers, least know nothing of the name -/
def cntU (rs : List Rw) (n : List Nat) : Nat := (if (rowN rs n).isSome = true then 0 else 1) + (if n ∈ kds rs then 0 else 1) + (if n = digW ∨ n ∈ kds rs then 0 else 1)
def sp_lunk (K : PySem.W.Frag) : Sp := fun vs H Q _ => ∃ (a : Addr) (m n : List Nat) (rs : List Rw), vs = [.ref a, .str (mk n)] ∧ TbO K H a m rs ∧ TR rs ∧ ∀ H', Same H H' → Q (.int (cntU rs n : Nat)) H'
theorem least_iff {rs : List Rw} (tr : TR rs) {L : LM} (lok : LOkS rs L) (cl : ∀ r ∈ rs, Cl L r) (k : List Nat) : L k = none ↔ ¬ (k = digW ∨ k ∈ kds rs) := by
  constructor
  · intro e h
    rcases h with rfl | h
    · have := lok.ok.dig
      rw [e] at this
      cases this
    · have := all_in lok.ok.dig cl tr.gr k h
      rw [e] at this
      cases this
  · intro h
    cases e : L k with
    | none => rfl
    | some t => exact absurd (lok.ok.only k (by rw [e]; rfl)) h
section
variable {P : Program} {w : World} {K : PySem.W.Frag} {mg : Str → Option Value} {base : Heap}
theorem ok_mgood (T : Tx K mg) (M : Tk K mg) (W : Tw K) (I4 : TeI4 K) : FnR P w K mg base CX0 1 (He.ga K "_law_maker_good") (sp_mgood K) := by
  refine fnR0 T.d_law_maker_good sc_law_maker_good (fun _ _ _ _ _ _ us hl => match us, hl with | [_, _], _ => rfl) (fun vs H Q E h => ?_) (fun cdv A outer s H vs Q E hr h => ?_)
  · obtain ⟨x, v, r, rfl, _⟩ := h
    rfl
  · obtain ⟨x, v, r, rfl, mo, ro, ra, q⟩ := h
    refine ⟨_, (pss_cons (ps_if (PW.pt (pw_or (pt_not (pt_val (pe_callB call_isi (by rfl) T.z_isinstance (by decide +kernel) (pa_cons (pv 0) (pa_cons (pe_glob (v := .ref (CM K)) (by rfl) M.v_Maker rfl) pa_nil))))) (pw_or1 (pt_not (pt_val (pe_callB call_isi (by rfl) T.z_isinstance (by decide +kernel) (pa_cons (pe_fldK K (pv 0) rfl) (pa_cons (pe_bltn (v := .ty "tuple") (by rfl) T.z_tuple (by decide +kernel) rfl) pa_nil))))))))
(pss_one (ps_ret pe_bl))
pss_nil)
(pss_one (ps_ret (pe_cmpR (op_eqD hr.units) (pe_tup (pa_cons (pe_fldK K (pv 0) rfl) (pa_cons (pe_fldK K (pv 0) rfl) (pa_cons (pe_fldK K (pv 0) rfl) (pa_cons (pe_fldK K (pv 0) rfl) pa_nil))))) (pv 1) (nomark _))))), ?_⟩
    obtain ⟨b, dx, p, rfl, hb, hp⟩ := id mo
    obtain ⟨c, pw, rfl, hc, hpw⟩ := id ro
    have ins : TyX K H (.ref b) (.ref (CM K)) := .base (.ins hb M.cl I4.mic W.ig W.it I4.mim)
    refine ⟨.ref b, rfl, .ref b, .ref (CM K), _, _, _, rfl, .own _, ins, kit_same _, _, rfl, iteF ?_⟩
    refine ⟨.ref b, rfl, b, _, dx, _, _, rfl, hb, M.cl, M.a_wants, rfl, .ref p, .ty "tuple", _, _, _, rfl, .ty _, .base (.tup hp), kit_tt, _, rfl, iteF ?_⟩
    refine ⟨.ref b, rfl, b, _, dx, _, _, rfl, hb, M.cl, M.a_kind, rfl, .ref b, rfl, b, _, dx, _, _, rfl, hb, M.cl, M.a_name, rfl, .ref b, rfl, b, _, dx, _, _, rfl, hb, M.cl, M.a_wants, rfl, .ref b, rfl, b, _, dx, _, _, rfl, hb, M.cl, M.a_form, rfl, szle, fun t nt => ?_⟩
    have s1 := Same.new (o := .tup [.str (mk r.kd), .str (mk r.nm), .ref p, .str (mk r.fm)]) nt
    have rt : RO (upd H t (.tup [.str (mk r.kd), .str (mk r.nm), .ref p, .str (mk r.fm)])) (.ref t) r := ⟨t, p, rfl, upd_same, s1 _ _ hp⟩
    have sh : SeqAt.shaped (rowD r) = true := by
      show (PyData.canLay0 (rowD r) && decide (PyData.depth (rowD r) ≤ 64)) = true
      rw [layRow ra, depthRow]
      rfl
    refine ⟨.ref c, rfl, rowD r, rowD r, dpRow rt, dpRow (ro.same s1), sh, sh, ?_⟩
    rw [eqvRow]
    exact q _ s1
theorem ok_lunk (T : Tx K mg) (M : Tk K mg) (B : Tt K) (V2 : Til K) (JT : TeT P K mg) (J3 : TeU P K mg) (JX : TeX4 K mg) : FnR P w K mg base CX0 4 (He.ga K "_law_unknown") (sp_lunk K) := by
  have G_maker : FnR P w K mg base (L2.CX P w) 2 (mTb K "maker") (sp_maker K) := ok_maker B V2 J3
  have G_makers : FnR P w K mg base (L2.CX P w) 2 (mTb K "makers") (sp_makers K) := ok_makers T M B V2 J3
  have G_least : FnR P w K mg base (L2.CX P w) 2 (mTb K "least") (sp_tleast K) := ok_tleast B V2 J3
  refine fnR0 T.d_law_unknown sc_law_unknown (fun _ _ _ _ _ _ us hl => match us, hl with | [_, _], _ => rfl) (fun vs H Q E h => ?_) (fun cdv A outer s H vs Q E hr h => ?_)
  · obtain ⟨a, m, n, rs, rfl, _⟩ := h
    rfl
  · obtain ⟨a, m, n, rs, rfl, tb, tr, q⟩ := h
    refine ⟨_, (pss_cons (ps_set (i := 2) sc_law_unknown.nd rfl (.inl rfl) pe_int)
(pss_cons (ps_try_as (i := 3) (Wout := fun _ _ _ _ => False) rfl rfl sc_law_unknown.nd rfl rfl ⟨rfl, by decide, .inl J3.v_Unknown⟩ takes0 (fun W pn xe tk _ => pss_one (ps_expr (pe_methRS (pv 0) B.cl V2.m_maker G_maker (hr.mono (by decide)) (fun σ => passAt tk σ) (pa_cons (pv 1) pa_nil)))) (fun a oe cls d pn hz hf => (pss_one (ps_set (i := 2) sc_law_unknown.nd rfl (.inl rfl) (pe_op op_add (pv 2) (pe_callTy call_int1 (by rfl) T.z_int (by decide +kernel) (pa_cons (pe_and (pe_cmpR op_eq (pe_xf JX.x_unk J3.e_unk.no hz hf (pv 3)) (pv 1) (nomark _)) (pe_one (pe_callB (call_isX JX.c_unk hz hf) (by rfl) T.z_isinstance (by decide +kernel) (pa_cons (pv 3) (pa_cons (pe_glob (v := .ref (CW K)) (by rfl) JX.v_WorkError rfl) pa_nil))))) pa_nil)))))))
(pss_cons (ps_try_as (i := 3) (Wout := fun _ _ _ _ => False) rfl rfl sc_law_unknown.nd rfl rfl ⟨rfl, by decide, .inl J3.v_Unknown⟩ takes0 (fun W pn xe tk _ => pss_one (ps_expr (pe_methRS (pv 0) B.cl V2.m_makers G_makers (hr.mono (by decide)) (fun σ => passAt tk σ) (pa_cons (pv 1) pa_nil)))) (fun a oe cls d pn hz hf => (pss_one (ps_set (i := 2) sc_law_unknown.nd rfl (.inl rfl) (pe_op op_add (pv 2) (pe_callTy call_int1 (by rfl) T.z_int (by decide +kernel) (pa_cons (pe_and (pe_cmpR op_eq (pe_xf JX.x_unk J3.e_unk.no hz hf (pv 3)) (pv 1) (nomark _)) (pe_one (pe_callB (call_isX JX.c_unk hz hf) (by rfl) T.z_isinstance (by decide +kernel) (pa_cons (pv 3) (pa_cons (pe_bltn (v := .ty "ValueError") (by rfl) T.z_ValueError (by decide +kernel) rfl) pa_nil))))) pa_nil)))))))
(pss_cons (ps_try_as (i := 3) (Wout := fun _ _ _ _ => False) rfl rfl sc_law_unknown.nd rfl rfl ⟨rfl, by decide, .inl J3.v_Unknown⟩ takes0 (fun W pn xe tk _ => pss_one (ps_expr (pe_methRS (pv 0) B.cl V2.m_least G_least (hr.mono (by decide)) (fun σ => passAt tk σ) (pa_cons (pv 1) pa_nil)))) (fun a oe cls d pn hz hf => (pss_one (ps_set (i := 2) sc_law_unknown.nd rfl (.inl rfl) (pe_op op_add (pv 2) (pe_callTy call_int1 (by rfl) T.z_int (by decide +kernel) (pa_cons (pe_and (pe_cmpR op_eq (pe_xf JX.x_unk J3.e_unk.no hz hf (pv 3)) (pv 1) (nomark _)) (pe_one (pe_not (pe_callB (call_isX JX.c_unk hz hf) (by rfl) T.z_isinstance (by decide +kernel) (pa_cons (pv 3) (pa_cons (pe_glob (v := .ref (CBT K)) (by rfl) JT.v_BadTable rfl) pa_nil)))))) pa_nil)))))))
(pss_one (ps_ret (pv 2))))))), ?_⟩
    obtain ⟨dx, kp, mp, np, lp, ms, L, ha, _⟩ := id tb
    obtain ⟨c1, e1⟩ : ∃ c1, c1 = (if (rowN rs n).isSome = true then 0 else 1) := ⟨_, rfl⟩
    obtain ⟨c2, e2⟩ : ∃ c2, c2 = (if n ∈ kds rs then 0 else 1) := ⟨_, rfl⟩
    obtain ⟨c3, e3⟩ : ∃ c3, c3 = (if n = digW ∨ n ∈ kds rs then 0 else 1) := ⟨_, rfl⟩
    unfold cntU at q
    rw [← e1, ← e2, ← e3] at q
    refine seq_set ?_
    refine nx_join [some (.ref a), some (.str (mk n)), some (.int (c1 : Nat)), none] (fun H1 s1 => ?_) (fun rest => ?_)
    case refine_2 =>
      refine ⟨.ref a, rfl, a, dx, _, rfl, ha, rfl, .str (mk n), rfl, a, m, rs, n, rfl, tb, fun r er x mo => ?_, fun er H2 d s2 nd => ?_⟩
      · have := rest H (Same.refl _)
        rw [e1, er] at this
        exact this
      · refine ⟨true, JX.m_unk, fun _ a0 na => ?_, fun z => nomatch z⟩
        have s3 : Same H2 (upd H2 d (.xd [(("name" : Str), .str (mk n))])) := Same.new nd
        have f3 : upd H2 d (.xd [(("name" : Str), .str (mk n))]) d = some (.xd [(("name" : Str), .str (mk n))]) := upd_same
        refine ⟨.int 0, rfl, .ref a0, rfl, rfl, rfl, d, _, .str (mk n), rfl, f3, rfl, .str (mk n), rfl, rfl, ?_⟩
        refine ⟨_, rfl, ?_⟩
        rw [decide_eq_true rfl]
        refine iteT ⟨.ref a0, rfl, .ref (CW K), .ref (CW K), true, d, _, rfl, fun u h => h, rfl, rfl, f3, JX.i_unk_w, .inr ⟨true, rfl, 0, 1, rfl, rfl, ?_⟩⟩
        have := rest _ (s2.trans s3)
        rw [e1, er] at this
        exact this
    have tb1 := tb.same s1
    have ha1 := s1 _ _ ha
    refine nx_join [some (.ref a), some (.str (mk n)), some (.int ((c1 + c2 : Nat) : Int)), none] (fun H2 s2 => ?_) (fun rest => ?_)
    case refine_2 =>
      refine ⟨.ref a, rfl, a, dx, _, rfl, ha1, rfl, .str (mk n), rfl, a, m, rs, n, rfl, tb1, tr.hi, fun hk H2 p zs s2 hp ez hz => ?_, fun hk H2 d s2 nd => ?_⟩
      · have := rest H2 s2
        rw [e2, if_pos hk] at this
        exact this
      · refine ⟨true, JX.m_unk, fun _ a0 na => ?_, fun z => nomatch z⟩
        have s3 : Same H2 (upd H2 d (.xd [(("name" : Str), .str (mk n))])) := Same.new nd
        have f3 : upd H2 d (.xd [(("name" : Str), .str (mk n))]) d = some (.xd [(("name" : Str), .str (mk n))]) := upd_same
        refine ⟨.int (c1 : Nat), rfl, .ref a0, rfl, rfl, rfl, d, _, .str (mk n), rfl, f3, rfl, .str (mk n), rfl, rfl, ?_⟩
        refine ⟨_, rfl, ?_⟩
        rw [decide_eq_true rfl]
        refine iteT ⟨.ref a0, rfl, .ty "ValueError", .type "ValueError", true, d, _, rfl, fun u h => h, rfl, rfl, f3, JX.i_unk_v, .inr ⟨true, rfl, (c1 : Nat), 1, rfl, rfl, ?_⟩⟩
        have := rest _ (s2.trans s3)
        rw [e2, if_neg hk] at this
        exact this
    have s02 := s1.trans s2
    have tb2 := tb.same s02
    have ha2 := s02 _ _ ha
    refine nx_join [some (.ref a), some (.str (mk n)), some (.int ((c1 + c2 + c3 : Nat) : Int)), none] (fun H3 s3 => ?_) (fun rest => ?_)
    case refine_2 =>
      refine ⟨.ref a, rfl, a, dx, _, rfl, ha2, rfl, .str (mk n), rfl, a, m, rs, n, rfl, tb2, fun L lok cl => ⟨fun t et v tv => ?_, fun eN H2' d s2' nd => ?_⟩⟩
      · have := rest H2 (Same.refl _)
        rw [e3, if_pos (Classical.byContradiction fun z => by rw [(least_iff tr lok cl n).mpr z] at et; cases et)] at this
        exact this
      · refine ⟨true, JX.m_unk, fun _ a0 na => ?_, fun z => nomatch z⟩
        have s3 : Same H2' (upd H2' d (.xd [(("name" : Str), .str (mk n))])) := Same.new nd
        have f3 : upd H2' d (.xd [(("name" : Str), .str (mk n))]) d = some (.xd [(("name" : Str), .str (mk n))]) := upd_same
        refine ⟨.int ((c1 + c2 : Nat) : Int), rfl, .ref a0, rfl, rfl, rfl, d, _, .str (mk n), rfl, f3, rfl, .str (mk n), rfl, rfl, ?_⟩
        refine ⟨_, rfl, ?_⟩
        rw [decide_eq_true rfl]
        refine iteT ⟨.ref a0, rfl, .ref (CBT K), .ref (CBT K), false, d, _, rfl, fun u h => h, rfl, rfl, f3, JX.i_unk_bt, false, rfl, .inr ⟨true, rfl, ((c1 + c2 : Nat) : Int), 1, rfl, rfl, ?_⟩⟩
        have := rest _ (s2'.trans s3)
        rw [e3, if_neg ((least_iff tr lok cl n).mp eN)] at this
        exact this
    exact ⟨_, rfl, q _ (s02.trans s3)⟩
end
end TW

namespace TW
open PySem PySem.Spec PyProof.Rows L2
/-! ### _law_described of bent rows -/
theorem Rsn.all {m : Nat} (hm : m ≤ 3) {r : Rw} (h : Rsn m r) : ∀ l ∈ lineL r, l.length ≤ 12 := fun l hl => by
  have h1 := h.kd.2
  have h2 := h.nm.2
  have h4 := h.fm.2
  rcases List.mem_cons.mp hl with rfl | hl
  · rw [List.length_append]
    show r.kd.length + 1 ≤ 12
    omega
  rcases List.mem_cons.mp hl with rfl | hl
  · omega
  rcases List.mem_append.mp hl with hl | hl
  · have := (h.ws l hl).2
    omega
  rcases List.mem_cons.mp hl with rfl | hl
  · decide
  rcases List.mem_cons.mp hl with rfl | hl
  · omega
  · cases hl
theorem Rsn.cnt {m : Nat} (hm : m ≤ 3) {r : Rw} (h : Rsn m r) : (lineL r).length ≤ 10 := by
  have w3 := h.wl
  show (r.ws ++ _).length + 1 + 1 ≤ 10
  rw [List.length_append]
  show r.ws.length + 2 + 1 + 1 ≤ 10
  omega
theorem Rsn.ln {m : Nat} (hm : m ≤ 3) {r : Rw} (h : Rsn m r) : (TW.ln r).length ≤ 130 := by
  have h1 := jc_sum (lineL r) (h.all hm)
  have h2 := jc_len 32 (lineL r)
  have h3 := h.cnt hm
  show (jc 32 (lineL r)).length ≤ 130
  omega
def sp_desc5 : Sp := fun vs H Q _ => ∃ (n : List Nat) (a : Addr) (us : List V) (rs : List Rw), vs = [.str (mk n), .ref a] ∧ n.length ≤ 100 ∧ H a = some (.lst us) ∧ All2 (RO H) us rs ∧ rs.length ≤ 100 ∧ (∀ r ∈ rs, Rsn 3 r) ∧ ∀ H', Same H H' → Q (.str (mk (dsc n rs))) H'
/-- how long the description of bent rows is -/
theorem rsn_ln95 {r : Rw} (h : Rsn 3 r) : (TW.ln r).length ≤ 95 := by
  have h1 := h.kd.2
  have h2 := h.nm.2
  have h3 := jc_sum (B := 9) r.ws fun w hw => (h.ws w hw).2
  have h4 := h.fm.2
  have h5 := jc_len 32 (lineL r)
  have h6 := h.cnt (Nat.le_refl 3)
  have h7 := h.wl
  have h8 : r.ws.length * 9 ≤ 6 * 9 := Nat.mul_le_mul_right 9 h7
  have e : (((lineL r).map mk).map (fun x : Str => x.length)).sum = (r.kd.length + 1) + (r.nm.length + (((r.ws.map mk).map (fun x : Str => x.length)).sum + (1 + r.fm.length))) := by
    show ((((r.kd ++ [58]) :: r.nm :: (r.ws ++ [[61], r.fm])).map mk).map (fun x : Str => x.length)).sum = _
    simp [mk_len]
    try omega
  show (jc 32 (lineL r)).length ≤ 95
  omega
theorem dsc_len {n : List Nat} {rs : List Rw} (hn : n.length ≤ 9) (hr : rs.length ≤ 12) (h : ∀ r ∈ rs, Rsn 3 r) : (dsc n rs).length ≤ 1200 := by
  have h1 := jc_sum (B := 95) (rs.map TW.ln) fun l hl => by
    obtain ⟨r, hr', rfl⟩ := List.mem_map.mp hl
    exact rsn_ln95 (h r hr')
  have h2 := jc_len 10 (dscL n rs)
  have e : (((dscL n rs).map mk).map (fun x : Str => x.length)).sum = 6 + n.length + (((rs.map TW.ln).map mk).map (fun x : Str => x.length)).sum := by
    show ((((tabL ++ n) :: rs.map TW.ln).map mk).map (fun x : Str => x.length)).sum = _
    simp [mk_len]
    omega
  have e2 : (dscL n rs).length = rs.length + 1 := by
    show ((tabL ++ n) :: rs.map TW.ln).length = _
    rw [List.length_cons, List.length_map]
  rw [List.length_map] at h1
  have h3 : rs.length * 95 ≤ 12 * 95 := Nat.mul_le_mul_right 95 hr
  show (jc 10 (dscL n rs)).length ≤ 1200
  omega
section
variable {P : Program} {w : World} {K : PySem.W.Frag} {mg : Str → Option Value} {base : Heap}
theorem ok_desc5 (T : Tx K mg) : FnR P w K mg base CX0 1 (He.ga K "_law_described") sp_desc5 := by
  refine fnR0 T.d_law_described sc_law_described (fun _ _ _ _ _ _ us hl => match us, hl with | [_, _], _ => rfl) (fun vs H Q E h => ?_) (fun cdv A outer s H vs Q E hr h => ?_)
  · obtain ⟨n, a, us, rs, rfl, _⟩ := h
    rfl
  · obtain ⟨n, a, us, rs, rfl, hn, ha, hm, hl, sm, q⟩ := h
    refine ⟨_, (pss_cons (ps_set (i := 2) sc_law_described.nd rfl (.inl rfl) (pe_lst (pa_cons (pe_op op_add_str pe_str (pv 0)) pa_nil)))
(pss_cons (ps_for PassesOwn.never rfl (pi_list (pv 1)) (pg_name (i := 3) sc_law_described.nd rfl (.inl rfl))
(pss_one (ps_expr (pe_bm PySem.F.plainAttrs_list PySem.F.slot_list_append PySem.F.type_list_append mt_append (pv 2) (pa_cons (pe_join pe_str (pe_op op_cat (pe_op op_cat (pe_lst (pa_cons (pe_op op_add_str (pe_ix (r := rIxT K) ix_tup (pv 3) pe_int (fun _ _ => rfl)) pe_str) (pa_cons (pe_ix (r := rIxT K) ix_tup (pv 3) pe_int (fun _ _ => rfl)) pa_nil))) (pe_callTy call_list_of (by rfl) T.z_list (by decide +kernel) (pa_cons (pe_ix (r := rIxT K) ix_tup (pv 3) pe_int (fun _ _ => rfl)) pa_nil))) (pe_lst (pa_cons pe_str (pa_cons (pe_ix (r := rIxT K) ix_tup (pv 3) pe_int (fun _ _ => rfl)) pa_nil))))) pa_nil)))))
(pss_one (ps_ret (pe_join pe_str (pv 2)))))), ?_⟩
    have ul : us.length = rs.length := hm.len
    refine ⟨.str (mk n), rfl, mk tabL, mk n, rfl, rfl, ?_, szle, fun l nl => ?_⟩
    · rw [mk_len, mk_len]
      exact Nat.le_trans (show 6 + n.length ≤ 1000 by omega) szle
    rw [mk_app]
    have s1 := Same.new (o := .lst [V.str (mk (tabL ++ n))]) nl
    refine ⟨.ref a, rfl, a, rfl, ⟨_, SqL.of (s1 _ _ ha)⟩, for_list (xs := us) (fun i σ H1 => ∃ y3, σ = [some (.str (mk n)), some (.ref a), some (.ref l), y3] ∧ Same H H1 ∧ H1 l = some (.lst (strL (dscL n (rs.take i))))) ⟨none, rfl, s1, upd_same⟩ ?_ ?_ ?_⟩
    · rintro i σ H1 _ ⟨y3, _, s2, _⟩
      exact SqL.of (s2 _ _ ha)
    · rintro i x σ H1 hx ⟨y3, rfl, s2, el⟩
      obtain ⟨r, er, hr1⟩ := hm.get hx
      obtain ⟨b, p, rfl, hb, hp⟩ := hr1.same s2
      have sr := sm r (List.mem_of_getElem? er)
      have k8 := sr.kd.2
      have w3 := sr.wl
      refine ⟨.ref l, rfl, .inl ⟨rfl, _, SqL.of el⟩, ⟨_, rfl⟩, .ref b, rfl, b, _, 0, _, rfl, rfl, SqT.of hb, rfl, mk r.kd, mk [58], rfl, rfl, ?_, .ref b, rfl, b, _, 1, _, rfl, rfl, SqT.of hb, rfl, szle, fun x1 n1 => ?_⟩
      · rw [mk_len, mk_len]
        exact Nat.le_trans (show r.kd.length + 1 ≤ 1000 by omega) szle
      rw [mk_app]
      have t1 := Same.new (o := .lst [V.str (mk (r.kd ++ [58])), .str (mk r.nm)]) n1
      have c1 : upd H1 x1 (.lst [V.str (mk (r.kd ++ [58])), .str (mk r.nm)]) x1 = some (.lst [V.str (mk (r.kd ++ [58])), .str (mk r.nm)]) := upd_same
      generalize upd H1 x1 (.lst [V.str (mk (r.kd ++ [58])), .str (mk r.nm)]) = H2 at t1 c1
      refine ⟨.ref b, rfl, b, _, 2, _, rfl, rfl, SqT.of (t1 _ _ hb), rfl, p, _, rfl, .inr (SqT.of (t1 _ _ hp)), fun x2 n2 => ?_⟩
      have t2 := Same.new (o := .lst (strL r.ws)) n2
      refine ⟨x1, x2, _, _, rfl, rfl, t2 _ _ c1, upd_same, ?_, fun x3 n3 => ?_⟩
      · refine Nat.le_trans (m := 1000) ?_ szle
        rw [List.length_map]
        show 2 + r.ws.length ≤ 1000
        omega
      have t3 := Same.new (o := .lst ([V.str (mk (r.kd ++ [58])), .str (mk r.nm)] ++ strL r.ws)) n3
      have t13 := t1.trans (t2.trans t3)
      have c3 : upd (upd H2 x2 (.lst (strL r.ws))) x3 (.lst ([V.str (mk (r.kd ++ [58])), .str (mk r.nm)] ++ strL r.ws)) x3 = some (.lst ([V.str (mk (r.kd ++ [58])), .str (mk r.nm)] ++ strL r.ws)) := upd_same
      generalize upd (upd H2 x2 (.lst (strL r.ws))) x3 (.lst ([V.str (mk (r.kd ++ [58])), .str (mk r.nm)] ++ strL r.ws)) = H3 at t3 t13 c3
      refine ⟨.ref b, rfl, b, _, 3, _, rfl, rfl, SqT.of (t13 _ _ hb), rfl, szle, fun x4 n4 => ?_⟩
      have t4 := Same.new (o := .lst [V.str (Str.ofString "="), .str (mk r.fm)]) n4
      refine ⟨x3, x4, _, _, rfl, rfl, t4 _ _ c3, upd_same, ?_, fun x5 n5 => ?_⟩
      · refine Nat.le_trans (m := 1000) ?_ szle
        rw [List.length_append, List.length_map]
        show 2 + r.ws.length + 2 ≤ 1000
        omega
      have eL : ([V.str (mk (r.kd ++ [58])), .str (mk r.nm)] ++ strL r.ws) ++ [V.str (Str.ofString "="), .str (mk r.fm)] = ((lineL r).map mk).map V.str := by
        show V.str (mk (r.kd ++ [58])) :: V.str (mk r.nm) :: (strL r.ws ++ [V.str (Str.ofString "="), .str (mk r.fm)]) = V.str (mk (r.kd ++ [58])) :: V.str (mk r.nm) :: ((r.ws ++ [[61], r.fm]).map mk).map V.str
        rw [List.map_append, List.map_append, List.map_map]
        rfl
      rw [eL]
      have t5 := Same.new (o := .lst (((lineL r).map mk).map V.str)) n5
      have t15 := t13.trans (t4.trans t5)
      refine ⟨mk [32], x5, (lineL r).map mk, rfl, rfl, .inl (SqL.of upd_same), ?_, ?_⟩
      · have h1 := jc_sum (lineL r) (sr.all (Nat.le_refl 3))
        have h2 : (lineL r).length ≤ 10 := by
          show (r.ws ++ _).length + 1 + 1 ≤ 10
          rw [List.length_append]
          show r.ws.length + 2 + 1 + 1 ≤ 10
          omega
        rw [List.length_map, mk_len]
        show _ + _ * 1 ≤ _
        omega
      rw [show Txt.join (mk [32]) ((lineL r).map mk) = mk (ln r) from (TL.join_eq _ _).trans (join_jc 32 _)]
      refine ⟨l, _, _, rfl, rfl, t15 _ _ el, small1000 ?_, _, rfl, ?_, ?_⟩
      · rw [List.length_map, List.length_cons, List.length_map, List.length_take]
        omega
      · intro b' o e
        rw [upd_ne (ne_of_none e nl)]
        exact t15 _ _ (s2 _ _ e)
      · rw [upd_same, take_get er]
        show some (HO.lst (strL (dscL n (rs.take i)) ++ strL [ln r])) = some (HO.lst (strL ((tabL ++ n) :: (rs.take i ++ [r]).map ln)))
        rw [← strL_app, List.map_append]
        rfl
    · rintro σ H1 ⟨y3, rfl, s2, el⟩
      rw [ul, List.take_length] at el
      have el' : H1 l = some (.lst (((dscL n rs).map mk).map V.str)) := by
        rw [el, List.map_map]
        rfl
      refine ⟨⟨_, rfl⟩, .ref l, rfl, mk [10], l, (dscL n rs).map mk, rfl, rfl, .inl (SqL.of el'), ?_, ?_⟩
      · have h1 := jc_sum (B := 200) (dscL n rs) fun x hx => by
          rcases List.mem_cons.mp hx with rfl | hx
          · rw [List.length_append]
            show 6 + n.length ≤ 200
            omega
          · obtain ⟨r, hr, rfl⟩ := List.mem_map.mp hx
            exact Nat.le_trans ((sm r hr).ln (Nat.le_refl 3)) (by decide)
        have h2 : (dscL n rs).length ≤ 101 := by
          rw [List.length_cons, List.length_map]
          omega
        rw [List.length_map, mk_len]
        show _ + _ * 1 ≤ _
        omega
      rw [show Txt.join (mk [10]) ((dscL n rs).map mk) = mk (dsc n rs) from (TL.join_eq _ _).trans (join_jc 10 _)]
      exact q _ s2
end
end TW

namespace TW
open PySem PySem.Spec PyProof.Rows L2
/-! ### _law_table_good -/
theorem passE0 {X : Cx} : Passes (L2.CX X.prog X.w) X E0 := fun _ _ _ _ _ _ _ h => by
  obtain ⟨_, _, _, _, _, _, _, _, _, _, _, _, z⟩ := h
  exact z.elim
theorem passE0S {X : Cx} (σ : L2.St) : PassesAt (L2.CX X.prog X.w) X σ E0 := fun pins H s e s' I h => passE0 pins σ H s e s' I h
/-! ### name in table -/
def rInTb (C : Addr) (sp : Sp) (E : XK) : R2 := fun x y H Q => ∃ a dx fs, y = .ref a ∧ H a = some (.ins C dx fs) ∧ sp [.ref a, x] H (fun v H' => ∃ b, v = .bl b ∧ Q (.bl b) H') E
theorem op_inTb {X : Cx} {CX : CXT} {k : Nat} {sp : Sp} {E : XK} (Y : Til X.K) (G : FnR X.prog X.w X.K X.mg X.base CX k (mTb X.K "__contains__") sp) (hr : Room k X.A) (hx : Passes CX X E) : OpR X (compareOp .In) (rInTb (CTb X.K) sp E) := by
  intro pins s σ H x y v u Q I rx ry h
  obtain ⟨a, dx, fs, rfl, ha, hs⟩ := h
  cases ry
  obtain ⟨m, F⟩ := I.fr
  obtain ⟨mA, O, _⟩ := ins_get I.hok ha
  obtain ⟨od, J, _⟩ := O.look
  refine PySem.W.in_K F I.ok.mod.kin J Y.at_contains Y.fn_contains (wpAny_call (codeAny_mono (run_fnR (vs := [.ref a, x]) (us := [.ref a, v]) G hr hx I (.cons rfl (.cons rx .nil)) hs) fun r s' hq => ?_))
  cases r with
  | error er => exact hq
  | ok fl =>
    cases fl with
    | ret u =>
      obtain ⟨z, H', I2, rv, b, rfl, q⟩ := hq
      exact wpAny_mono (tru_ok pins s' σ H' (.bl b) u (fun c H2 => Q (.bl c) H2) I2 rv ⟨b, rfl, q⟩) (fun c s2 hc => by
        obtain ⟨H3, I3, q3⟩ := hc
        exact ⟨.bl c, H3, I3, rfl, q3⟩) fun _ _ z => z
    | next => exact hq
    | brk => exact hq
    | cont => exact hq
theorem rowN_mem {rs : List Rw} (tr : TR rs) {r : Rw} (hr : r ∈ rs) : rowN rs r.nm = some r := by
  obtain ⟨j, er⟩ := List.mem_iff_getElem?.mp hr
  obtain ⟨jl, ej⟩ := List.getElem?_eq_some_iff.mp er
  unfold rowN
  rw [List.find?_eq_some_iff_getElem]
  refine ⟨decide_eq_true rfl, j, jl, ej, fun i hi => ?_⟩
  have := (tr.rows j r er).new
  suffices y : decide (rs[i].nm = r.nm) = false by
    rw [y]
    rfl
  refine decide_eq_false fun z => this ?_
  refine List.mem_map.mpr ⟨rs[i], ?_, z⟩
  refine List.mem_iff_getElem?.mpr ⟨i, ?_⟩
  rw [List.getElem?_take, if_pos hi]
  exact List.getElem?_eq_getElem (by omega)
theorem rowN_some {rs : List Rw} (tr : TR rs) (n : List Nat) : (rowN rs n).isSome = decide (n ∈ rs.map (·.nm)) := by
  cases e : rowN rs n with
  | some r =>
    obtain ⟨h1, h2⟩ := rowN_of e
    exact (decide_eq_true (List.mem_map.mpr ⟨r, h1, h2⟩)).symm
  | none =>
    refine (decide_eq_false fun h => ?_).symm
    obtain ⟨r, h1, h2⟩ := List.mem_map.mp h
    rw [← h2, rowN_mem tr h1] at e
    cases e
theorem TR.rwg {rs : List Rw} (tr : TR rs) : RwG rs := by
  have k : ∀ r ∈ rs, ∃ i, RwOk (rs.take i) r := fun r hr => by
    obtain ⟨j, er⟩ := List.mem_iff_getElem?.mp hr
    exact ⟨j, tr.rows j r er⟩
  exact ⟨fun r hr => (k r hr).choose_spec.nm, fun r hr => (k r hr).choose_spec.kd, fun r hr => (k r hr).choose_spec.fm.wl⟩
theorem TR.sms {rs : List Rw} (tr : TR rs) : ∀ r ∈ rs, Sm r := fun r hr => by
  obtain ⟨j, er⟩ := List.mem_iff_getElem?.mp hr
  exact (tr.rows j r er).sm
theorem nm_dig {rs : List Rw} (tr : TR rs) : digW ∉ rs.map (·.nm) := fun h => by
  obtain ⟨r, h1, h2⟩ := List.mem_map.mp h
  have := tr.rwg.nm r h1
  rw [h2] at this
  cases this
theorem kd_dig {rs : List Rw} (tr : TR rs) : digW ∉ kds rs := fun h => by
  rcases (kdsF_sub rs [] List.nodup_nil).2.2.2 digW h with z | ⟨r, hr, e⟩
  · cases z
  · have := tr.rwg.kd r hr
    rw [e] at this
    cases this
theorem cnt_row {rs : List Rw} (tr : TR rs) {r : Rw} (hr : r ∈ rs) : ((cntU rs r.nm : Nat) : Int) = 2 * (if (!decide (r.nm ∈ kds rs)) = true then 1 else 0) := by
  have nd : r.nm ≠ digW := fun z => nm_dig tr (z ▸ List.mem_map.mpr ⟨r, hr, rfl⟩)
  unfold cntU
  rw [rowN_mem tr hr, if_pos (show (some r).isSome = true from rfl)]
  by_cases h : r.nm ∈ kds rs
  · rw [if_pos h, if_pos (show r.nm = digW ∨ r.nm ∈ kds rs from .inr h), decide_eq_true h]
    rfl
  · rw [if_neg h, if_neg (show ¬ (r.nm = digW ∨ r.nm ∈ kds rs) from fun z => z.elim nd h), decide_eq_false h]
    rfl
theorem cnt_kd {rs : List Rw} (tr : TR rs) {k : List Nat} (hk : k ∈ kds rs) : ((cntU rs k : Nat) : Int) = (if (!decide (k ∈ rs.map (·.nm))) = true then 1 else 0) := by
  unfold cntU
  rw [rowN_some tr, if_pos hk, if_pos (show k = digW ∨ k ∈ kds rs from .inr hk)]
  by_cases h : k ∈ rs.map (·.nm)
  · rw [decide_eq_true h]
    rfl
  · rw [decide_eq_false h]
    rfl
theorem cnt_dig {rs : List Rw} (tr : TR rs) : cntU rs digW = 2 := by
  unfold cntU
  rw [rowN_some tr, if_neg (kd_dig tr), if_pos (show digW = digW ∨ digW ∈ kds rs from .inl rfl), decide_eq_false (nm_dig tr)]
  rfl
theorem cnt_nil {rs : List Rw} (tr : TR rs) : cntU rs [] = 3 := by
  have n1 : ([] : List Nat) ∉ rs.map (·.nm) := fun h => by
    obtain ⟨r, h1, h2⟩ := List.mem_map.mp h
    have := tr.rwg.nm r h1
    rw [h2] at this
    cases this
  have n2 : ([] : List Nat) ∉ kds rs := fun h => by
    rcases (kdsF_sub rs [] List.nodup_nil).2.2.2 [] h with z | ⟨r, hr, e⟩
    · cases z
    · have := tr.rwg.kd r hr
      rw [e] at this
      cases this
  unfold cntU
  rw [rowN_some tr, if_neg n2, if_neg (show ¬ (([] : List Nat) = digW ∨ [] ∈ kds rs) from fun z => z.elim (fun z => nomatch z) n2), decide_eq_false n1]
  rfl
theorem make_zero {K : PySem.W.Frag} {σ : L2.St} {H : Hp} {Q : VK} {E : XK} (c : ∀ H' a', Same H H' → TO (CT K) H' (.ref a') (.nd [48] []) → Q (.ref a') H') : StX.tMakeR (CT K) (sp_star (CT K)) E (tCons (tC (V.str (Str.ofString "0"))) tNil) σ H Q :=
  mk_tree (C := CT K) (H := H) (Q := Q) (n := [48]) (us := []) (ks := []) (by rw [TOs]; trivial) rfl (by decide) fun H' a' s5 _ to5 => c H' a' s5 to5
theorem ne_same {x y : V} (h : x = y) : (!decide (x = y)) = false := by
  rw [decide_eq_true h]
  rfl
theorem iteFo {b : Bool} {A B : Prop} (h : b = false) (q : B) : if b = true then A else B := by
  rw [h]
  exact q
theorem iteTo {b : Bool} {A B : Prop} (h : b = true) (q : A) : if b = true then A else B := by
  rw [h]
  exact q
def sp_tgood (K : PySem.W.Frag) : Sp := fun vs H Q _ => ∃ (a l : Addr) (n : List Nat) (us : List V) (rs : List Rw), vs = [.ref a, .str (mk n), .ref l] ∧ TbO K H a n rs ∧ TR rs ∧ H l = some (.lst us) ∧ All2 (RO H) us rs ∧ (∀ r ∈ rs, Rasc r) ∧ n.length ≤ 100 ∧ ∀ H', Same H H' → Q (.bl true) H'
section
variable {P : Program} {w : World} {K : PySem.W.Frag} {mg : Str → Option Value} {base : Heap}
theorem ok_tgood (T : Tx K mg) (Z : Tc K mg) (M : Tk K mg) (N : Tn K mg) (W : Tw K) (O : To K) (B : Tt K) (V2 : Til K) (JT : TeT P K mg) (J3 : TeU P K mg) (JX : TeX4 K mg) (I4 : TeI4 K) : FnR P w K mg base CX0 6 (He.ga K "_law_table_good") (sp_tgood K) := by
  have G_maker : FnR P w K mg base (L2.CX P w) 2 (mTb K "maker") (sp_maker K) := ok_maker B V2 J3
  have G_makers : FnR P w K mg base (L2.CX P w) 2 (mTb K "makers") (sp_makers K) := ok_makers T M B V2 J3
  have G_least : FnR P w K mg base (L2.CX P w) 2 (mTb K "least") (sp_tleast K) := ok_tleast B V2 J3
  have G_tcont : FnR P w K mg base CX0 1 (mTb K "__contains__") (sp_tcont K) := ok_tcont B V2
  have G_init : FnR P w K mg base CX0 1 (mT K "__init__") (sp_star (CT K)) := ok_init T Z
  have G_eq : FnR P w K mg base CX0 2 (mT K "__eq__") (sp_cmp (CT K) fun p q => decide (p = q)) := ok_eq T Z W O
  have G_law_kinds_of : FnR P w K mg base CX0 1 (He.ga K "_law_kinds_of") sp_lkinds := ok_lkinds T
  have G_law_described : FnR P w K mg base CX0 1 (He.ga K "_law_described") sp_desc := ok_desc T
  have G_law_maker_good : FnR P w K mg base CX0 1 (He.ga K "_law_maker_good") (sp_mgood K) := ok_mgood T M W I4
  have G_law_unknown : FnR P w K mg base CX0 4 (He.ga K "_law_unknown") (sp_lunk K) := ok_lunk T M B V2 JT J3 JX
  have G_law_least : FnR P w K mg base CX0 1 (He.ga K "_law_least") sp_lleast := ok_lleast T
  refine fnR0 T.d_law_table_good sc_law_table_good (fun _ _ _ _ _ _ us hl => match us, hl with | [_, _, _], _ => rfl) (fun vs H Q E h => ?_) (fun cdv A outer s H vs Q E hr h => ?_)
  · obtain ⟨a, l, n, us, rs, rfl, _⟩ := h
    rfl
  · obtain ⟨a, l, n, us, rs, rfl, tb, tr, hl, ro, ra, nl, q⟩ := h
    refine ⟨_, (pss_cons (ps_set (i := 3) sc_law_table_good.nd rfl (.inl rfl) (pe_cr G_law_kinds_of (hr.mono (by omega)) (by rfl) T.v_law_kinds_of T.k_law_kinds_of pass0 (pa_cons (pv 2) pa_nil)))
(pss_cons (ps_if (PW.pt (pw_or (pt_not (pt_val (pe_callB call_isi (by rfl) T.z_isinstance (by decide +kernel) (pa_cons (pv 0) (pa_cons (pe_glob (v := .ref (CTb K)) (by rfl) N.v_Table rfl) pa_nil))))) (pw_or1 (pt_not (pt_val (pe_callB call_isi (by rfl) T.z_isinstance (by decide +kernel) (pa_cons (pe_fldK K (pv 0) rfl) (pa_cons (pe_bltn (v := .ty "tuple") (by rfl) T.z_tuple (by decide +kernel) rfl) pa_nil))))))))
(pss_one (ps_ret pe_bl))
pss_nil)
(pss_cons (ps_if (PW.pt (pw_or (pt_cmpR op_ne (pe_fldK K (pv 0) rfl) (pv 1) (nomark _)) (pw_or1 (pt_cmpR (op_neD hr.units) (pe_callTy call_list_of (by rfl) T.z_list (by decide +kernel) (pa_cons (pe_fldK K (pv 0) rfl) pa_nil)) (pv 3) (nomark _)))))
(pss_one (ps_ret pe_bl))
pss_nil)
(pss_cons (ps_if (pt_cmpR op_ne (pe_fldK K (pv 0) rfl) (pe_cr G_law_described (hr.mono (by omega)) (by rfl) T.v_law_described T.k_law_described pass0 (pa_cons (pv 1) (pa_cons (pv 2) pa_nil))) (nomark _))
(pss_one (ps_ret pe_bl))
pss_nil)
(pss_cons (ps_setLc (i := 4) (own := [("_law_maker", 11)]) (g := gName 11) rfl sc_law_table_good.nd rfl rfl (sw_true rfl rfl rfl (by decide +kernel)) (pi_table (k := 1) T B V2 (hr.mono (by omega)) (pv 0)) (blkOk_by (own := [("_law_maker", 11)]) (N := N_law_table_good) (sc := defScope s_law_table_good) (by decide +kernel)) (fun _ _ _ _ _ => pg_name (i := 11) sc_law_table_good.nd rfl (.inl rfl)) (fun _ _ _ _ _ => pts_nil) (fun _ _ _ _ _ => (pv 11)))
(pss_cons (ps_if (pt_cmpR op_ne (pe_callB call_len (by rfl) T.z_len (by decide +kernel) (pa_cons (pv 4) pa_nil)) (pe_callB call_len (by rfl) T.z_len (by decide +kernel) (pa_cons (pv 2) pa_nil)) (nomark _))
(pss_one (ps_ret pe_bl))
pss_nil)
(pss_cons (ps_for PassesOwn.never rfl (pi_range1 (by rfl) T.z_range (pa_cons (pe_callB call_len (by rfl) T.z_len (by decide +kernel) (pa_cons (pv 2) pa_nil)) pa_nil)) (pg_name (i := 5) sc_law_table_good.nd rfl (.inl rfl))
(pss_cons (ps_if (pt_not (pt_val (pe_cr G_law_maker_good (hr.mono (by omega)) (by rfl) T.v_law_maker_good T.k_law_maker_good pass0 (pa_cons (pe_ix (r := rIxL K) ix_list (pv 4) (pv 5) (fun _ _ => rfl)) (pa_cons (pe_ix (r := rIxL K) ix_list (pv 2) (pv 5) (fun _ _ => rfl)) pa_nil)))))
(pss_one (ps_ret pe_bl))
pss_nil)
(pss_cons (ps_if (pt_not (pt_val (pe_cr G_law_maker_good (hr.mono (by omega)) (by rfl) T.v_law_maker_good T.k_law_maker_good pass0 (pa_cons (pe_methRS (pv 0) B.cl V2.m_maker G_maker (hr.mono (by omega)) (E := fun _ => E0) (fun σ => passE0S σ) (pa_cons (pe_ix (r := rIxT K) ix_tup (pe_ix (r := rIxL K) ix_list (pv 2) (pv 5) (fun _ _ => rfl)) pe_int (fun _ _ => rfl)) pa_nil)) (pa_cons (pe_ix (r := rIxL K) ix_list (pv 2) (pv 5) (fun _ _ => rfl)) pa_nil)))))
(pss_one (ps_ret pe_bl))
pss_nil)
(pss_cons (ps_if (pt_cmpR op_notBl (pe_cmpR (op_inTb V2 G_tcont (hr.mono (by omega)) (E := E0) pass0) (pe_ix (r := rIxT K) ix_tup (pe_ix (r := rIxL K) ix_list (pv 2) (pv 5) (fun _ _ => rfl)) pe_int (fun _ _ => rfl)) (pv 0) (by rfl)) pe_bl (nomark _))
(pss_one (ps_ret pe_bl))
pss_nil)
(pss_one (ps_if (pt_cmpR op_ne (pe_cr G_law_unknown (hr.mono (by omega)) (by rfl) T.v_law_unknown T.k_law_unknown pass0 (pa_cons (pv 0) (pa_cons (pe_ix (r := rIxT K) ix_tup (pe_ix (r := rIxL K) ix_list (pv 2) (pv 5) (fun _ _ => rfl)) pe_int (fun _ _ => rfl)) pa_nil))) (pe_op op_mul pe_int (pe_callTy call_int1 (by rfl) T.z_int (by decide +kernel) (pa_cons (pe_cmpR op_notIn_seq (pe_ix (r := rIxT K) ix_tup (pe_ix (r := rIxL K) ix_list (pv 2) (pv 5) (fun _ _ => rfl)) pe_int (fun _ _ => rfl)) (pv 3) (by rfl)) pa_nil))) (nomark _))
(pss_one (ps_ret pe_bl))
pss_nil))))))
(pss_cons (ps_set (i := 6) sc_law_table_good.nd rfl (.inl rfl) (pe_cr G_law_least (hr.mono (by omega)) (by rfl) T.v_law_least T.k_law_least pass0 (pa_cons (pv 2) pa_nil)))
(pss_cons (ps_setLc (i := 7) (own := [("_law_row", 12)]) (g := gName 12) rfl sc_law_table_good.nd rfl rfl (sw_true rfl rfl rfl (by decide +kernel)) (pi_list (pv 2)) (blkOk_by (own := [("_law_row", 12)]) (N := N_law_table_good) (sc := defScope s_law_table_good) (by decide +kernel)) (fun _ _ _ _ _ => pg_name (i := 12) sc_law_table_good.nd rfl (.inl rfl)) (fun _ _ _ _ _ => pts_nil) (fun _ _ _ _ _ => (pe_ix (r := rIxT K) ix_tup (pv 12) pe_int (fun _ _ => rfl))))
(pss_cons (ps_for PassesOwn.never rfl (pi_list (pv 3)) (pg_name (i := 8) sc_law_table_good.nd rfl (.inr rfl))
(pss_cons (ps_if (pt_cmpR op_ne (pe_cmpR (op_inTb V2 G_tcont (hr.mono (by omega)) (E := E0) pass0) (pv 8) (pv 0) (by rfl)) (pe_cmpR op_in_seq (pv 8) (pv 7) (by rfl)) (nomark _))
(pss_one (ps_ret pe_bl))
pss_nil)
(pss_cons (ps_if (pt_cmpR op_ne (pe_cr G_law_unknown (hr.mono (by omega)) (by rfl) T.v_law_unknown T.k_law_unknown pass0 (pa_cons (pv 0) (pa_cons (pv 8) pa_nil))) (pe_callTy call_int1 (by rfl) T.z_int (by decide +kernel) (pa_cons (pe_cmpR op_notIn_seq (pv 8) (pv 7) (by rfl)) pa_nil)) (nomark _))
(pss_one (ps_ret pe_bl))
pss_nil)
(pss_cons (ps_set (i := 9) sc_law_table_good.nd rfl (.inl rfl) (pe_methRS (pv 0) B.cl V2.m_makers G_makers (hr.mono (by omega)) (E := fun _ => E0) (fun σ => passE0S σ) (pa_cons (pv 8) pa_nil)))
(pss_cons (ps_setLc (i := 10) (own := [("_law_row", 12)]) (g := gName 12) rfl sc_law_table_good.nd rfl rfl (sw_true rfl rfl rfl (by decide +kernel)) (pi_list (pv 2)) (blkOk_by (own := [("_law_row", 12)]) (N := N_law_table_good) (sc := defScope s_law_table_good) (by decide +kernel)) (fun _ _ _ _ _ => pg_name (i := 12) sc_law_table_good.nd rfl (.inl rfl)) (fun _ _ _ _ _ => (pts_one (pt_cmpR op_eq (pe_ix (r := rIxT K) ix_tup (pv 12) pe_int (fun _ _ => rfl)) (pv 8) (nomark _)))) (fun _ _ _ _ _ => (pe_ix (r := rIxT K) ix_tup (pv 12) pe_int (fun _ _ => rfl))))
(pss_cons (ps_if (PW.pt (pw_or (pt_not (pt_val (pe_callB call_isi (by rfl) T.z_isinstance (by decide +kernel) (pa_cons (pv 9) (pa_cons (pe_bltn (v := .ty "tuple") (by rfl) T.z_tuple (by decide +kernel) rfl) pa_nil))))) (pw_or1 (pt_cmpR (op_neD hr.units) (pe_lc (own := [("_law_maker", 11)]) (g := gName 11) rfl sc_law_table_good.nd (pi_tup (pv 9)) (blkOk_by (own := [("_law_maker", 11)]) (N := N_law_table_good) (sc := defScope s_law_table_good) (by decide +kernel)) (fun _ _ _ _ _ => pg_name (i := 11) sc_law_table_good.nd rfl (.inl rfl)) (fun _ _ _ _ _ => pts_nil) (fun _ _ _ _ _ => (pe_fldK K (pv 11) rfl))) (pv 10) (nomark _)))))
(pss_one (ps_ret pe_bl))
pss_nil)
(pss_one (ps_if (pt_cmpR op_ne (pe_fldK K (pe_methRS (pv 0) B.cl V2.m_least G_least (hr.mono (by omega)) (E := fun _ => E0) (fun σ => passE0S σ) (pa_cons (pv 8) pa_nil)) rfl) (pe_ix (r := rIxT K) ix_tup (pe_dget (u1 hr) (pv 6) (pv 8) (fun _ _ => rfl)) pe_int (fun _ _ => rfl)) (nomark _))
(pss_one (ps_ret pe_bl))
pss_nil))))))))
(pss_cons (ps_if (PW.pt (pw_or (pt_not (pt_cmpR (op_cmpT (op := .Eq) (fun _ _ => rfl) O.at_eq O.fn_eq G_eq (hr.mono (by omega)) (E := E0) pass0) (pe_methRS (pv 0) B.cl V2.m_least G_least (hr.mono (by omega)) (E := fun _ => E0) (fun σ => passE0S σ) (pa_cons pe_str pa_nil)) (StX.pe_makeR Z.mk_ G_init (hr.mono (by omega)) (by rfl) Z.v_Tree pass0 (pa_cons pe_str pa_nil)) (nomark _))) (pw_or1 (pt_cmpR op_notBl (pe_cmpR (op_inTb V2 G_tcont (hr.mono (by omega)) (E := E0) pass0) pe_str (pv 0) (by rfl)) pe_bl (nomark _)))))
(pss_one (ps_ret pe_bl))
pss_nil)
(pss_one (ps_ret (pe_and (pe_cmpR op_eq (pe_cr G_law_unknown (hr.mono (by omega)) (by rfl) T.v_law_unknown T.k_law_unknown pass0 (pa_cons (pv 0) (pa_cons pe_str pa_nil))) pe_int (nomark _)) (pe_one (pe_cmpR op_eq (pe_cr G_law_unknown (hr.mono (by omega)) (by rfl) T.v_law_unknown T.k_law_unknown pass0 (pa_cons (pv 0) (pa_cons pe_str pa_nil))) pe_int (nomark _))))))))))))))))), ?_⟩
    have ul : us.length = rs.length := ro.len
    have rl := tr.hi
    refine ⟨.ref l, rfl, l, us, rs, rfl, hl, ro, by omega, fun H1 lk s1 nk elk => ?_⟩
    have kasc : ∀ k ∈ kds rs, ∀ c ∈ k, c < 128 := fun k hk => by
      rcases (kdsF_sub rs [] List.nodup_nil).2.2.2 k hk with z | ⟨r, hr, e⟩
      · cases z
      · rw [← e]
        exact (ra r hr).kd
    have tb1 := tb.same s1
    obtain ⟨dx, kp, mp, np, lp, ms, L, hat, hkp, hmp, hms, hnp, dl, lok, cl⟩ := id tb1
    have ins : TyX K H1 (.ref a) (.ref (CTb K)) := .base (.ins hat B.cl V2.tic W.ig W.it V2.tim)
    refine ⟨.ref a, rfl, .ref a, .ref (CTb K), _, _, _, rfl, .own _, ins, kit_same _, _, rfl, iteF ?_⟩
    refine ⟨.ref a, rfl, a, _, dx, _, _, rfl, hat, B.cl, B.a_kinds, rfl, .ref kp, .ty "tuple", _, _, _, rfl, .ty _, .base (.tup hkp), kit_tt, _, rfl, iteF ?_⟩
    refine ⟨.ref a, rfl, a, _, dx, _, _, rfl, hat, B.cl, B.a_name, rfl, .str (mk n), rfl, rfl, _, rfl, ?_⟩
    rw [show (!decide (V.str (mk n) = V.str (mk n))) = false from by rw [decide_eq_true rfl]; rfl]
    refine iteF ⟨.ref a, rfl, a, _, dx, _, _, rfl, hat, B.cl, B.a_kinds, rfl, kp, _, rfl, .inr (SqT.of hkp), fun c nc => ?_⟩
    have s2 := Same.new (o := .lst (strL (kds rs))) nc
    have ec : upd H1 c (.lst (strL (kds rs))) c = some (.lst (strL (kds rs))) := upd_same
    generalize upd H1 c (.lst (strL (kds rs))) = H2 at s2 ec
    have elk2 := s2 _ _ elk
    refine ⟨.ref lk, rfl, .list (((kds rs).map mk).map PyData.str), .list (((kds rs).map mk).map PyData.str), .lst (SqL.of ec) (by rw [strL_strs]; exact dpStrs _), .lst (SqL.of elk2) (by rw [strL_strs]; exact dpStrs _), shapedStrs kasc, shapedStrs kasc, _, rfl, ?_⟩
    rw [eqvStrs]
    refine iteF ?_
    have s02 := s1.trans s2
    have hat2 := s2 _ _ hat
    refine ⟨.ref a, rfl, a, _, dx, _, _, rfl, hat2, B.cl, B.a_desc, rfl, .str (mk n), rfl, .ref l, rfl, n, l, us, rs, rfl, nl, s02 _ _ hl, ROs.same s02 ro, by omega, tr.sms, fun H3 s3 => ?_⟩
    refine ⟨rfl, _, rfl, ?_⟩
    rw [show (!decide (V.str (mk (dsc n rs)) = V.str (mk (dsc n rs)))) = false from by rw [decide_eq_true rfl]; rfl]
    have s23 := s2.trans s3
    have s03 := s1.trans s23
    have hat3 := s23 _ _ hat
    have hmp3 := s23 _ _ hmp
    have elk3 := s23 _ _ elk
    have ml : ms.length = rs.length := hms.len
    refine iteF ⟨.ref a, rfl, a, dx, _, mp, ms, rfl, hat3, rfl, hmp3, fun D nD => ?_⟩
    refine lc_pureT (fs := ms) hmp3 nD rfl (by omega) (fun _ => rfl) (fun i x y H' Q' hx hy s' q' => ?_) ?_
    · rw [hx] at hy
      exact ⟨_, rfl, Option.some.inj hy ▸ q'⟩
    have s4 := Same.new (o := .lst ms) nD
    have eD : upd H3 D (.lst ms) D = some (.lst ms) := upd_same
    generalize upd H3 D (.lst ms) = H4 at s4 eD
    have s04 := s03.trans s4
    have hl4 := s04 _ _ hl
    refine ⟨.ref D, rfl, .ref D, _, rfl, .inl ⟨_, SqL.of eD, rfl⟩, .ref l, rfl, .ref l, _, rfl, .inl ⟨_, SqL.of hl4, rfl⟩, rfl, _, rfl, ?_⟩
    rw [show (!decide (V.int (ms.length : Nat) = V.int (us.length : Nat))) = false from by rw [decide_eq_true (by rw [ml, ul])]; rfl]
    have s14 := s23.trans s4
    have hat4 := s14 _ _ hat
    have elk4 := s14 _ _ elk
    have tb4 := tb1.same s14
    refine iteF ⟨.ref l, rfl, .ref l, us.length, rfl, .inl ⟨_, SqL.of hl4, rfl⟩, us.length, rfl, by omega, by omega, for_range (lo := 0) (n := ((us.length : Int)).toNat) (fun i σ H5 => ∃ y5, σ = [some (.ref a), some (.str (mk n)), some (.ref l), some (.ref lk), some (.ref D), y5, none, none, none, none, none, none, none] ∧ Same H4 H5) ⟨none, rfl, Same.refl _⟩ ?_ ?_⟩
    · rintro i σ H5 hi' ⟨y5, rfl, s5⟩
      have il : i < rs.length := by
        have : i < us.length := hi'
        omega
      have e0 : ((0 : Int) + (i : Nat)) = (i : Nat) := by omega
      rw [e0]
      obtain ⟨r, er⟩ : ∃ r, rs[i]? = some r := ⟨_, List.getElem?_eq_getElem il⟩
      have rm := List.mem_of_getElem? er
      obtain ⟨v, ev⟩ : ∃ v, us[i]? = some v := ⟨_, List.getElem?_eq_getElem (by omega)⟩
      obtain ⟨x, ex⟩ : ∃ x, ms[i]? = some x := ⟨_, List.getElem?_eq_getElem (by omega)⟩
      have rov : RO H v r := by
        obtain ⟨r', er', h⟩ := ro.get ev
        rw [er] at er'
        exact Option.some.inj er' ▸ h
      have mox : MO (CM K) H1 x r := by
        obtain ⟨r', er', h⟩ := hms.get ex
        rw [er] at er'
        exact Option.some.inj er' ▸ h
      have s15 := s14.trans s5
      have s05 := s04.trans s5
      refine ⟨.ref D, rfl, _, rfl, D, ms, i, x, rfl, rfl, SqL.of (s5 _ _ eD), atI_nat ex, .ref l, rfl, _, rfl, l, us, i, v, rfl, rfl, SqL.of (s5 _ _ hl4), atI_nat ev, x, v, r, rfl, mox.same s15, rov.same s05, ra r rm, fun H6 s6 => ⟨_, rfl, iteF ?_⟩⟩
      have s16 := s15.trans s6
      have s06 := s05.trans s6
      have s46 := s5.trans s6
      have tb6 := tb1.same s16
      obtain ⟨b, pw, rfl, hb, hpw⟩ := rov.same s06
      refine ⟨.ref a, rfl, a, dx, _, rfl, s16 _ _ hat, rfl, .ref l, rfl, _, rfl, l, us, i, .ref b, rfl, rfl, SqL.of (s46 _ _ hl4), atI_nat ev, b, _, 1, _, rfl, rfl, SqT.of hb, rfl, a, n, rs, r.nm, rfl, tb6, fun r' er' x' mo' => ?_, fun e => ?_⟩
      case refine_2 =>
        rw [rowN_mem tr rm] at e
        cases e
      rw [rowN_mem tr rm] at er'
      cases er'
      refine ⟨.ref l, rfl, _, rfl, l, us, i, .ref b, rfl, rfl, SqL.of (s46 _ _ hl4), atI_nat ev, x', .ref b, r, rfl, mo', rov.same s06, ra r rm, fun H7 s7 => ⟨_, rfl, iteF ?_⟩⟩
      have s17 := s16.trans s7
      have s47 := s46.trans s7
      have hb7 := s7 _ _ hb
      refine ⟨.ref l, rfl, _, rfl, l, us, i, .ref b, rfl, rfl, SqL.of (s47 _ _ hl4), atI_nat ev, b, _, 1, _, rfl, rfl, SqT.of hb7, rfl, .ref a, rfl, a, dx, _, rfl, s17 _ _ hat, a, n, rs, r.nm, rfl, tb1.same s17, _, rfl, true, true, ?_, rfl, _, rfl, ?_⟩
      · rw [rowN_mem tr rm]
        rfl
      rw [show (!decide (true = true)) = false from rfl]
      refine iteF ?_
      refine ⟨.ref a, rfl, .ref l, rfl, _, rfl, l, us, i, .ref b, rfl, rfl, SqL.of (s47 _ _ hl4), atI_nat ev, b, _, 1, _, rfl, rfl, SqT.of hb7, rfl, a, n, r.nm, rs, rfl, tb1.same s17, tr, fun H8 s8 => ?_⟩
      have s48 := s47.trans s8
      have hb8 := s8 _ _ hb7
      have elk8 := s48 _ _ elk4
      refine ⟨.ref l, rfl, _, rfl, l, us, i, .ref b, rfl, rfl, SqL.of (s48 _ _ hl4), atI_nat ev, b, _, 1, _, rfl, rfl, SqT.of hb8, rfl, .ref lk, rfl, lk, _, rfl, .inl (SqL.of elk8), rfl, flat_strL _, ?_⟩
      rw [if_pos rfl, in_strL]
      refine .inr ⟨_, rfl, _, _, rfl, rfl, .inl (by decide), rfl, _, rfl, iteFo (ne_same (congrArg V.int (cnt_row tr rm))) ⟨_, rfl, s48⟩⟩
    rintro σ H5 ⟨y5, rfl, s5⟩
    have s05 := s04.trans s5
    have s15 := s14.trans s5
    have hl5 := s05 _ _ hl
    refine ⟨.ref l, rfl, l, us, rs, rfl, hl5, ROs.same s05 ro, tr.rwg, by omega, tr.k3, fun H6 g s6 dt6 => ?_⟩
    have s06 := s05.trans s6
    have s16 := s15.trans s6
    have hl6 := s06 _ _ hl
    refine ⟨.ref l, rfl, l, rfl, ⟨_, SqL.of hl6⟩, fun F nF => ?_⟩
    refine lc_pureL (xs := us) (fs := strL (rs.map (·.nm))) (SqL.of hl6) nF (by rw [strL, List.length_map, List.length_map, ul]) (by omega) (fun _ => rfl) ?_ ?_
    · intro k v y H' Q' hv hy s' hq
      obtain ⟨r, er, b, pw, rfl, hb, hpw⟩ := ro.get hv
      rw [strL, List.getElem?_map, List.getElem?_map, er] at hy
      have := Option.some.inj hy
      subst this
      exact ⟨.ref b, rfl, b, _, 1, _, rfl, rfl, SqT.of (s' _ _ (s06 _ _ hb)), rfl, hq⟩
    have s7 := Same.new (o := .lst (strL (rs.map (·.nm)))) nF
    have eF : upd H6 F (.lst (strL (rs.map (·.nm)))) F = some (.lst (strL (rs.map (·.nm)))) := upd_same
    generalize upd H6 F (.lst (strL (rs.map (·.nm)))) = H7 at s7 eF
    have s07 := s06.trans s7
    have s17 := s16.trans s7
    have dt7 := dt6.same s7
    have elk7 := s17 _ _ elk
    have hat7 := s17 _ _ hat
    have tb7 := tb1.same s17
    obtain ⟨zr, ezr1, ezr2, hzr⟩ := ro.unz
    refine ⟨.ref lk, rfl, lk, rfl, ⟨_, SqL.of elk7⟩, for_list (xs := strL (kds rs)) (fun i σ H8 => ∃ y8 y9 y10, σ = [some (.ref a), some (.str (mk n)), some (.ref l), some (.ref lk), some (.ref D), y5, some (.ref g), some (.ref F), y8, y9, y10, none, none] ∧ Same H7 H8) ⟨_, _, _, rfl, Same.refl _⟩ ?_ ?_ ?_⟩
    · rintro i σ H8 _ ⟨_, _, _, _, s8⟩
      exact SqL.of (s8 _ _ elk7)
    · rintro i x σ H8 hx ⟨y8, y9, y10, rfl, s8⟩
      rw [strL, List.getElem?_map] at hx
      cases ek : (kds rs)[i]? with
      | none => rw [ek] at hx; cases hx
      | some k =>
      rw [ek] at hx
      have ex := (Option.some.inj hx).symm
      subst ex
      have hk : k ∈ kds rs := List.mem_of_getElem? ek
      refine ⟨_, rfl, .ref a, rfl, a, dx, _, rfl, s8 _ _ hat7, a, n, rs, k, rfl, tb7.same s8, _, rfl, _, rfl, .ref F, rfl, F, _, rfl, .inl (SqL.of (s8 _ _ eF)), rfl, flat_strL _, rfl, _, rfl, ?_⟩
      rw [if_neg Bool.false_ne_true, in_strL, rowN_some tr]
      refine iteFo (ne_same rfl) ?_
      refine ⟨.ref a, rfl, _, rfl, a, n, k, rs, rfl, tb7.same s8, tr, fun H9 s9 => ?_⟩
      have s79 := s8.trans s9
      refine ⟨_, rfl, .ref F, rfl, F, _, rfl, .inl (SqL.of (s79 _ _ eF)), rfl, flat_strL _, ?_⟩
      rw [if_pos rfl, in_strL]
      refine .inr ⟨_, rfl, rfl, _, rfl, iteFo (ne_same (congrArg V.int (cnt_kd tr hk))) ?_⟩
      refine ⟨.ref a, rfl, a, dx, _, rfl, s79 _ _ hat7, rfl, _, rfl, a, n, rs, k, rfl, tb7.same s79, tr.hi, fun _ H10 p zs s10 hp ez hz => ?_, fun nk => absurd hk nk⟩
      have s70 := s79.trans s10
      have s00 := s07.trans s70
      have hl10 := s00 _ _ hl
      have zl : zr.length = us.length := by rw [ezr1, List.length_map]
      refine ⟨.ref l, rfl, l, rfl, ⟨_, SqL.of hl10⟩, fun G nG => ?_⟩
      refine lc_filtL (xs := zr) (h := fun z => z.1) (fun z => decide (z.2.kd = k)) (fun z => .str (mk z.2.nm)) (by rw [← ezr1]; exact SqL.of hl10) nG (by omega) (fun _ => rfl) (fun z H' Q' hz' s' q' => ?_) (fun z H' Q' hz' s' q' => ?_) ?_
      · obtain ⟨b, pw, eb, hb, hpw⟩ := hzr z hz'
        rw [eb]
        refine ⟨.ref b, rfl, b, _, 0, _, rfl, rfl, SqT.of (s' _ _ (s00 _ _ hb)), rfl, _, rfl, rfl, _, rfl, ?_⟩
        rw [dec_str2]
        exact q'
      · obtain ⟨b, pw, eb, hb, hpw⟩ := hzr z hz'
        rw [eb]
        exact ⟨.ref b, rfl, b, _, 1, _, rfl, rfl, SqT.of (s' _ _ (s00 _ _ hb)), rfl, q'⟩
      obtain ⟨mn, emn⟩ : ∃ mn, mn = (rs.filter fun r => decide (r.kd = k)).map (·.nm) := ⟨_, rfl⟩
      have e1 : ((zr.filter fun z => decide (z.2.kd = k)).map fun z => V.str (mk z.2.nm)) = strL mn := by
        rw [emn, ezr2, List.filter_map, List.map_map, strL, List.map_map]
        rfl
      rw [e1]
      have s11 := Same.new (o := .lst (strL mn)) nG
      have eG : upd H10 G (.lst (strL mn)) G = some (.lst (strL mn)) := upd_same
      generalize upd H10 G (.lst (strL mn)) = H11 at s11 eG
      have hp11 := s11 _ _ hp
      refine ⟨.ref p, rfl, .ref p, .ty "tuple", _, _, _, rfl, .ty _, .base (.tup hp11), kit_tt, _, rfl, iteF ?_⟩
      refine ⟨.ref p, rfl, p, rfl, ⟨_, SqT.of hp11⟩, fun J nJ => ?_⟩
      have e2 : (zs.map fun z => V.str (mk z.2.nm)) = strL mn := by
        rw [emn, ← ez, List.map_map, strL, List.map_map]
        rfl
      refine lc_pureT (xs := zs.map (·.1)) (fs := zs.map fun z => V.str (mk z.2.nm)) hp11 nJ (by rw [List.length_map, List.length_map]) ?_ (fun _ => rfl) ?_ ?_
      · have h1 : (zs.map (·.2)).length ≤ rs.length := by rw [ez]; exact List.length_filter_le _ _
        rw [List.length_map] at h1
        rw [List.length_map]
        omega
      · intro j v y H' Q' hv hy s' hq
        rw [List.getElem?_map] at hv hy
        cases ej : zs[j]? with
        | none => rw [ej] at hv; cases hv
        | some z =>
          rw [ej] at hv hy
          have h1 := Option.some.inj hv
          have h2 := Option.some.inj hy
          subst h1 h2
          obtain ⟨z1, z2⟩ := z
          obtain ⟨b, db, pb, rfl, hb, hpb⟩ := hz _ (List.mem_of_getElem? ej)
          exact ⟨.ref b, rfl, b, _, db, _, _, rfl, s' _ _ (s11 _ _ hb), M.cl, M.a_name, rfl, hq⟩
      rw [e2]
      have s12 := Same.new (o := .lst (strL mn)) nJ
      have eJ : upd H11 J (.lst (strL mn)) J = some (.lst (strL mn)) := upd_same
      generalize upd H11 J (.lst (strL mn)) = H12 at s12 eJ
      have masc : ∀ x ∈ mn, ∀ c ∈ x, c < 128 := fun x hx => by
        rw [emn] at hx
        obtain ⟨r, hr, rfl⟩ := List.mem_map.mp hx
        exact (ra r (List.mem_filter.mp hr).1).nm
      refine ⟨.ref G, rfl, .list ((mn.map mk).map PyData.str), .list ((mn.map mk).map PyData.str), .lst (SqL.of eJ) (by rw [strL_strs]; exact dpStrs _), .lst (SqL.of (s12 _ _ eG)) (by rw [strL_strs]; exact dpStrs _), shapedStrs masc, shapedStrs masc, _, rfl, ?_⟩
      rw [eqvStrs]
      refine iteF ?_
      have s72 := s70.trans (s11.trans s12)
      refine ⟨.ref a, rfl, a, dx, _, rfl, s72 _ _ hat7, rfl, _, rfl, a, n, rs, k, rfl, tb7.same s72, fun L' lok' cl' => ⟨fun t et v tv => ?_, fun e => ?_⟩⟩
      case refine_2 => exact absurd (.inr hk) ((least_iff tr lok' cl' k).mp e)
      obtain ⟨t4, m4, e4, em, ek4⟩ := least_four tr.rwg lok' cl' tr.k3 et
      rw [et] at em
      cases em
      obtain ⟨kvs, hg, _, hv4⟩ := dt7.same s72
      have := hv4 k
      rw [e4] at this
      obtain ⟨v4, ev4, p4, rfl, hp4⟩ := this
      obtain ⟨at', dt', pt', rfl, hta⟩ := tv.at
      obtain ⟨tn, tk⟩ := t
      refine ⟨at', _, dt', _, _, rfl, hta, Z.cl, Z.a_term, rfl, .ref g, rfl, _, rfl, g, .ref p4, rfl, by rw [← ev4]; exact DGet.k (k := .inr (mk k)) hg, p4, _, 1, _, rfl, rfl, SqT.of hp4, rfl, rfl, _, rfl, iteFo (ne_same (by rw [ek4.2])) ⟨_, _, _, rfl, s72⟩⟩
    rintro σ H8 ⟨y8, y9, y10, rfl, s8⟩
    have s18 := s17.trans s8
    refine ⟨.ref a, rfl, a, dx, _, rfl, s18 _ _ hat, rfl, a, n, rs, digW, rfl, tb1.same s18, fun L' lok' cl' => ⟨fun t et v tv => ?_, fun e => ?_⟩⟩
    case refine_2 => exact absurd (.inl rfl) ((least_iff tr lok' cl' digW).mp e)
    have := lok'.ok.dig
    rw [this] at et
    cases et
    refine make_zero (H := H8) (E := E0) fun H9 a9 s9 to9 => ?_
    obtain ⟨av, dv, pv', rfl, hav⟩ := (TO.same s9 tv).at
    obtain ⟨a9', d9, p9, e9, ha9⟩ := to9.at
    cases e9
    refine ⟨av, dv, _, a9, d9, _, rfl, rfl, hav, ha9, .ref av, .ref a9, _, _, rfl, TO.same s9 tv, to9, fun H10 s10 => ⟨_, rfl, ?_⟩⟩
    refine iteFo (b := !decide (nt (.nd [48] []) = nt (.nd [48] []))) (by rw [decide_eq_true rfl]; rfl) ?_
    have s80 := s9.trans s10
    have s1x := s18.trans s80
    refine ⟨.ref a, rfl, a, dx, _, rfl, s1x _ _ hat, a, n, rs, digW, rfl, tb1.same s1x, _, rfl, false, false, ?_, rfl, _, rfl, iteFo rfl ?_⟩
    · rw [rowN_some tr, decide_eq_false (nm_dig tr)]
    refine ⟨.ref a, rfl, a, n, digW, rs, rfl, tb1.same s1x, tr, fun H11 s11 => ?_⟩
    rw [cnt_dig tr]
    refine ⟨rfl, _, rfl, iteTo (decide_eq_true rfl) ?_⟩
    refine ⟨.ref a, rfl, a, n, [], rs, rfl, tb1.same (s1x.trans s11), tr, fun H12 s12 => ?_⟩
    rw [cnt_nil tr]
    refine ⟨rfl, ?_⟩
    rw [show decide (V.int ((3 : Nat) : Int) = V.int 3) = true from decide_eq_true rfl]
    exact q _ (s1.trans (s1x.trans (s11.trans s12)))
end
end TW

namespace TW
open PySem PySem.Spec PyProof.Rows L2
/-! ### _law_so, _law_read_so -/
abbrev WhyA : Why → Prop
  | .name n => ∀ c ∈ n, c < 128
  | .tab _ r => ∀ c ∈ r, c < 128
  | _ => True
theorem fltA_asc (bs : List Rw) (r : Rw) : ∀ c ∈ fltA bs r, c < 128 := by
  unfold fltA
  split
  · split
    · decide
    · split
      · decide
      · split
        · decide
        · split
          · exact fun c h => nomatch h
          · decide
  · decide
theorem p1_asc : ∀ {rest bs : List Rw} {z : Nat × List Nat}, p1 bs rest = some z → ∀ c ∈ z.2, c < 128
  | [], _, _, h => by cases h
  | r :: rest, bs, z, h => by
    rw [p1] at h
    split at h
    · exact p1_asc h
    · rw [← Option.some.inj h]
      exact fltA_asc bs r
theorem p2_asc {ks : List (List Nat)} : ∀ {rest : List Rw} {i : Nat} {z : Nat × List Nat}, p2 ks rest i = some z → ∀ c ∈ z.2, c < 128
  | [], _, _, h => by cases h
  | r :: rest, i, z, h => by
    rw [p2] at h
    split at h
    · exact p2_asc h
    · rw [← Option.some.inj h]
      show ∀ c ∈ kinD, c < 128
      decide
theorem p3_asc : ∀ {rest bs : List Rw} {z : Nat × List Nat}, p3 bs rest = some z → ∀ c ∈ z.2, c < 128
  | [], _, _, h => by cases h
  | r :: rest, bs, z, h => by
    rw [p3] at h
    split at h
    · exact p3_asc h
    · rw [← Option.some.inj h]
      show ∀ c ∈ begD, c < 128
      decide
theorem p4_asc {rs : List Rw} : ∀ {rest : List Rw} {i : Nat} {z : Nat × List Nat}, p4 rs rest i = some z → ∀ c ∈ z.2, c < 128
  | [], _, _, h => by cases h
  | r :: rest, i, z, h => by
    rw [p4] at h
    split at h
    · exact p4_asc h
    · rw [← Option.some.inj h]
      show ∀ c ∈ finD, c < 128
      decide
theorem fltT_asc {rs : List Rw} {z : Nat × List Nat} (h : fltT rs = some z) : ∀ c ∈ z.2, c < 128 := by
  unfold fltT at h
  cases e1 : p1 [] rs with
  | some y =>
    rw [e1] at h
    cases h
    exact p1_asc e1
  | none =>
  rw [or_none e1] at h
  cases e2 : p2 (kds rs) rs 0 with
  | some y =>
    rw [e2] at h
    cases h
    exact p2_asc e2
  | none =>
  rw [or_none e2] at h
  cases e3 : p3 [] rs with
  | some y =>
    rw [e3] at h
    cases h
    exact p3_asc e3
  | none =>
  rw [or_none e3] at h
  exact p4_asc h
theorem fltN_asc {n : List Nat} {rs : List Rw} {z : Why} (n7 : ∀ c ∈ n, c < 128) (h : fltN n rs = some z) : WhyA z := by
  unfold fltN at h
  split at h
  · split at h
    · cases e : fltT rs with
      | none => rw [e] at h; cases h
      | some y =>
        rw [e] at h
        cases h
        exact fltT_asc e
    · cases h
      trivial
  · cases h
    exact n7
def whyD : Why → PyData
  | .name n => .tuple [.str (Str.ofString "name"), .str (mk n)]
  | .count k => .tuple [.str (Str.ofString "count"), .int (k : Nat)]
  | .line k => .tuple [.str (Str.ofString "line"), .int (k : Nat)]
  | .tab i r => .tuple [.str (Str.ofString "table"), .int (i : Nat), .str (mk r)]
theorem why_dp {K : PySem.W.Frag} {H : Hp} {a : Addr} : ∀ {z : Why}, H a = some (.tup (whyV z)) → Dp K H (.ref a) (whyD z)
  | .name n, h => .tup (SqT.of h) (.cons (.str _) (.cons (.str _) .nil))
  | .count k, h => .tup (SqT.of h) (.cons (.str _) (.cons (.int _) .nil))
  | .line k, h => .tup (SqT.of h) (.cons (.str _) (.cons (.int _) .nil))
  | .tab i r, h => .tup (SqT.of h) (.cons (.str _) (.cons (.int _) (.cons (.str _) .nil)))
theorem why_sh : ∀ {z : Why}, WhyA z → SeqAt.shaped (whyD z) = true
  | .name n, h => by
    show ((PyData.strOk (Str.ofString "name") && (PyData.strOk (mk n) && true)) && decide (max 0 (max 0 0) + 1 ≤ 64)) = true
    rw [strOk_of h, show PyData.strOk (Str.ofString "name") = true from by decide +kernel]
    rfl
  | .count k, _ => by
    show ((PyData.strOk (Str.ofString "count") && (true && true)) && decide (max 0 (max 0 0) + 1 ≤ 64)) = true
    rw [show PyData.strOk (Str.ofString "count") = true from by decide +kernel]
    rfl
  | .line k, _ => by
    show ((PyData.strOk (Str.ofString "line") && (true && true)) && decide (max 0 (max 0 0) + 1 ≤ 64)) = true
    rw [show PyData.strOk (Str.ofString "line") = true from by decide +kernel]
    rfl
  | .tab i r, h => by
    show ((PyData.strOk (Str.ofString "table") && (true && (PyData.strOk (mk r) && true))) && decide (max 0 (max 0 (max 0 0)) + 1 ≤ 64)) = true
    rw [strOk_of h, show PyData.strOk (Str.ofString "table") = true from by decide +kernel]
    rfl
theorem why_eqv : ∀ z : Why, PyData.eqv (whyD z) (whyD z) = true
  | .name n => by
    show ((Str.ofString "name" == Str.ofString "name") && ((mk n == mk n) && true)) = true
    rw [beq_self_eq_true, beq_self_eq_true]
    rfl
  | .count k => by
    show ((Str.ofString "count" == Str.ofString "count") && ((((k : Nat) : Int) == ((k : Nat) : Int)) && true)) = true
    rw [beq_self_eq_true, beq_self_eq_true]
    rfl
  | .line k => by
    show ((Str.ofString "line" == Str.ofString "line") && ((((k : Nat) : Int) == ((k : Nat) : Int)) && true)) = true
    rw [beq_self_eq_true, beq_self_eq_true]
    rfl
  | .tab i r => by
    show ((Str.ofString "table" == Str.ofString "table") && ((((i : Nat) : Int) == ((i : Nat) : Int)) && ((mk r == mk r) && true))) = true
    rw [beq_self_eq_true, beq_self_eq_true, beq_self_eq_true]
    rfl
/-- all facts of k04 -/
structure A04 (P : Program) (K : PySem.W.Frag) (mg : Str → Option Value) : Prop where
  T : Tx K mg
  Z : Tc K mg
  M : Tk K mg
  N : Tn K mg
  CC : Tg mg
  W : Tw K
  O : To K
  B : Tt K
  RT : Ttr K
  V2 : Til K
  JT : TeT P K mg
  JN : TeN P K mg
  JL : TeB P K mg
  J3 : TeU P K mg
  JX : TeX4 K mg
  I4 : TeI4 K
def sp_lso : Sp := fun vs H Q _ => ∃ (l : Addr) (n : List Nat) (us : List V) (rs : List Rw) (tx : V), vs = [.str (mk n), .ref l, tx] ∧ (∀ c ∈ n, c < 128) ∧ n.length ≤ 1400 ∧ H l = some (.lst us) ∧ All2 (RO H) us rs ∧ rs.length ≤ 1400 ∧ (∀ r ∈ rs, RwS r) ∧
  ((tx = .non ∧ rs.length ≤ 12) ∨ ∃ d, tx = .str (mk d) ∧ (∀ c ∈ d, c < 128) ∧ d.length ≤ 1380 ∧ rdT d = .inr (n, rs)) ∧ ∀ H', Same H H' → Q (.bl true) H'
def sp_readso : Sp := fun vs H Q _ => ∃ d, vs = [.str (mk d)] ∧ (∀ c ∈ d, c < 128) ∧ d.length ≤ 1380 ∧ ∀ H', Same H H' → Q (.bl true) H'
theorem rdL_pos : ∀ {ls : List (List Nat)} {k j : Nat}, rdL ls k = .inl j → k ≤ j
  | [], _, _, h => by cases h
  | l :: r, k, j, h => by
    rw [rdL] at h
    split at h
    · cases h
      exact Nat.le_refl _
    · split at h
      · rename_i e
        cases h
        have := rdL_pos e
        omega
      · cases h
theorem rdT_pos {d : List Nat} {k : Nat} (h : rdT d = .inl k) : 1 ≤ k := by
  unfold rdT at h
  dsimp only at h
  split at h
  · split at h
    · rename_i e
      cases h
      have := rdL_pos e
      omega
    · cases h
  · cases h
    exact Nat.le_refl _
theorem rws_asc {r : Rw} (h : RwS r) : Rasc r := ⟨h.kd.1, h.nm.1, fun w hw => (h.ws w hw).1, h.fm.1⟩
section
variable {P : Program} {w : World} {K : PySem.W.Frag} {mg : Str → Option Value} {base : Heap}
theorem ok_lso (F : A04 P K mg) : FnR P w K mg base CX0 10 (He.ga K "_law_so") sp_lso := by
  obtain ⟨T, Z, M, N, CC, W, O, B, RT, V2, JT, JN, JL, J3, JX, I4⟩ := F
  have G_law_fault : FnR P w K mg base CX0 3 (He.ga K "_law_fault") sp_lfault := ok_lfault T
  have G_law_built : FnR P w K mg base CX0 9 (He.ga K "_law_built") (sp_built K) := ok_built T Z M N CC W O B RT JT JN JL JX
  have G_law_table_good : FnR P w K mg base CX0 6 (He.ga K "_law_table_good") (sp_tgood K) := ok_tgood T Z M N W O B V2 JT J3 JX I4
  refine fnR0 T.d_law_so sc_law_so (fun _ _ _ _ _ _ us hl => match us, hl with | [_, _, _], _ => rfl) (fun vs H Q E h => ?_) (fun cdv A outer s H vs Q E hr h => ?_)
  · obtain ⟨l, n, us, rs, tx, rfl, _⟩ := h
    rfl
  · obtain ⟨l, n, us, rs, tx, rfl, n7, nl, hl, ro, r14, sn, htx, q⟩ := h
    refine ⟨_, (pss_cons (ps_set (i := 3) sc_law_so.nd rfl (.inl rfl) (pe_cr G_law_fault (hr.mono (by omega)) (by rfl) T.v_law_fault T.k_law_fault pass0 (pa_cons (pv 0) (pa_cons (pv 1) pa_nil))))
(pss_cons (ps_set (i := 4) sc_law_so.nd rfl (.inl rfl) (pe_cr G_law_built (hr.mono (by omega)) (by rfl) T.v_law_built T.k_law_built pass0 (pa_cons (pv 0) (pa_cons (pv 1) (pa_cons (pv 2) pa_nil)))))
(pss_cons (ps_if (pt_cmpR op_notN (pv 3) pe_non (nomark _))
(pss_one (ps_ret (pe_and (pe_callB call_isi (by rfl) T.z_isinstance (by decide +kernel) (pa_cons (pv 4) (pa_cons (pe_bltn (v := .ty "tuple") (by rfl) T.z_tuple (by decide +kernel) rfl) pa_nil))) (pe_one (pe_cmpR (op_eqD hr.units) (pv 4) (pv 3) (nomark _))))))
pss_nil)
(pss_one (ps_ret (pe_and (pe_not (pe_callB call_isi (by rfl) T.z_isinstance (by decide +kernel) (pa_cons (pv 4) (pa_cons (pe_bltn (v := .ty "tuple") (by rfl) T.z_tuple (by decide +kernel) rfl) pa_nil)))) (pe_one (pe_cr G_law_table_good (hr.mono (by omega)) (by rfl) T.v_law_table_good T.k_law_table_good pass0 (pa_cons (pv 4) (pa_cons (pv 0) (pa_cons (pv 1) pa_nil))))))))))), ?_⟩
    have built : ∀ (H1 : Hp) (Q' : VK), Same H H1 → OutQ K H1 Q' (outN n rs) → sp_built K [.str (mk n), .ref l, tx] H1 Q' E0 := fun H1 Q' s1 o => by
      refine ⟨l, n, tx, _, rfl, o, ?_⟩
      rcases htx with ⟨rfl, r12⟩ | ⟨d, rfl, d7, dl, ed⟩
      · exact .inl ⟨rfl, us, rs, n7, nl, s1 _ _ hl, ROs.same s1 ro, r12, sn, rfl⟩
      · refine .inr ⟨d, rfl, d7, dl, ?_⟩
        unfold outD
        rw [ed]
    refine ⟨.str (mk n), rfl, .ref l, rfl, l, n, us, rs, rfl, n7, nl, hl, ro, r14, sn, fun H1 s1 => ?_⟩
    cases ef : fltN n rs with
    | some z =>
      intro a ha
      refine ⟨_, rfl, _, rfl, _, rfl, built H1 _ s1 ?_⟩
      unfold outN
      rw [ef]
      intro H2 b s2 hb
      have ha2 := s2 _ _ ha
      have as := fltN_asc n7 ef
      refine ⟨.ref a, rfl, rfl, _, rfl, iteT ?_⟩
      refine ⟨.ref b, rfl, .ref b, .ty "tuple", _, _, _, rfl, .ty _, .base (.tup hb), kit_tt, _, rfl, iteT ?_⟩
      refine ⟨.ref b, rfl, .ref a, rfl, whyD z, whyD z, why_dp hb, why_dp ha2, why_sh as, why_sh as, ?_⟩
      rw [why_eqv]
      exact q _ (s1.trans s2)
    | none =>
      refine ⟨_, rfl, _, rfl, _, rfl, built H1 _ s1 ?_⟩
      unfold outN
      rw [ef]
      intro H2 b s2 tb
      have sm : smallN n = true ∧ (1 ≤ rs.length ∧ rs.length ≤ 10) ∧ fltT rs = none := by
        unfold fltN at ef
        split at ef
        · rename_i h1
          split at ef
          · rename_i h2
            cases e : fltT rs with
            | none => exact ⟨h1, h2, rfl⟩
            | some y => rw [e] at ef; cases ef
          · cases ef
        · cases ef
      obtain ⟨h1, ⟨lo, hi⟩, e⟩ := sm
      have tr := flt_tr lo hi e
      have s02 := s1.trans s2
      obtain ⟨dx, kp, mp, np, lp, ms, L, hat, _⟩ := id tb
      have ins : TyX K H2 (.ref b) (.ref (CTb K)) := .base (.ins hat B.cl V2.tic W.ig W.it V2.tim)
      refine ⟨.non, rfl, rfl, _, rfl, iteFo (ne_same rfl) ?_⟩
      refine ⟨.ref b, rfl, .ref b, .ty "tuple", _, _, _, rfl, .ty _, ins, I4.i_tb_tup, _, rfl, _, rfl, iteTo rfl ?_⟩
      refine ⟨.ref b, rfl, .str (mk n), rfl, .ref l, rfl, b, l, n, us, rs, rfl, tb, tr, s02 _ _ hl, ROs.same s02 ro, fun r hr => rws_asc (sn r hr), ?_, fun H3 s3 => q _ (s02.trans s3)⟩
      have := (smallN_of h1).2.1
      omega
theorem ok_readso (F : A04 P K mg) : FnR P w K mg base CX0 11 (He.ga K "_law_read_so") sp_readso := by
  have G_law_so : FnR P w K mg base CX0 10 (He.ga K "_law_so") sp_lso := ok_lso F
  obtain ⟨T, Z, M, N, CC, W, O, B, RT, V2, JT, JN, JL, J3, JX, I4⟩ := F
  have G_law_lines : FnR P w K mg base CX0 1 (He.ga K "_law_lines") sp_lines := ok_lines T
  have G_law_built : FnR P w K mg base CX0 9 (He.ga K "_law_built") (sp_built K) := ok_built T Z M N CC W O B RT JT JN JL JX
  refine fnR0 T.d_law_read_so sc_law_read_so (fun _ _ _ _ _ _ us hl => match us, hl with | [_], _ => rfl) (fun vs H Q E h => ?_) (fun cdv A outer s H vs Q E hr h => ?_)
  · obtain ⟨d, rfl, _⟩ := h
    rfl
  · obtain ⟨d, rfl, d7, dl, q⟩ := h
    refine ⟨_, (pss_cons (ps_set (i := 1) sc_law_read_so.nd rfl (.inl rfl) (pe_cr G_law_lines (hr.mono (by omega)) (by rfl) T.v_law_lines T.k_law_lines pass0 (pa_cons (pv 0) pa_nil)))
(pss_cons (ps_if (pt_cmpR op_gt (pe_ix (r := rIxT K) ix_tup (pv 1) pe_int (fun _ _ => rfl)) pe_int (nomark _))
(pss_cons (ps_set (i := 2) sc_law_read_so.nd rfl (.inl rfl) (pe_cr G_law_built (hr.mono (by omega)) (by rfl) T.v_law_built T.k_law_built pass0 (pa_cons pe_str (pa_cons (pe_lst pa_nil) (pa_cons (pv 0) pa_nil)))))
(pss_one (ps_ret (pe_and (pe_callB call_isi (by rfl) T.z_isinstance (by decide +kernel) (pa_cons (pv 2) (pa_cons (pe_bltn (v := .ty "tuple") (by rfl) T.z_tuple (by decide +kernel) rfl) pa_nil))) (pe_one (pe_cmpR (op_eqD hr.units) (pv 2) (pe_tup (pa_cons pe_str (pa_cons (pe_ix (r := rIxT K) ix_tup (pv 1) pe_int (fun _ _ => rfl)) pa_nil))) (nomark _)))))))
pss_nil)
(pss_one (ps_ret (pe_cr G_law_so (hr.mono (by omega)) (by rfl) T.v_law_so T.k_law_so pass0 (pa_cons (pe_ix (r := rIxT K) ix_tup (pv 1) pe_int (fun _ _ => rfl)) (pa_cons (pe_ix (r := rIxT K) ix_tup (pv 1) pe_int (fun _ _ => rfl)) (pa_cons (pv 0) pa_nil)))))))), ?_⟩
    refine ⟨.str (mk d), rfl, d, rfl, dl, ?_⟩
    cases er : rdT d with
    | inl k =>
      intro H1 a x l s1 ha hl
      have kp := rdT_pos er
      refine ⟨.ref a, rfl, a, _, 0, _, rfl, rfl, SqT.of ha, rfl, (k : Nat), 0, rfl, rfl, _, rfl, iteTo (decide_eq_true (by omega)) ?_⟩
      refine ⟨Nat.zero_le _, fun g ng => ?_⟩
      have s2 := Same.new (o := .lst []) ng
      refine ⟨.str (mk d), rfl, g, [], .str (mk d), outD d, rfl, ?_, .inr ⟨d, rfl, d7, dl, rfl⟩⟩
      unfold outD
      rw [er]
      intro H3 b s3 hb
      have s13 := s2.trans s3
      have ha3 := s13 _ _ ha
      refine ⟨.ref b, rfl, .ref b, .ty "tuple", _, _, _, rfl, .ty _, .base (.tup hb), kit_tt, _, rfl, iteT ?_⟩
      refine ⟨.ref b, rfl, .ref a, rfl, a, _, 0, _, rfl, rfl, SqT.of ha3, rfl, szle, fun c nc => ?_⟩
      have s4 := Same.new (o := .tup [.str (Str.ofString "line"), .int (k : Nat)]) nc
      refine ⟨whyD (.line k), whyD (.line k), why_dp (s4 _ _ hb), why_dp upd_same, why_sh trivial, why_sh trivial, ?_⟩
      rw [why_eqv]
      exact q _ (s1.trans (s13.trans s4))
    | inr x =>
      obtain ⟨n, rs⟩ := x
      intro H1 a l us s1 ha hl ro
      obtain ⟨n7, nl, rl, sn⟩ := rdT_sane er d7 dl
      refine ⟨.ref a, rfl, a, _, 0, _, rfl, rfl, SqT.of ha, rfl, 0, 0, rfl, rfl, _, rfl, iteFo rfl ?_⟩
      refine ⟨.ref a, rfl, a, _, 1, _, rfl, rfl, SqT.of ha, rfl, .ref a, rfl, a, _, 2, _, rfl, rfl, SqT.of ha, rfl, .str (mk d), rfl, l, n, us, rs, .str (mk d), rfl, n7, by omega, hl, ro, rl, sn, .inr ⟨d, rfl, d7, dl, er⟩, fun H2 s2 => q H2 (s1.trans s2)⟩
end
end TW

namespace TW
open PySem PySem.Spec PyProof.Rows L2
/-! ### _law_spoilt -/
def sp_spoil : Sp := fun vs H Q _ => ∃ (p r : Addr) (d : List Nat), vs = [.ref p, .str (mk d)] ∧ PoolAt H p r ∧ (∀ c ∈ d, c < 128) ∧ d.length ≤ 1378 ∧ ∀ H' e, (∀ c ∈ e, c < 128) → e.length ≤ d.length + 1 → Drew p r H H' → Q (.str (mk e)) H'
section
variable {P : Program} {w : World} {K : PySem.W.Frag} {mg : Str → Option Value} {base : Heap}
theorem ok_spoil (T : Tx K mg) (G_law_draw : FnR P w K mg base CX0 1 (He.ga K "_law_draw") sp_draw) : FnR P w K mg base CX0 3 (He.ga K "_law_spoilt") sp_spoil := by
  have G_law_odd_sign : FnR P w K mg base CX0 2 (He.ga K "_law_odd_sign") sp_oddsign := ok_oddsign T G_law_draw
  refine fnR0 T.d_law_spoilt sc_law_spoilt (fun _ _ _ _ _ _ us hl => match us, hl with | [_, _], _ => rfl) (fun vs H Q E h => ?_) (fun cdv A outer s H vs Q E hr h => ?_)
  · obtain ⟨p, r, d, rfl, _⟩ := h
    rfl
  · obtain ⟨p, r, d, rfl, hP, d7, dl, q⟩ := h
    refine ⟨_, (pss_cons (ps_set (i := 2) sc_law_spoilt.nd rfl (.inl rfl) (pe_cr G_law_draw (hr.mono (by omega)) (by rfl) T.v_law_draw T.k_law_draw pass0 (pa_cons (pv 0) (pa_cons (pe_op op_add (pe_callB call_len (by rfl) T.z_len (by decide +kernel) (pa_cons (pv 1) pa_nil)) pe_int) pa_nil))))
(pss_cons (ps_set (i := 3) sc_law_spoilt.nd rfl (.inl rfl) (pe_cr G_law_draw (hr.mono (by omega)) (by rfl) T.v_law_draw T.k_law_draw pass0 (pa_cons (pv 0) (pa_cons pe_int pa_nil))))
(pss_cons (ps_set (i := 4) sc_law_spoilt.nd rfl (.inl rfl) (pe_cr G_law_odd_sign (hr.mono (by omega)) (by rfl) T.v_law_odd_sign T.k_law_odd_sign pass0 (pa_cons (pv 0) (pa_cons pe_str pa_nil))))
(pss_cons (ps_if (pt_cmpR op_eq (pv 3) pe_int (nomark _))
(pss_one (ps_ret (pe_op op_add_str (pe_op op_add_str (pe_slice sl_str (pv 1) po_none (po_some (pv 2))) (pv 4)) (pe_slice sl_str (pv 1) (po_some (pv 2)) po_none))))
pss_nil)
(pss_cons (ps_if (pt_cmpR op_eq (pv 3) pe_int (nomark _))
(pss_one (ps_ret (pe_op op_add_str (pe_op op_add_str (pe_slice sl_str (pv 1) po_none (po_some (pv 2))) (pv 4)) (pe_slice sl_str (pv 1) (po_some (pe_op op_add (pv 2) pe_int)) po_none))))
pss_nil)
(pss_one (ps_ret (pe_op op_add_str (pe_slice sl_str (pv 1) po_none (po_some (pv 2))) (pe_slice sl_str (pv 1) (po_some (pe_op op_add (pv 2) pe_int)) po_none))))))))), ?_⟩
    have dz : (mk d).length ≤ sizeLine := by
      rw [mk_len]
      exact Nat.le_trans (show d.length ≤ 1400 by omega) szle14
    refine ⟨.ref p, rfl, .str (mk d), rfl, .str (mk d), d.length, rfl, ⟨dz, (mk_len _).symm⟩, ?_⟩
    refine ⟨_, 1, rfl, rfl, p, r, _, rfl, by omega, by omega, hP, fun H1 at_ a0 a1 D1 => ?_⟩
    obtain ⟨an, rfl⟩ := Int.eq_ofNat_of_zero_le a0
    refine ⟨.ref p, rfl, p, r, 3, rfl, by decide, by decide, D1.pool, fun H2 way w0 w3 D2 => ?_⟩
    have D02 := D1.trans D2
    refine ⟨.ref p, rfl, p, r, ("\n :=0123(zA" : Str).cps.toList, rfl, D02.pool, by unfold Pw; decide +kernel, by decide +kernel, fun H3 c c7 D3 => ?_⟩
    have D03 := D02.trans D3
    have tk : (d.take an).length ≤ d.length := by rw [List.length_take]; omega
    have dr : (d.drop an).length ≤ d.length := by rw [List.length_drop]; omega
    have dr1 : (d.drop (an + 1)).length ≤ d.length := by rw [List.length_drop]; omega
    refine ⟨_, rfl, rfl, _, rfl, ite2 (fun e => ?_) (fun e0 => ?_)⟩
    · refine ⟨_, rfl, .int (an : Int), rfl, (an : Int), rfl, mk d, rfl, dz, ?_⟩
      rw [cutS_to]
      refine ⟨_, rfl, mk (d.take an), mk [c], rfl, rfl, by rw [mk_len, mk_len]; exact Nat.le_trans (show (d.take an).length + 1 ≤ 3000 by omega) (by decide), ?_⟩
      rw [mk_app]
      refine ⟨_, rfl, .int (an : Int), rfl, (an : Int), rfl, mk d, rfl, dz, ?_⟩
      rw [cutS_fr]
      refine ⟨mk (d.take an ++ [c]), mk (d.drop an), rfl, rfl, by rw [mk_len, mk_len, List.length_append]; exact Nat.le_trans (show (d.take an).length + 1 + (d.drop an).length ≤ 3000 by omega) (by decide), ?_⟩
      rw [mk_app]
      refine q _ _ (fun x hx => ?_) ?_ D03
      · rcases List.mem_append.mp hx with hx | hx
        · rcases List.mem_append.mp hx with hx | hx
          · exact d7 x (List.mem_of_mem_take hx)
          · rw [List.mem_singleton.mp hx]
            exact c7
        · exact d7 x (List.mem_of_mem_drop hx)
      · rw [List.length_append, List.length_append, List.length_take, List.length_drop]
        show min an d.length + 1 + (d.length - an) ≤ _
        omega
    refine ⟨_, rfl, rfl, _, rfl, ite2 (fun e => ?_) (fun e1 => ?_)⟩
    · refine ⟨_, rfl, .int (an : Int), rfl, (an : Int), rfl, mk d, rfl, dz, ?_⟩
      rw [cutS_to]
      refine ⟨_, rfl, mk (d.take an), mk [c], rfl, rfl, by rw [mk_len, mk_len]; exact Nat.le_trans (show (d.take an).length + 1 ≤ 3000 by omega) (by decide), ?_⟩
      rw [mk_app]
      refine ⟨_, rfl, .int (an : Int), rfl, (an : Int), 1, rfl, rfl, (an : Int) + 1, rfl, mk d, rfl, dz, ?_⟩
      rw [show (an : Int) + 1 = ((an + 1 : Nat) : Int) by omega, cutS_fr]
      refine ⟨mk (d.take an ++ [c]), mk (d.drop (an + 1)), rfl, rfl, by rw [mk_len, mk_len, List.length_append]; exact Nat.le_trans (show (d.take an).length + 1 + (d.drop (an + 1)).length ≤ 3000 by omega) (by decide), ?_⟩
      rw [mk_app]
      refine q _ _ (fun x hx => ?_) ?_ D03
      · rcases List.mem_append.mp hx with hx | hx
        · rcases List.mem_append.mp hx with hx | hx
          · exact d7 x (List.mem_of_mem_take hx)
          · rw [List.mem_singleton.mp hx]
            exact c7
        · exact d7 x (List.mem_of_mem_drop hx)
      · rw [List.length_append, List.length_append, List.length_take, List.length_drop]
        show min an d.length + 1 + (d.length - (an + 1)) ≤ _
        omega
    refine ⟨_, rfl, .int (an : Int), rfl, (an : Int), rfl, mk d, rfl, dz, ?_⟩
    rw [cutS_to]
    refine ⟨_, rfl, .int (an : Int), rfl, (an : Int), 1, rfl, rfl, (an : Int) + 1, rfl, mk d, rfl, dz, ?_⟩
    rw [show (an : Int) + 1 = ((an + 1 : Nat) : Int) by omega, cutS_fr]
    refine ⟨mk (d.take an), mk (d.drop (an + 1)), rfl, rfl, by rw [mk_len, mk_len]; exact Nat.le_trans (show (d.take an).length + (d.drop (an + 1)).length ≤ 3000 by omega) (by decide), ?_⟩
    rw [mk_app]
    refine q _ _ (fun x hx => ?_) ?_ D03
    · rcases List.mem_append.mp hx with hx | hx
      · exact d7 x (List.mem_of_mem_take hx)
      · exact d7 x (List.mem_of_mem_drop hx)
    · rw [List.length_append, List.length_take, List.length_drop]
      omega
end
end TW

namespace TW
open PySem PySem.Spec PyProof.Rows L2
/-! ### right rows have no fault: plain -/
theorem fmB_of {f : List Nat} {ws : List (List Nat)} (h : FmOk f ws) : fmB f ws = true := by
  unfold fmB
  rw [Nat.ble_eq_true_of_le h.lo, Nat.ble_eq_true_of_le h.hi, List.all_eq_true.mpr fun c hc => decide_eq_true (List.mem_append.mpr (h.signs c hc)), List.all_eq_true.mpr fun p hp => decide_eq_true (h.once p hp)]
  cases f with
  | nil => exact absurd h.lo (by decide)
  | cons c r =>
    show (true && (true && (true && (true && (!decide (c ∈ plc ws.length) || decide (ws[c - 49]? = some digW)))))) = true
    by_cases hc : c ∈ plc ws.length
    · rw [decide_eq_true (h.first c r rfl hc), Bool.or_true]
      rfl
    · rw [decide_eq_false hc]
      rfl
theorem fltA_of {bs : List Rw} {r : Rw} (h : RwOk bs r) : fltA bs r = [] := by
  unfold fltA
  rw [if_pos (List.all_eq_true.mpr fun x hx => ?_), if_neg (fun z => ?_), if_neg h.new, if_neg (fun z => ?_), if_pos (fmB_of h.fm)]
  · rcases z with z | z
    · have := h.fm.wl
      omega
    · have := h.trees
      omega
  · rcases h.few with y | y
    · exact z.1 y
    · exact y z.2
  · rcases List.mem_cons.mp hx with rfl | hx
    · exact h.kd
    rcases List.mem_cons.mp hx with rfl | hx
    · exact h.nm
    obtain ⟨h1, h2⟩ := List.mem_filter.mp hx
    exact h.ws x h1 (of_decide_eq_true h2)
theorem p1_of : ∀ {rest bs : List Rw}, (∀ (i : Nat) (r : Rw), rest[i]? = some r → RwOk (bs ++ rest.take i) r) → p1 bs rest = none
  | [], _, _ => rfl
  | r :: rest, bs, h => by
    have h0 := h 0 r rfl
    rw [List.take_zero, List.append_nil] at h0
    rw [p1, if_pos (fltA_of h0)]
    refine p1_of fun i x e => ?_
    have := h (i + 1) x e
    rw [List.append_assoc]
    exact this
theorem p2_of {ks : List (List Nat)} : ∀ {rest : List Rw} {i : Nat}, (∀ r ∈ rest, ∀ w ∈ r.ws, w = digW ∨ w ∈ ks) → p2 ks rest i = none
  | [], _, _ => rfl
  | r :: rest, i, h => by
    rw [p2, if_pos (h r List.mem_cons_self)]
    exact p2_of fun x hx => h x (List.mem_cons_of_mem _ hx)
theorem p3_of : ∀ {rest bs : List Rw}, (∀ (j : Nat) (r : Rw), rest[j]? = some r → ∀ r' ∈ bs ++ rest.take j, r'.kd = r.kd → stW r' ≠ stW r) → p3 bs rest = none
  | [], _, _ => rfl
  | r :: rest, bs, h => by
    have h0 := h 0 r rfl
    rw [List.take_zero, List.append_nil] at h0
    rw [p3, if_pos h0]
    refine p3_of fun i x e r' hr' => ?_
    rw [List.append_assoc] at hr'
    exact h (i + 1) x e r' hr'
theorem p4_of {rs : List Rw} : ∀ {rest : List Rw} {i : Nat}, (∀ r ∈ rest, ∃ t, Drv rs r.kd t) → p4 rs rest i = none
  | [], _, _ => rfl
  | r :: rest, i, h => by
    rw [p4, if_pos (h r List.mem_cons_self)]
    exact p4_of fun x hx => h x (List.mem_cons_of_mem _ hx)
theorem gr_drv {rs : List Rw} (g : Gr rs) : ∀ k ∈ kds rs, ∃ t, Drv rs k t := by
  obtain ⟨rank, g⟩ := g
  have key : ∀ n k, rank k < n → k ∈ kds rs → ∃ t, Drv rs k t := by
    intro n
    induction n with
    | zero => intro k h; exact absurd h (Nat.not_lt_zero _)
    | succ n ih =>
      intro k hn hk
      obtain ⟨r, hr, rfl, h⟩ := g k hk
      have kk : ∀ ws : List (List Nat), (∀ v ∈ ws, ∃ t, Drv rs v t) → ∃ ts : List Tr, ts.length = ws.length ∧ ∀ (i : Nat) (w : List Nat) (t : Tr), ws[i]? = some w → ts[i]? = some t → Drv rs w t := by
        intro ws
        induction ws with
        | nil => exact fun _ => ⟨[], rfl, fun i w t e => by simp at e⟩
        | cons v ws ihw =>
          intro hv
          obtain ⟨ts, l, d⟩ := ihw fun x hx => hv x (List.mem_cons_of_mem _ hx)
          obtain ⟨t, dt⟩ := hv v List.mem_cons_self
          refine ⟨t :: ts, congrArg Nat.succ l, fun i w' t' e1 e2 => ?_⟩
          cases i with
          | zero =>
            cases Option.some.inj e1
            cases Option.some.inj e2
            exact dt
          | succ i => exact d i w' t' e1 e2
      obtain ⟨ts, l, d⟩ := kk r.ws fun v hv => by
        rcases h v hv with e | ⟨e1, e2⟩
        · rw [e]
          exact ⟨_, .dig⟩
        · exact ih v (by omega) e1
      exact ⟨_, .row r ts hr l d⟩
  exact fun k hk => key _ k (Nat.lt_succ_self _) hk
theorem tr_flt {rs : List Rw} (tr : TR rs) : fltT rs = none := by
  unfold fltT
  rw [or_none (p1_of fun i r e => by rw [List.nil_append]; exact tr.rows i r e), or_none (p2_of tr.wk), or_none (p3_of fun j r e r' hr' => ?_)]
  · exact p4_of fun r hr => gr_drv tr.gr r.kd (kds_mem hr)
  · rw [List.nil_append] at hr'
    obtain ⟨i, ei⟩ := List.mem_iff_getElem?.mp hr'
    rw [List.getElem?_take] at ei
    by_cases ij : i < j
    · rw [if_pos ij] at ei
      exact tr.starts i j r' r ij ei e
    · rw [if_neg ij] at ei
      cases ei
theorem fltN_of {n : List Nat} {rs : List Rw} (sm : smallN n = true) (tr : TR rs) : fltN n rs = none := by
  unfold fltN
  rw [if_pos sm, if_pos ⟨tr.lo, tr.hi⟩, tr_flt tr]
  rfl
/-! ### a description reads back -/
theorem jc_mem {c : Nat} : ∀ {ls : List (List Nat)} {x : Nat}, x ∈ jc c ls → x = c ∨ ∃ l ∈ ls, x ∈ l
  | [], _, h => by cases h
  | [p], x, h => .inr ⟨p, List.mem_cons_self, h⟩
  | p :: q :: r, x, h => by
    rw [jc] at h
    rcases List.mem_append.mp h with h | h
    · exact .inr ⟨p, List.mem_cons_self, h⟩
    · rcases List.mem_cons.mp h with h | h
      · exact .inl h
      · rcases jc_mem h with z | ⟨l, hl, hx⟩
        · exact .inl z
        · exact .inr ⟨l, List.mem_cons_of_mem _ hl, hx⟩
/-- a word of a line -/
def Wd (w : List Nat) : Prop := w ≠ [] ∧ ∀ c ∈ w, c ≠ 10 ∧ c ≠ 32
theorem big_wd {n : List Nat} (h : bigN n = true) : Wd n := by
  refine ⟨big_ne h, fun c hc => ?_⟩
  have := name_sign (ks := []) (bigN_wf h (Nat.zero_le _) (by rw [wfs])) c hc
  omega
theorem fm_wd {f : List Nat} {ws : List (List Nat)} (h : FmOk f ws) : Wd f := by
  refine ⟨fun z => ?_, fun c hc => ?_⟩
  · have := h.lo
    rw [z] at this
    cases this
  · rcases h.signs c hc with z | z
    · have : ∀ c ∈ fsS.cps.toList, c ≠ 10 ∧ c ≠ 32 := by decide +kernel
      exact this c z
    · have := plc_sub z
      omega
theorem small_wd {n : List Nat} (h : smallN n = true) : Wd n := by
  obtain ⟨h1, _, _, _, h5⟩ := smallN_of h
  refine ⟨h1, fun c hc => ?_⟩
  have := h5 c hc
  unfold lowC digC at this
  rcases Bool.or_eq_true_iff.mp this with z | z
  · have := Nat.le_of_ble_eq_true (Bool.and_eq_true_iff.mp z).1
    omega
  · have := Nat.le_of_ble_eq_true (Bool.and_eq_true_iff.mp z).1
    omega
theorem row_wd {bs : List Rw} {r : Rw} (h : RwOk bs r) : ∀ l ∈ lineL r, Wd l := fun l hl => by
  rcases List.mem_cons.mp hl with rfl | hl
  · obtain ⟨h1, h2⟩ := big_wd h.kd
    refine ⟨fun z => h1 (List.append_eq_nil_iff.mp z).1, fun c hc => ?_⟩
    rcases List.mem_append.mp hc with hc | hc
    · exact h2 c hc
    · rw [List.mem_singleton.mp hc]
      decide
  rcases List.mem_cons.mp hl with rfl | hl
  · exact big_wd h.nm
  rcases List.mem_append.mp hl with hl | hl
  · by_cases e : l = digW
    · rw [e]
      unfold Wd
      decide
    · exact big_wd (h.ws l hl e)
  rcases List.mem_cons.mp hl with rfl | hl
  · unfold Wd
    decide
  rcases List.mem_cons.mp hl with rfl | hl
  · exact fm_wd h.fm
  · cases hl
theorem rowF_ln {bs : List Rw} {r : Rw} (h : RwOk bs r) : rowF (spl 32 (ln r)) = some r := by
  have w := row_wd h
  rw [spl_of (by decide) (List.cons_ne_nil _ _) fun l hl z => ((w l hl).2 32 z).2 rfl]
  show rowF ((r.kd ++ [58]) :: r.nm :: (r.ws ++ [[61], r.fm])) = some r
  rw [rowF_at, if_pos ⟨fun z => (w [] z).1 rfl, by rw [List.getLast?_concat], rfl⟩, List.dropLast_concat]
theorem rdL_lns : ∀ {rs : List Rw} {k : Nat}, (∀ r ∈ rs, ∃ bs, RwOk bs r) → rdL (rs.map ln) k = .inr rs
  | [], _, _ => rfl
  | r :: rs, k, h => by
    obtain ⟨bs, hr⟩ := h r List.mem_cons_self
    rw [List.map_cons, rdL, rowF_ln hr]
    dsimp only
    rw [rdL_lns fun x hx => h x (List.mem_cons_of_mem _ hx)]
theorem rdT_dsc {n : List Nat} {rs : List Rw} (wn : Wd n) (h : ∀ r ∈ rs, ∃ bs, RwOk bs r) : rdT (dsc n rs) = .inr (n, rs) := by
  have no10 : ∀ l ∈ dscL n rs, 10 ∉ l := fun l hl z => by
    rcases List.mem_cons.mp hl with rfl | hl
    · rcases List.mem_append.mp z with z | z
      · revert z
        decide
      · exact (wn.2 10 z).1 rfl
    · obtain ⟨r, hr, rfl⟩ := List.mem_map.mp hl
      obtain ⟨bs, hb⟩ := h r hr
      rcases jc_mem z with z | ⟨l, hl, hx⟩
      · cases z
      · exact (row_wd hb l hl).2 10 hx |>.1 rfl
  have e1 : spl 10 (dsc n rs) = dscL n rs := spl_of (by decide) (List.cons_ne_nil _ _) no10
  have e2 : spl 32 (tabL ++ n) = [tabW, n] := by
    refine spl_of (c := 32) (ls := [tabW, n]) (by decide) (List.cons_ne_nil _ _) fun l hl z => ?_
    rcases List.mem_cons.mp hl with rfl | hl
    · revert z
      decide
    · rw [List.mem_singleton.mp hl] at z
      exact (wn.2 32 z).2 rfl
  unfold rdT
  dsimp only
  rw [e1]
  show (if headOk (spl 32 (tabL ++ n)) = true then match rdL (rs.map ln) 2 with
    | .inl k => .inl k
    | .inr rs => .inr ((spl 32 (tabL ++ n)).getD 1 [], rs)
  else Sum.inl 1 : Sum Nat (List Nat × List Rw)) = _
  rw [e2, if_pos (show headOk [tabW, n] = true from by
    unfold headOk
    rw [show decide (([tabW, n] : List (List Nat)).getD 1 [] ≠ []) = true from decide_eq_true wn.1]
    rfl), rdL_lns h]
  rfl
theorem TR.rok {rs : List Rw} (tr : TR rs) : ∀ r ∈ rs, ∃ bs, RwOk bs r := fun r hr => by
  obtain ⟨j, er⟩ := List.mem_iff_getElem?.mp hr
  exact ⟨_, tr.rows j r er⟩
/-! ### the other table -/
def spareR : Rw := ⟨[75], [81, 57], [], [122]⟩
theorem spare_ok : RwOk [] spareR := fltA_ok (by decide +kernel)
theorem spare_tr : TR [spareR] := by
  refine ⟨by decide, by decide, fun i r e => ?_, by decide +kernel, fun r hr w hw => ?_, fun i j r r' ij ei ej => ?_, ⟨fun _ => 0, fun k hk => ⟨spareR, List.mem_cons_self, ?_, fun w hw => nomatch hw⟩⟩⟩
  · cases i with
    | zero =>
      cases Option.some.inj e
      exact spare_ok
    | succ i => simp at e
  · rw [List.mem_singleton.mp hr] at hw
    cases hw
  · cases j with
    | zero => exact absurd ij (Nat.not_lt_zero _)
    | succ j => simp at ej
  · have : kds [spareR] = [[75]] := by decide +kernel
    rw [this] at hk
    exact (List.mem_singleton.mp hk).symm
theorem dsc_spare (n : List Nat) : mk (dsc n [spareR]) = mk tabL ++ mk n ++ Str.ofString "\nK: Q9 = z" := by
  rw [mk_app]
  show _ = mk (tabL ++ n) ++ mk [10, 75, 58, 32, 81, 57, 32, 61, 32, 122]
  rw [mk_app]
  rfl
end TW

namespace TW
open PySem PySem.Spec PyProof.Rows L2
/-! ### _law_equal -/
structure TeE4 (K : PySem.W.Frag) : Prop where
  most_rows : ∃ u, ClX.CVal K (CTb K) (.type "type") "MOST_ROWS" (.int 10) u
def sp_leq : Sp := fun vs H Q _ => ∃ (l : Addr) (n : List Nat) (us : List V) (rs : List Rw), vs = [.str (mk n), .ref l] ∧ smallN n = true ∧ H l = some (.lst us) ∧ All2 (RO H) us rs ∧ TR rs ∧ ∀ H', Same H H' → Q (.bl true) H'
theorem row_rws {bs : List Rw} {r : Rw} (h : RwOk bs r) (wk : ∀ w ∈ r.ws, w = digW ∨ bigN w = true) : RwS r := by
  have b : ∀ {n : List Nat}, bigN n = true → (∀ c ∈ n, c < 128) ∧ n.length ≤ 1400 := fun h => ⟨name_ascii (.inl h), Nat.le_trans (bigN_len h) (by decide)⟩
  refine ⟨b h.kd, b h.nm, ⟨fm_lt h.fm, Nat.le_trans h.fm.hi (by decide)⟩, fun w hw => ?_, Nat.le_trans h.fm.wl (by decide)⟩
  rcases wk w hw with e | e
  · rw [e]
    decide
  · exact b e
theorem TR.rws {rs : List Rw} (tr : TR rs) : ∀ r ∈ rs, RwS r := fun r hr => by
  obtain ⟨bs, h⟩ := tr.rok r hr
  refine row_rws h fun w hw => ?_
  by_cases e : w = digW
  · exact .inl e
  · exact .inr (h.ws w hw e)
theorem ln_small {r : Rw} (h : Sm r) : (TW.ln r).length ≤ 100 := h.ln
theorem dsc_small {n : List Nat} {rs : List Rw} (hn : n.length ≤ 8) (tr : TR rs) : (dsc n rs).length ≤ 1380 := by
  have h1 := jc_sum (B := 100) (rs.map TW.ln) fun l hl => by
    obtain ⟨r, hr', rfl⟩ := List.mem_map.mp hl
    exact (tr.sms r hr').ln
  have h2 := jc_len 10 (dscL n rs)
  have e : (((dscL n rs).map mk).map (fun x : Str => x.length)).sum = 6 + n.length + (((rs.map TW.ln).map mk).map (fun x : Str => x.length)).sum := by
    show ((((tabL ++ n) :: rs.map TW.ln).map mk).map (fun x : Str => x.length)).sum = _
    simp [mk_len]
    omega
  have e2 : (dscL n rs).length = rs.length + 1 := by
    show ((tabL ++ n) :: rs.map TW.ln).length = _
    rw [List.length_cons, List.length_map]
  rw [List.length_map] at h1
  have h3 : rs.length * 100 ≤ 10 * 100 := Nat.mul_le_mul_right 100 tr.hi
  show (jc 10 (dscL n rs)).length ≤ 1380
  omega
theorem dsc_asc {n : List Nat} {rs : List Rw} (hn : ∀ c ∈ n, c < 128) (h : ∀ r ∈ rs, Rasc r) : ∀ c ∈ dsc n rs, c < 128 := fun c hc => by
  rcases jc_mem hc with z | ⟨l, hl, hx⟩
  · omega
  rcases List.mem_cons.mp hl with rfl | hl
  · rcases List.mem_append.mp hx with z | z
    · have : ∀ c ∈ tabL, c < 128 := by decide
      exact this c z
    · exact hn c z
  obtain ⟨r, hr, rfl⟩ := List.mem_map.mp hl
  have ra := h r hr
  rcases jc_mem hx with z | ⟨l, hl, hx⟩
  · omega
  rcases List.mem_cons.mp hl with rfl | hl
  · rcases List.mem_append.mp hx with z | z
    · exact ra.kd c z
    · rw [List.mem_singleton.mp z]
      decide
  rcases List.mem_cons.mp hl with rfl | hl
  · exact ra.nm c hx
  rcases List.mem_append.mp hl with hl | hl
  · exact ra.ws l hl c hx
  rcases List.mem_cons.mp hl with rfl | hl
  · rw [List.mem_singleton.mp hx]
    decide
  rcases List.mem_cons.mp hl with rfl | hl
  · exact ra.fm c hx
  · cases hl
theorem small_asc {n : List Nat} (h : smallN n = true) : ∀ c ∈ n, c < 128 := fun c hc => by
  obtain ⟨_, _, _, _, h5⟩ := smallN_of h
  have := h5 c hc
  unfold lowC digC at this
  rcases Bool.or_eq_true_iff.mp this with z | z
  · have := Nat.le_of_ble_eq_true (Bool.and_eq_true_iff.mp z).2
    omega
  · have := Nat.le_of_ble_eq_true (Bool.and_eq_true_iff.mp z).2
    omega
theorem cmp_ok {K : PySem.W.Frag} {H : Hp} {Q : VK} {E : XK} {a b : Addr} {n m : List Nat} {rs us : List Rw} (ta : TbO K H a n rs) (tb : TbO K H b m us) (q : Q (.bl (decide (dsc n rs = dsc m us))) H) : rCmpT (CTb K) (sp_teq K) E (.ref a) (.ref b) H Q := by
  obtain ⟨dx, kp, mp, np, lp, ms, L, ha, _⟩ := id ta
  obtain ⟨dx', kp', mp', np', lp', ms', L', hb, _⟩ := id tb
  exact ⟨a, dx, _, b, dx', _, rfl, rfl, ha, hb, a, b, n, m, rs, us, rfl, ta, tb, q⟩
section
variable {P : Program} {w : World} {K : PySem.W.Frag} {mg : Str → Option Value} {base : Heap}
theorem ok_leq (F : A04 P K mg) (E4 : TeE4 K) : FnR P w K mg base CX0 9 (He.ga K "_law_equal") sp_leq := by
  obtain ⟨T, Z, M, N, CC, W, O, B, RT, V2, JT, JN, JL, J3, JX, I4⟩ := F
  have G_law_described : FnR P w K mg base CX0 1 (He.ga K "_law_described") sp_desc := ok_desc T
  have G_law_table : FnR P w K mg base (L2.CX P w) 8 (He.ga K "_law_table") (sp_ltable K) := ok_ltable T Z M N CC W O B JT JN
  have G_tread : FnR P w K mg base (L2.CX P w) 8 (gTR K) (sp_tread K) := ok_tread T Z M N CC W O B RT JT JN JL
  have G_teq : FnR P w K mg base CX0 1 (mTb K "__eq__") (sp_teq K) := ok_teq T N B W V2
  refine fnR0 T.d_law_equal sc_law_equal (fun _ _ _ _ _ _ us hl => match us, hl with | [_, _], _ => rfl) (fun vs H Q E h => ?_) (fun cdv A outer s H vs Q E hr h => ?_)
  · obtain ⟨l, n, us, rs, rfl, _⟩ := h
    rfl
  · obtain ⟨l, n, us, rs, rfl, sm, hl, ro, tr, q⟩ := h
    refine ⟨_, (pss_cons (ps_set (i := 2) sc_law_equal.nd rfl (.inl rfl) (pe_cr G_law_described (hr.mono (by omega)) (by rfl) T.v_law_described T.k_law_described pass0 (pa_cons (pv 0) (pa_cons (pv 1) pa_nil))))
(pss_cons (ps_set (i := 3) sc_law_equal.nd rfl (.inl rfl) (pe_ix (r := rIxL K) ix_list (pe_lst (pa_cons pe_str (pa_cons pe_str pa_nil))) (pe_callTy call_int1 (by rfl) T.z_int (by decide +kernel) (pa_cons (pe_cmpR op_eq (pv 0) pe_str (nomark _)) pa_nil)) (fun _ _ => rfl)))
(pss_cons (ps_set (i := 4) sc_law_equal.nd rfl (.inl rfl) (pe_cr G_law_table (hr.mono (by omega)) (by rfl) T.v_law_table T.k_law_table (E := E0) passE0 (pa_cons (pv 0) (pa_cons (pv 1) pa_nil))))
(pss_cons (ps_if (PW.pt (pw_or (pt_not (pt_cmpR (op_cmpT (op := .Eq) (fun _ _ => rfl) V2.at_teq V2.fn_teq G_teq (hr.mono (by omega)) (E := E0) pass0) (pv 4) (ClX.pe_cmeth (pe_glob (v := .ref (CTb K)) (by rfl) N.v_Table rfl) RT.rd RT.met G_tread (hr.mono (by omega)) (E := E0) passE0 (pa_cons (pv 2) pa_nil)) (nomark _))) (pw_or1 (pt_not (pt_cmpR (op_cmpT (op := .Eq) (fun _ _ => rfl) V2.at_teq V2.fn_teq G_teq (hr.mono (by omega)) (E := E0) pass0) (ClX.pe_cmeth (pe_glob (v := .ref (CTb K)) (by rfl) N.v_Table rfl) RT.rd RT.met G_tread (hr.mono (by omega)) (E := E0) passE0 (pa_cons (pv 2) pa_nil)) (pv 4) (nomark _))))))
(pss_one (ps_ret pe_bl))
pss_nil)
(pss_cons (ps_if (pt_cmpR (op_cmpT (op := .Eq) (fun _ _ => rfl) V2.at_teq V2.fn_teq G_teq (hr.mono (by omega)) (E := E0) pass0) (pv 4) (ClX.pe_cmeth (pe_glob (v := .ref (CTb K)) (by rfl) N.v_Table rfl) RT.rd RT.met G_tread (hr.mono (by omega)) (E := E0) passE0 (pa_cons (pe_cr G_law_described (hr.mono (by omega)) (by rfl) T.v_law_described T.k_law_described pass0 (pa_cons (pv 3) (pa_cons (pv 1) pa_nil))) pa_nil)) (nomark _))
(pss_one (ps_ret pe_bl))
pss_nil)
(pss_cons (ps_set (i := 5) sc_law_equal.nd rfl (.inl rfl) (pe_op op_add_str (pe_op op_add_str pe_str (pv 0)) pe_str))
(pss_cons (ps_if (pt_cmpR op_ne (pe_cmpR (op_cmpT (op := .Eq) (fun _ _ => rfl) V2.at_teq V2.fn_teq G_teq (hr.mono (by omega)) (E := E0) pass0) (pv 4) (ClX.pe_cmeth (pe_glob (v := .ref (CTb K)) (by rfl) N.v_Table rfl) RT.rd RT.met G_tread (hr.mono (by omega)) (E := E0) passE0 (pa_cons (pv 5) pa_nil)) (nomark _)) (pe_cmpR op_eq (pv 2) (pv 5) (nomark _)) (nomark _))
(pss_one (ps_ret pe_bl))
pss_nil)
(pss_one (ps_ret (pe_and (pe_cmpR op_eq (ClX.pe_cval (pe_glob (v := .ref (CTb K)) (by rfl) N.v_Table rfl)) pe_int (nomark _)) (pe_one (pe_cmpR op_eq (ClX.pe_cval (pe_glob (v := .ref (CTb K)) (by rfl) N.v_Table rfl)) pe_int (nomark _))))))))))))), ?_⟩
    have n8 := (smallN_of sm).2.1
    have n7 := small_asc sm
    have wn := small_wd sm
    have ra : ∀ r ∈ rs, Rasc r := fun r hr => rws_asc (tr.rws r hr)
    have hi := tr.hi
    refine ⟨.str (mk n), rfl, .ref l, rfl, n, l, us, rs, rfl, by omega, hl, ro, by omega, tr.sms, fun H1 s1 => ?_⟩
    obtain ⟨d, ed⟩ : ∃ d, d = dsc n rs := ⟨_, rfl⟩
    have d7 : ∀ c ∈ d, c < 128 := by rw [ed]; exact dsc_asc n7 ra
    have dl : d.length ≤ 1380 := by rw [ed]; exact dsc_small n8 tr
    have rd : rdT d = .inr (n, rs) := by rw [ed]; exact rdT_dsc wn tr.rok
    rw [← ed]
    obtain ⟨ot, eot⟩ : ∃ ot : List Nat, ot = if n = [116] then [117] else [116] := ⟨_, rfl⟩
    have sot : smallN ot = true := by
      rw [eot]
      split <;> decide
    have nn : ot ≠ n := fun z => by
      rw [eot] at z
      by_cases e : n = [116]
      · rw [if_pos e, e] at z
        cases z
      · rw [if_neg e] at z
        exact e z.symm
    refine ⟨szle, fun o no => ?_⟩
    have s2 := s1.trans (Same.new (o := .lst [.str (Str.ofString "t"), .str (Str.ofString "u")]) no)
    have eo : upd H1 o (.lst [.str (Str.ofString "t"), .str (Str.ofString "u")]) o = some (.lst [.str (Str.ofString "t"), .str (Str.ofString "u")]) := upd_same
    generalize upd H1 o (.lst [.str (Str.ofString "t"), .str (Str.ofString "u")]) = H2 at s2 eo
    refine ⟨.str (mk n), rfl, rfl, .inr ⟨_, rfl, o, _, _, .str (mk ot), rfl, rfl, SqL.of eo, ?_, ?_⟩⟩
    · rw [eot]
      by_cases e : n = [116]
      · rw [if_pos e, e]
        rfl
      · rw [if_neg e, decide_eq_false (p := V.str (mk n) = V.str (Str.ofString "t")) (fun z => e (mk_inj (m := [116]) (V.str.inj z)))]
        rfl
    have fn := fltN_of sm tr
    refine ⟨.str (mk n), rfl, .ref l, rfl, l, n, us, rs, rfl, n7, by omega, s2 _ _ hl, ROs.same s2 ro, by omega, tr.rws, ?_⟩
    unfold TabQ
    rw [fn]
    intro H3 a s3 _ ta
    have s03 := s2.trans s3
    refine ⟨.ref a, rfl, rfl, .str (mk d), rfl, d, rfl, d7, dl, ?_⟩
    rw [rd]
    show (match fltN n rs with
      | some w => WhyE K H3 _ w
      | none => _)
    rw [fn]
    intro H4 b s4 _ tb
    have s04 := s03.trans s4
    refine cmp_ok (ta.same s4) tb ?_
    refine ⟨_, rfl, iteFo (b := !decide (dsc n rs = dsc n rs)) (by rw [decide_eq_true rfl]; rfl) ?_⟩
    refine ⟨rfl, .str (mk d), rfl, d, rfl, d7, dl, ?_⟩
    rw [rd]
    show (match fltN n rs with
      | some w => WhyE K H4 _ w
      | none => _)
    rw [fn]
    intro H5 c s5 _ tc
    have s05 := s04.trans s5
    refine ⟨.ref a, rfl, ?_⟩
    refine cmp_ok tc (ta.same (s4.trans s5)) ?_
    refine ⟨_, rfl, iteFo (b := !decide (dsc n rs = dsc n rs)) (by rw [decide_eq_true rfl]; rfl) ?_⟩
    refine ⟨.ref a, rfl, rfl, .str (mk ot), rfl, .ref l, rfl, ot, l, us, rs, rfl, by have := (smallN_of sot).2.1; omega, s05 _ _ hl, ROs.same s05 ro, by omega, tr.sms, fun H6 s6 => ?_⟩
    have s06 := s05.trans s6
    refine ⟨_, rfl, dsc_asc (small_asc sot) ra, dsc_small (smallN_of sot).2.1 tr, ?_⟩
    rw [rdT_dsc (small_wd sot) tr.rok]
    show (match fltN ot rs with
      | some w => WhyE K H6 _ w
      | none => _)
    rw [fltN_of sot tr]
    intro H7 e s7 _ te
    have s07 := s06.trans s7
    have ta7 := ta.same (s4.trans (s5.trans (s6.trans s7)))
    have dne : dsc n rs ≠ dsc ot rs := fun z => by
      have h1 := rdT_dsc wn tr.rok
      rw [z, rdT_dsc (small_wd sot) tr.rok] at h1
      exact nn (Prod.mk.inj (Sum.inr.inj h1)).1
    refine cmp_ok ta7 te ?_
    refine ⟨_, rfl, iteFo (decide_eq_false dne) ?_⟩
    obtain ⟨sp, esp⟩ : ∃ sp, sp = dsc n [spareR] := ⟨_, rfl⟩
    refine ⟨.str (mk n), rfl, mk tabL, mk n, rfl, rfl, ?_, mk tabL ++ mk n, Str.ofString "\nK: Q9 = z", rfl, rfl, ?_, ?_⟩
    · rw [mk_len, mk_len]
      exact Nat.le_trans (show 6 + n.length ≤ 1000 by omega) szle
    · rw [mk_app, mk_len, List.length_append]
      exact Nat.le_trans (show 6 + n.length + 10 ≤ 1000 by omega) szle
    rw [← dsc_spare, ← esp]
    refine ⟨.ref a, rfl, rfl, .str (mk sp), rfl, sp, rfl, by rw [esp]; exact dsc_asc n7 (fun r hr => rws_asc (spare_tr.rws r hr)), by rw [esp]; exact dsc_small n8 spare_tr, ?_⟩
    rw [show rdT sp = .inr (n, [spareR]) from by rw [esp]; exact rdT_dsc wn spare_tr.rok]
    show (match fltN n [spareR] with
      | some w => WhyE K H7 _ w
      | none => _)
    rw [fltN_of sm spare_tr]
    intro H8 f s8 _ tf
    refine cmp_ok (ta7.same s8) tf ?_
    refine ⟨.str (mk d), rfl, .str (mk sp), rfl, rfl, rfl, _, rfl, iteFo (ne_same ?_) ?_⟩
    · rw [dec_str2, ← esp, ← ed]
    obtain ⟨u1, h1⟩ := E4.most_rows
    obtain ⟨u2, h2⟩ := N.most_kinds
    exact ⟨CTb K, .type "type", .int 10, u1, rfl, RT.rd, h1, rfl, _, rfl, iteTo rfl ⟨CTb K, .type "type", .int 3, u2, rfl, RT.rd, h2, rfl, q _ (s07.trans s8)⟩⟩
end
end TW

namespace TW
open PySem PySem.Spec PyProof.Rows L2
/-! ### law -/
/-- what the law holds -/
structure L4 (H : Hp) (p r l q : Addr) (us us' : List V) (rs rs' : List Rw) : Prop where
  pool : PoolAt H p r
  hl : H l = some (.lst us)
  ro : All2 (RO H) us rs
  hq : H q = some (.lst us')
  ro' : All2 (RO H) us' rs'
  nl : ¬ PR p r l
  nq : ¬ PR p r q
theorem L4.same {H H' : Hp} {p r l q : Addr} {us us' : List V} {rs rs' : List Rw} (h : L4 H p r l q us us' rs rs') (s : Same H H') : L4 H' p r l q us us' rs rs' :=
  ⟨h.pool.keep s, s _ _ h.hl, ROs.same s h.ro, s _ _ h.hq, ROs.same s h.ro', h.nl, h.nq⟩
theorem L4.drew {H H' : Hp} {p r l q : Addr} {us us' : List V} {rs rs' : List Rw} (h : L4 H p r l q us us' rs rs') (d : Drew p r H H') : L4 H' p r l q us us' rs rs' :=
  ⟨d.pool, d.frm _ _ h.nl h.hl, h.ro.imp fun _ _ z => z.kp (d.kp h.pool), d.frm _ _ h.nq h.hq, h.ro'.imp fun _ _ z => z.kp (d.kp h.pool), h.nl, h.nq⟩
theorem rsn_rws {m : Nat} (hm : m ≤ 3) {r : Rw} (h : Rsn m r) : RwS r := by
  have h1 := h.kd
  have h2 := h.nm
  have h4 := h.fm
  have wl := h.wl
  have f8 := h4.2
  exact ⟨⟨h1.1, Nat.le_trans h1.2 (by decide)⟩, ⟨h2.1, Nat.le_trans h2.2 (by decide)⟩, ⟨h4.1, by omega⟩, fun w hw => ⟨(h.ws w hw).1, Nat.le_trans (h.ws w hw).2 (by decide)⟩, by omega⟩
theorem rsn_up {m k : Nat} (hm : m ≤ k) {r : Rw} (h : Rsn m r) : Rsn k r := by
  have wl := h.wl
  have f8 := h.fm.2
  exact ⟨h.kd, h.nm, h.ws, by omega, h.fm.1, by omega⟩
theorem TR.rsn {rs : List Rw} (tr : TR rs) : ∀ r ∈ rs, Rsn 0 r := fun r hr => by
  have s := tr.sms r hr
  have a := rws_asc (tr.rws r hr)
  have k9 : ∀ {x : Nat}, x ≤ 8 → x ≤ 9 := fun h => Nat.le_trans h (by decide)
  exact ⟨⟨a.kd, k9 s.kd⟩, ⟨a.nm, k9 s.nm⟩, fun w hw => ⟨a.ws w hw, k9 (s.ws w hw)⟩, s.wl, ⟨a.fm, s.fm⟩⟩
/-- the names that the law may pick -/
def oddNs : List (List Nat) := [[], [100, 105, 103, 105, 116], [84], [116, 95], [97, 98, 99, 100, 101, 102, 103, 104, 105], [49, 97], [97, 32, 98]]
def sp_law (K : PySem.W.Frag) : Sp := fun vs H Q _ => ∃ (a : Addr) (ns : List Int), vs = [.ref a] ∧ SqL K H a (ns.map V.int) ∧ ns.length ≤ 63 ∧ ∀ H', Q (.bl true) H'
theorem ite_joinR {b : Bool} {te : TE} {g : TG} {D : Ends} {σ : L2.St} {H : Hp} (R : L2.St → Hp → Prop) (rest : ∀ σ' H', R σ' H' → D.nx σ' H') (h1 : b = true → (∀ σ' H', R σ' H' → D.nx σ' H') → tAsg te g D σ H) (h2 : b = false → R σ H) :
    (if b = true then tAsg te g D σ H else tNext D σ H) := by
  cases b with
  | true => exact h1 rfl rest
  | false => exact rest _ _ (h2 rfl)
section
variable {P : Program} {w : World} {K : PySem.W.Frag} {mg : Str → Option Value} {base : Heap}
theorem fnF0 {x q : Str} {st : Stmt} {f : Addr} {fd : FuncData} {N ps : List Str} {k : Nat} {sp : Sp} (F : FunD K x q (defArgs st) (defBody st) (defScope st) [] [] f fd) (S : FnScope N ps (defScope st))
    (len : ∀ vs H Q E, sp vs H Q E → vs.length = ps.length)
    (body : ∀ (cdv : Value) (A : Around) (outer : List Env) (s : Shared) (H : Hp) (vs : List V) (Q : VK) (E : XK), Room k (A.deeper (envOfC q (defScope st) s.heap.objs.size f cdv)) → sp vs H Q E →
      ∃ t, PSs (cxOf CX0 P w K mg base N q (defScope st) f cdv A outer s H E).nox (defBody st) t ∧ t { nx := fun _ H' => Q .non H', rt := Q } (start N vs) H) :
    FnOk P w K mg base CX0 (k + 1) f fd ps sp := F.ok S len fun cdv A outer s H vs Q E hr h => by
  obtain ⟨t, a, b⟩ := body cdv A outer s H vs Q E hr h
  exact ⟨t, a.nox, b⟩
theorem ok_lawF {fd : FuncData} (F : FunD K "law" "law" (defArgs s_law) (defBody s_law) (defScope s_law) [] [] (He.ga K "law") fd) (AL : A04 P K mg) (E4 : TeE4 K) : FnOk P w K mg base CX0 13 (He.ga K "law") fd ["_law_script"] (sp_law K) := by
  have G_law_so : FnR P w K mg base CX0 10 (He.ga K "_law_so") sp_lso := ok_lso AL
  have G_law_read_so : FnR P w K mg base CX0 11 (He.ga K "_law_read_so") sp_readso := ok_readso AL
  have G_law_equal : FnR P w K mg base CX0 9 (He.ga K "_law_equal") sp_leq := ok_leq AL E4
  obtain ⟨T, Z, M, N, CC, W, O, B, RT, V2, JT, JN, JL, J3, JX, I4⟩ := AL
  have G_law_draw : FnR P w K mg base CX0 1 (He.ga K "_law_draw") sp_draw := ok_draw T
  have G_law_pool_of : FnR P w K mg base CX0 1 (He.ga K "_law_pool_of") (sp_pool K) := ok_pool T
  have G_law_table_rows : FnR P w K mg base CX0 4 (He.ga K "_law_table_rows") sp_rows := ok_rows T G_law_draw
  have G_law_small : FnR P w K mg base CX0 2 (He.ga K "_law_small") sp_lsmall := ok_lsmall T G_law_draw
  have G_law_pick : FnR P w K mg base CX0 2 (He.ga K "_law_pick") sp_pick := ok_pick T G_law_draw
  have G_law_described : FnR P w K mg base CX0 1 (He.ga K "_law_described") sp_desc5 := ok_desc5 T
  have G_law_bent : FnR P w K mg base CX0 5 (He.ga K "_law_bent") sp_bent := ok_bent T G_law_draw
  have G_law_spoilt : FnR P w K mg base CX0 3 (He.ga K "_law_spoilt") sp_spoil := ok_spoil T G_law_draw
  refine fnF0 F sc_law (fun vs H Q E h => ?_) (fun cdv A outer s H vs Q E hr h => ?_)
  · obtain ⟨a, ns, rfl, _⟩ := h
    rfl
  · obtain ⟨sa, ns, rfl, hs, hn, q⟩ := h
    refine ⟨_, (pss_cons (ps_set (i := 1) sc_law.nd rfl (.inl rfl) (pe_cr G_law_pool_of (hr.mono (by decide)) (by rfl) T.v_law_pool_of T.k_law_pool_of pass0 (pa_cons (pv 0) pa_nil)))
(pss_cons (ps_set (i := 2) sc_law.nd rfl (.inl rfl) (pe_cr G_law_table_rows (hr.mono (by omega)) (by rfl) T.v_law_table_rows T.k_law_table_rows pass0 (pa_cons (pv 1) pa_nil)))
(pss_cons (ps_set (i := 3) sc_law.nd rfl (.inl rfl) (pv 2))
(pss_cons (ps_for PassesOwn.never rfl (pi_range1 (by rfl) T.z_range (pa_cons (pe_ix (r := rIxL K) ix_list (pe_lst (pa_cons pe_int (pa_cons pe_int (pa_cons pe_int (pa_cons pe_int (pa_cons pe_int pa_nil)))))) (pe_cr G_law_draw (hr.mono (by omega)) (by rfl) T.v_law_draw T.k_law_draw pass0 (pa_cons (pv 1) (pa_cons pe_int pa_nil))) (fun _ _ => rfl)) pa_nil)) (pg_name (i := 4) sc_law.nd rfl (.inl rfl))
(pss_one (ps_set (i := 3) sc_law.nd rfl (.inl rfl) (pe_cr G_law_bent (hr.mono (by omega)) (by rfl) T.v_law_bent T.k_law_bent pass0 (pa_cons (pv 1) (pa_cons (pv 3) pa_nil))))))
(pss_cons (ps_set (i := 5) sc_law.nd rfl (.inl rfl) (pe_cr G_law_small (hr.mono (by omega)) (by rfl) T.v_law_small T.k_law_small pass0 (pa_cons (pv 1) pa_nil)))
(pss_cons (ps_set (i := 6) sc_law.nd rfl (.inl rfl) (pv 5))
(pss_cons (ps_if (pt_cmpR op_eq (pe_cr G_law_draw (hr.mono (by omega)) (by rfl) T.v_law_draw T.k_law_draw pass0 (pa_cons (pv 1) (pa_cons pe_int pa_nil))) pe_int (nomark _))
(pss_one (ps_set (i := 5) sc_law.nd rfl (.inl rfl) (pe_cr G_law_pick (hr.mono (by omega)) (by rfl) T.v_law_pick T.k_law_pick pass0 (pa_cons (pv 1) (pa_cons (pe_lst (pa_cons pe_str (pa_cons pe_str (pa_cons pe_str (pa_cons pe_str (pa_cons pe_str (pa_cons pe_str (pa_cons pe_str pa_nil)))))))) pa_nil)))))
pss_nil)
(pss_cons (ps_if (PW.pt (pw_or (pt_not (pt_val (pe_cr G_law_so (hr.mono (by omega)) (by rfl) T.v_law_so T.k_law_so pass0 (pa_cons (pv 5) (pa_cons (pv 3) (pa_cons pe_non pa_nil)))))) (pw_or1 (pt_not (pt_val (pe_cr G_law_so (hr.mono (by omega)) (by rfl) T.v_law_so T.k_law_so pass0 (pa_cons (pv 6) (pa_cons (pv 2) (pa_cons pe_non pa_nil)))))))))
(pss_one (ps_ret pe_bl))
pss_nil)
(pss_cons (ps_set (i := 7) sc_law.nd rfl (.inl rfl) (pe_cr G_law_described (hr.mono (by omega)) (by rfl) T.v_law_described T.k_law_described pass0 (pa_cons (pv 5) (pa_cons (pv 3) pa_nil))))
(pss_cons (ps_if (pt_not (pt_val (pe_cr G_law_read_so (hr.mono (by omega)) (by rfl) T.v_law_read_so T.k_law_read_so pass0 (pa_cons (pv 7) pa_nil))))
(pss_one (ps_ret pe_bl))
pss_nil)
(pss_cons (ps_for PassesOwn.never rfl (pi_range1 (by rfl) T.z_range (pa_cons (pe_op op_add pe_int (pe_cr G_law_draw (hr.mono (by omega)) (by rfl) T.v_law_draw T.k_law_draw pass0 (pa_cons (pv 1) (pa_cons pe_int pa_nil)))) pa_nil)) (pg_name (i := 4) sc_law.nd rfl (.inl rfl))
(pss_one (ps_set (i := 7) sc_law.nd rfl (.inl rfl) (pe_cr G_law_spoilt (hr.mono (by omega)) (by rfl) T.v_law_spoilt T.k_law_spoilt pass0 (pa_cons (pv 1) (pa_cons (pv 7) pa_nil))))))
(pss_cons (ps_if (PW.pt (pw_or (pt_not (pt_val (pe_cr G_law_read_so (hr.mono (by omega)) (by rfl) T.v_law_read_so T.k_law_read_so pass0 (pa_cons (pv 7) pa_nil)))) (pw_or1 (pt_not (pt_val (pe_cr G_law_read_so (hr.mono (by omega)) (by rfl) T.v_law_read_so T.k_law_read_so pass0 (pa_cons pe_str pa_nil)))))))
(pss_one (ps_ret pe_bl))
pss_nil)
(pss_cons (ps_if (PW.pt (pw_or (pt_not (pt_val (pe_cr G_law_read_so (hr.mono (by omega)) (by rfl) T.v_law_read_so T.k_law_read_so pass0 (pa_cons pe_str pa_nil)))) (pw_or1 (pt_not (pt_val (pe_cr G_law_equal (hr.mono (by omega)) (by rfl) T.v_law_equal T.k_law_equal pass0 (pa_cons (pv 6) (pa_cons (pv 2) pa_nil))))))))
(pss_one (ps_ret pe_bl))
pss_nil)
(pss_one (ps_ret (pe_cr G_law_so (hr.mono (by omega)) (by rfl) T.v_law_so T.k_law_so pass0 (pa_cons (pv 5) (pa_cons (pv 3) (pa_cons pe_non pa_nil))))))))))))))))))), ?_⟩
    refine ⟨.ref sa, rfl, sa, ns, rfl, hs, hn, fun H1 p r s1 np nr P1' => ?_⟩
    refine ⟨.ref p, rfl, p, r, rfl, P1', fun H2 l us rs tr d2 nl hl ro => ?_⟩
    have hi := tr.hi
    have nlp : ¬ PR p r l := fun z => P1'.some l z nl
    refine ⟨.ref l, rfl, szle, fun o no => ?_⟩
    have d2o : Drew p r H2 (upd H2 o (.lst [.int 0, .int 1, .int 1, .int 2, .int 3])) := (Drew.refl d2.pool).new no
    have eo : upd H2 o (.lst [.int 0, .int 1, .int 1, .int 2, .int 3]) o = some (.lst [.int 0, .int 1, .int 1, .int 2, .int 3]) := upd_same
    generalize upd H2 o (.lst [.int 0, .int 1, .int 1, .int 2, .int 3]) = H2' at d2o eo
    refine ⟨.ref p, rfl, p, r, 5, rfl, by decide, by decide, d2o.pool, fun H3 v v0 v5 d3 => ?_⟩
    have eo3 := d3.frm _ _ (fun z => d2.pool.some o z no) eo
    obtain ⟨m, m3, ev⟩ : ∃ m : Nat, m ≤ 3 ∧ atI [V.int 0, .int 1, .int 1, .int 2, .int 3] v = some (.int (m : Nat)) := by
      have : v = 0 ∨ v = 1 ∨ v = 2 ∨ v = 3 ∨ v = 4 := by omega
      rcases this with rfl | rfl | rfl | rfl | rfl
      · exact ⟨0, by decide, rfl⟩
      · exact ⟨1, by decide, rfl⟩
      · exact ⟨1, by decide, rfl⟩
      · exact ⟨2, by decide, rfl⟩
      · exact ⟨3, by decide, rfl⟩
    have L0 : L4 H2 p r l l us us rs rs := ⟨d2.pool, hl, ro, hl, ro, nlp, nlp⟩
    have L3 := L0.drew (d2o.trans d3)
    refine ⟨o, _, v, .int (m : Nat), rfl, rfl, SqL.of eo3, ev, (m : Nat), rfl, by omega, by omega, for_range (lo := 0) (n := ((m : Nat) : Int).toNat) (fun i σ H4 => ∃ q y4 us' rs', σ = [some (.ref sa), some (.ref p), some (.ref l), some (.ref q), y4, none, none, none] ∧ L4 H4 p r l q us us' rs rs' ∧ rs'.length ≤ 12 ∧ ∀ r ∈ rs', Rsn i r) ⟨l, none, us, rs, rfl, L3, by omega, tr.rsn⟩ ?_ ?_⟩
    · rintro i σ H4 hi' ⟨q, y4, us', rs', rfl, L, l12, sn⟩
      have im : i < m := by
        have : i < ((m : Nat) : Int).toNat := hi'
        omega
      refine ⟨.ref p, rfl, .ref q, rfl, p, r, q, us', rs', i, rfl, L.pool, L.nq, L.hq, L.ro', l12, by omega, sn, fun H5 q' us'' rs'' nq' hq' ro'' l12' sn' d => ?_⟩
      have L5 := L.drew d
      exact ⟨q', _, us'', rs'', rfl, ⟨d.pool, L5.hl, L5.ro, hq', ro'', L.nl, fun z => L.pool.some q' z nq'⟩, l12', sn'⟩
    rintro σ H4 ⟨k, y4, us', rs', rfl, L, l12, sn⟩
    have sn3 : ∀ r ∈ rs', Rsn 3 r := fun r hr => rsn_up (by omega) (sn r hr)
    have rws' : ∀ r ∈ rs', RwS r := fun r hr => rsn_rws (Nat.le_refl 3) (sn3 r hr)
    have ra' : ∀ r ∈ rs', Rasc r := fun r hr => rws_asc (rws' r hr)
    refine ⟨.ref p, rfl, p, r, rfl, L.pool, fun H5 n hsm d5 => ?_⟩
    have n8 := (smallN_of hsm).2.1
    refine ⟨_, rfl, .ref p, rfl, p, r, 6, rfl, by decide, by decide, d5.pool, fun H6 v6 _ _ d6 => ⟨rfl, _, rfl, ?_⟩⟩
    have L6 := L.drew (d5.trans d6)
    refine ite_joinR (fun σ' H' => ∃ nm, σ' = [some (.ref sa), some (.ref p), some (.ref l), some (.ref k), y4, some (.str (mk nm)), some (.str (mk n)), none] ∧ (∀ c ∈ nm, c < 128) ∧ nm.length ≤ 9 ∧ L4 H' p r l k us us' rs rs') ?_ (fun _ rest => ?_) (fun _ => ⟨n, rfl, small_asc hsm, by omega, L6⟩)
    case refine_2 =>
      refine ⟨.ref p, rfl, szle, fun o2 no2 => ?_⟩
      have d7 : Drew p r H6 (upd H6 o2 (.lst (oddNs.map fun x => V.str (mk x)))) := (Drew.refl L6.pool).new no2
      have e7 : upd H6 o2 (.lst (oddNs.map fun x => V.str (mk x))) o2 = some (.lst (oddNs.map fun x => V.str (mk x))) := upd_same
      refine ⟨p, r, o2, oddNs.map fun x => V.str (mk x), rfl, d7.pool, (fun z => L6.pool.some o2 z no2), e7, by decide, by decide, fun H8 x hx d8 => ?_⟩
      obtain ⟨nm, hnm, rfl⟩ := List.mem_map.mp hx
      have on : ∀ x ∈ oddNs, (∀ c ∈ x, c < 128) ∧ x.length ≤ 9 := by decide
      exact rest _ _ ⟨nm, rfl, (on nm hnm).1, (on nm hnm).2, L6.drew (d7.trans d8)⟩
    rintro σ' H7 ⟨nm, rfl, nm7, nm9, L7⟩
    refine ⟨_, rfl, .ref k, rfl, k, nm, us', rs', .non, rfl, nm7, by omega, L7.hq, L7.ro', by omega, rws', .inl ⟨rfl, l12⟩, fun H8 s8 => ⟨_, rfl, iteF ?_⟩⟩
    have L8 := L7.same s8
    refine ⟨_, rfl, .ref l, rfl, l, n, us, rs, .non, rfl, small_asc hsm, by omega, L8.hl, L8.ro, by omega, tr.rws, .inl ⟨rfl, by omega⟩, fun H9 s9 => ⟨_, rfl, iteF ?_⟩⟩
    have L9 := L8.same s9
    refine ⟨_, rfl, .ref k, rfl, nm, k, us', rs', rfl, by omega, L9.hq, L9.ro', by omega, sn3, fun H10 s10 => ?_⟩
    have L10 := L9.same s10
    have d7 := dsc_asc nm7 ra'
    have dl := dsc_len nm9 l12 sn3
    generalize dsc nm rs' = d at d7 dl
    refine ⟨_, rfl, d, rfl, d7, by omega, fun H11 s11 => ⟨_, rfl, iteF ?_⟩⟩
    have L11 := L10.same s11
    refine ⟨.ref p, rfl, p, r, 2, rfl, by decide, by decide, L11.pool, fun H12 v _ _ d12 => ?_⟩
    have L12 := L11.drew d12
    refine ⟨1, v, rfl, rfl, _, rfl, by omega, by omega, for_range (lo := 0) (n := (1 + v).toNat) (fun i σ H4 => ∃ y4 e, σ = [some (.ref sa), some (.ref p), some (.ref l), some (.ref k), y4, some (.str (mk nm)), some (.str (mk n)), some (.str (mk e))] ∧ (∀ c ∈ e, c < 128) ∧ e.length ≤ 1200 + i ∧ L4 H4 p r l k us us' rs rs') ⟨_, d, rfl, d7, dl, L12⟩ ?_ ?_⟩
    · rintro i σ H4 hi' ⟨y4, e, rfl, e7, el, L⟩
      have im : i < (1 + v).toNat := hi'
      refine ⟨.ref p, rfl, _, rfl, p, r, e, rfl, L.pool, e7, by omega, fun H5 e' e7' el' d5 => ⟨_, e', rfl, e7', by omega, L.drew d5⟩⟩
    rintro σ H13 ⟨y4, e, rfl, e7, el, L13⟩
    refine ⟨_, rfl, e, rfl, e7, by omega, fun H14 s14 => ⟨_, rfl, iteF ?_⟩⟩
    refine ⟨[116, 97, 98, 108, 101, 32, 116], rfl, by decide, by decide, fun H15 s15 => ⟨_, rfl, iteF ?_⟩⟩
    refine ⟨[], rfl, (fun c h => nomatch h), by decide, fun H16 s16 => ⟨_, rfl, iteF ?_⟩⟩
    have L16 := L13.same (s14.trans (s15.trans s16))
    refine ⟨_, rfl, .ref l, rfl, l, n, us, rs, rfl, hsm, L16.hl, L16.ro, tr, fun H17 s17 => ⟨_, rfl, iteF ?_⟩⟩
    have L17 := L16.same s17
    exact ⟨_, rfl, .ref k, rfl, k, nm, us', rs', .non, rfl, nm7, by omega, L17.hq, L17.ro', by omega, rws', .inl ⟨rfl, l12⟩, fun H18 _ => q H18⟩
end
end TW

set_option maxHeartbeats 0
namespace TW
open PySem PySem.Spec PyProof.Rows L2
/-! ## the head: what the top has left, by names -/
def dd_is_big : He.DefD := ⟨("is_big", none), "is_big", "is_big", defArgs s_is_big, defBody s_is_big, defScope s_is_big, [], []⟩
def dd_is_small : He.DefD := ⟨("is_small", none), "is_small", "is_small", defArgs s_is_small, defBody s_is_small, defScope s_is_small, [], []⟩
def dd_name_at : He.DefD := ⟨("name_at", none), "name_at", "name_at", defArgs s_name_at, defBody s_name_at, defScope s_name_at, [], []⟩
def dd_digit : He.DefD := ⟨("digit", none), "digit", "digit", defArgs s_digit, defBody s_digit, defScope s_digit, [], []⟩
def dd_kinds_of : He.DefD := ⟨("kinds_of", none), "kinds_of", "kinds_of", defArgs s_kinds_of, defBody s_kinds_of, defScope s_kinds_of, [], []⟩
def dd_line_of : He.DefD := ⟨("line_of", none), "line_of", "line_of", defArgs s_line_of, defBody s_line_of, defScope s_line_of, [], []⟩
def dd_least_trees : He.DefD := ⟨("least_trees", none), "least_trees", "least_trees", defArgs s_least_trees, defBody s_least_trees, defScope s_least_trees, [], []⟩
def dd_is_form : He.DefD := ⟨("is_form", none), "is_form", "is_form", defArgs s_is_form, defBody s_is_form, defScope s_is_form, [], []⟩
def dd_fault_alone : He.DefD := ⟨("fault_alone", none), "fault_alone", "fault_alone", defArgs s_fault_alone, defBody s_fault_alone, defScope s_fault_alone, [], []⟩
def dd_check_rows : He.DefD := ⟨("check_rows", none), "check_rows", "check_rows", defArgs s_check_rows, defBody s_check_rows, defScope s_check_rows, [], []⟩
def dd_start_of : He.DefD := ⟨("start_of", none), "start_of", "start_of", defArgs s_start_of, defBody s_start_of, defScope s_start_of, [], []⟩
def dd_law_pool_of : He.DefD := ⟨("_law_pool_of", none), "_law_pool_of", "_law_pool_of", defArgs s_law_pool_of, defBody s_law_pool_of, defScope s_law_pool_of, [], []⟩
def dd_law_draw : He.DefD := ⟨("_law_draw", none), "_law_draw", "_law_draw", defArgs s_law_draw, defBody s_law_draw, defScope s_law_draw, [], []⟩
def dd_law_name_of : He.DefD := ⟨("_law_name_of", none), "_law_name_of", "_law_name_of", defArgs s_law_name_of, defBody s_law_name_of, defScope s_law_name_of, [], []⟩
def dd_law_small : He.DefD := ⟨("_law_small", none), "_law_small", "_law_small", defArgs s_law_small, defBody s_law_small, defScope s_law_small, [], []⟩
def dd_law_fresh : He.DefD := ⟨("_law_fresh", none), "_law_fresh", "_law_fresh", defArgs s_law_fresh, defBody s_law_fresh, defScope s_law_fresh, [], []⟩
def dd_law_wanted : He.DefD := ⟨("_law_wanted", none), "_law_wanted", "_law_wanted", defArgs s_law_wanted, defBody s_law_wanted, defScope s_law_wanted, [], []⟩
def dd_law_shaped : He.DefD := ⟨("_law_shaped", none), "_law_shaped", "_law_shaped", defArgs s_law_shaped, defBody s_law_shaped, defScope s_law_shaped, [], []⟩
def dd_law_menu : He.DefD := ⟨("_law_menu", none), "_law_menu", "_law_menu", defArgs s_law_menu, defBody s_law_menu, defScope s_law_menu, [], []⟩
def dd_law_table_rows : He.DefD := ⟨("_law_table_rows", none), "_law_table_rows", "_law_table_rows", defArgs s_law_table_rows, defBody s_law_table_rows, defScope s_law_table_rows, [], []⟩
def dd_law_described : He.DefD := ⟨("_law_described", none), "_law_described", "_law_described", defArgs s_law_described, defBody s_law_described, defScope s_law_described, [], []⟩
def dd_law_kinds_of : He.DefD := ⟨("_law_kinds_of", none), "_law_kinds_of", "_law_kinds_of", defArgs s_law_kinds_of, defBody s_law_kinds_of, defScope s_law_kinds_of, [], []⟩
def dd_law_pick : He.DefD := ⟨("_law_pick", none), "_law_pick", "_law_pick", defArgs s_law_pick, defBody s_law_pick, defScope s_law_pick, [], []⟩
def dd_law_odd_word : He.DefD := ⟨("_law_odd_word", none), "_law_odd_word", "_law_odd_word", defArgs s_law_odd_word, defBody s_law_odd_word, defScope s_law_odd_word, [], []⟩
def dd_law_odd_sign : He.DefD := ⟨("_law_odd_sign", none), "_law_odd_sign", "_law_odd_sign", defArgs s_law_odd_sign, defBody s_law_odd_sign, defScope s_law_odd_sign, [], []⟩
def dd_law_bent_row : He.DefD := ⟨("_law_bent_row", none), "_law_bent_row", "_law_bent_row", defArgs s_law_bent_row, defBody s_law_bent_row, defScope s_law_bent_row, [], []⟩
def dd_law_bent : He.DefD := ⟨("_law_bent", none), "_law_bent", "_law_bent", defArgs s_law_bent, defBody s_law_bent, defScope s_law_bent, [], []⟩
def dd_law_grounds : He.DefD := ⟨("_law_grounds", none), "_law_grounds", "_law_grounds", defArgs s_law_grounds, defBody s_law_grounds, defScope s_law_grounds, [], []⟩
def dd_law_big : He.DefD := ⟨("_law_big", none), "_law_big", "_law_big", defArgs s_law_big, defBody s_law_big, defScope s_law_big, [], []⟩
def dd_law_is_small : He.DefD := ⟨("_law_is_small", none), "_law_is_small", "_law_is_small", defArgs s_law_is_small, defBody s_law_is_small, defScope s_law_is_small, [], []⟩
def dd_law_formed : He.DefD := ⟨("_law_formed", none), "_law_formed", "_law_formed", defArgs s_law_formed, defBody s_law_formed, defScope s_law_formed, [], []⟩
def dd_law_alone : He.DefD := ⟨("_law_alone", none), "_law_alone", "_law_alone", defArgs s_law_alone, defBody s_law_alone, defScope s_law_alone, [], []⟩
def dd_law_start : He.DefD := ⟨("_law_start", none), "_law_start", "_law_start", defArgs s_law_start, defBody s_law_start, defScope s_law_start, [], []⟩
def dd_law_fault : He.DefD := ⟨("_law_fault", none), "_law_fault", "_law_fault", defArgs s_law_fault, defBody s_law_fault, defScope s_law_fault, [], []⟩
def dd_law_table : He.DefD := ⟨("_law_table", none), "_law_table", "_law_table", defArgs s_law_table, defBody s_law_table, defScope s_law_table, [], []⟩
def dd_law_built : He.DefD := ⟨("_law_built", none), "_law_built", "_law_built", defArgs s_law_built, defBody s_law_built, defScope s_law_built, [], []⟩
def dd_law_lines : He.DefD := ⟨("_law_lines", none), "_law_lines", "_law_lines", defArgs s_law_lines, defBody s_law_lines, defScope s_law_lines, [], []⟩
def dd_law_least : He.DefD := ⟨("_law_least", none), "_law_least", "_law_least", defArgs s_law_least, defBody s_law_least, defScope s_law_least, [], []⟩
def dd_law_maker_good : He.DefD := ⟨("_law_maker_good", none), "_law_maker_good", "_law_maker_good", defArgs s_law_maker_good, defBody s_law_maker_good, defScope s_law_maker_good, [], []⟩
def dd_law_unknown : He.DefD := ⟨("_law_unknown", none), "_law_unknown", "_law_unknown", defArgs s_law_unknown, defBody s_law_unknown, defScope s_law_unknown, [], []⟩
def dd_law_table_good : He.DefD := ⟨("_law_table_good", none), "_law_table_good", "_law_table_good", defArgs s_law_table_good, defBody s_law_table_good, defScope s_law_table_good, [], []⟩
def dd_law_so : He.DefD := ⟨("_law_so", none), "_law_so", "_law_so", defArgs s_law_so, defBody s_law_so, defScope s_law_so, [], []⟩
def dd_law_read_so : He.DefD := ⟨("_law_read_so", none), "_law_read_so", "_law_read_so", defArgs s_law_read_so, defBody s_law_read_so, defScope s_law_read_so, [], []⟩
def dd_law_spoilt : He.DefD := ⟨("_law_spoilt", none), "_law_spoilt", "_law_spoilt", defArgs s_law_spoilt, defBody s_law_spoilt, defScope s_law_spoilt, [], []⟩
def dd_law_equal : He.DefD := ⟨("_law_equal", none), "_law_equal", "_law_equal", defArgs s_law_equal, defBody s_law_equal, defScope s_law_equal, [], []⟩
def dd_law : He.DefD := ⟨("law", none), "law", "law", defArgs s_law, defBody s_law, defScope s_law, [], []⟩
def ddTree_init : He.DefD := ⟨("Tree", some "__init__"), "__init__", "Tree.__init__", defArgs s_Tree_init, defBody s_Tree_init, defScope s_Tree_init, [], []⟩
def ddTree_lt : He.DefD := ⟨("Tree", some "__lt__"), "__lt__", "Tree.__lt__", defArgs s_Tree_lt, defBody s_Tree_lt, defScope s_Tree_lt, [], []⟩
def ddTree_le : He.DefD := ⟨("Tree", some "__le__"), "__le__", "Tree.__le__", defArgs s_Tree_le, defBody s_Tree_le, defScope s_Tree_le, [], []⟩
def ddTree_eq : He.DefD := ⟨("Tree", some "__eq__"), "__eq__", "Tree.__eq__", defArgs s_Tree_eq, defBody s_Tree_eq, defScope s_Tree_eq, [], []⟩
def ddTree_place : He.DefD := ⟨("Tree", some "place"), "place", "Tree.place", defArgs s_Tree_place, defBody s_Tree_place, defScope s_Tree_place, [], []⟩
def ddMaker_init : He.DefD := ⟨("Maker", some "__init__"), "__init__", "Maker.__init__", defArgs s_Maker_init, defBody s_Maker_init, defScope s_Maker_init, [], []⟩
def ddTable_init : He.DefD := ⟨("Table", some "__init__"), "__init__", "Table.__init__", defArgs s_Table_init, defBody s_Table_init, defScope s_Table_init, [], []⟩
def ddTable_iter : He.DefD := ⟨("Table", some "__iter__"), "__iter__", "Table.__iter__", defArgs s_Table_iter, defBody s_Table_iter, defScope s_Table_iter, [], []⟩
def ddTable_contains : He.DefD := ⟨("Table", some "__contains__"), "__contains__", "Table.__contains__", defArgs s_Table_contains, defBody s_Table_contains, defScope s_Table_contains, [], []⟩
def ddTable_maker : He.DefD := ⟨("Table", some "maker"), "maker", "Table.maker", defArgs s_Table_maker, defBody s_Table_maker, defScope s_Table_maker, [], []⟩
def ddTable_makers : He.DefD := ⟨("Table", some "makers"), "makers", "Table.makers", defArgs s_Table_makers, defBody s_Table_makers, defScope s_Table_makers, [], []⟩
def ddTable_least : He.DefD := ⟨("Table", some "least"), "least", "Table.least", defArgs s_Table_least, defBody s_Table_least, defScope s_Table_least, [], []⟩
def ddTable_eq : He.DefD := ⟨("Table", some "__eq__"), "__eq__", "Table.__eq__", defArgs s_Table_eq, defBody s_Table_eq, defScope s_Table_eq, [], []⟩
def fnL : List He.DefD := ([dd_is_big, dd_is_small, dd_name_at, dd_digit, dd_kinds_of, dd_line_of, dd_least_trees, dd_is_form, dd_fault_alone, dd_check_rows] : List He.DefD) ++ ([dd_start_of, dd_law_pool_of, dd_law_draw, dd_law_name_of, dd_law_small, dd_law_fresh, dd_law_wanted, dd_law_shaped, dd_law_menu, dd_law_table_rows] : List He.DefD) ++ ([dd_law_described, dd_law_kinds_of, dd_law_pick, dd_law_odd_word, dd_law_odd_sign, dd_law_bent_row, dd_law_bent, dd_law_grounds, dd_law_big, dd_law_is_small] : List He.DefD) ++ ([dd_law_formed, dd_law_alone, dd_law_start, dd_law_fault, dd_law_table, dd_law_built, dd_law_lines, dd_law_least, dd_law_maker_good, dd_law_unknown] : List He.DefD) ++ ([dd_law_table_good, dd_law_so, dd_law_read_so, dd_law_spoilt, dd_law_equal, dd_law, ddTree_init, ddTree_lt, ddTree_le, ddTree_eq] : List He.DefD) ++ ([ddTree_place, ddMaker_init, ddTable_init, ddTable_iter, ddTable_contains, ddTable_maker, ddTable_makers, ddTable_least, ddTable_eq] : List He.DefD)
def faL : List He.Fa := ([.glo "is_big", .glo "is_small", .glo "name_at", .glo "digit", .glo "kinds_of", .glo "line_of", .glo "least_trees", .glo "is_form", .glo "fault_alone", .glo "check_rows"] : List He.Fa) ++ ([.glo "start_of", .glo "_law_pool_of", .glo "_law_draw", .glo "_law_name_of", .glo "_law_small", .glo "_law_fresh", .glo "_law_wanted", .glo "_law_shaped", .glo "_law_menu", .glo "_law_table_rows"] : List He.Fa) ++ ([.glo "_law_described", .glo "_law_kinds_of", .glo "_law_pick", .glo "_law_odd_word", .glo "_law_odd_sign", .glo "_law_bent_row", .glo "_law_bent", .glo "_law_grounds", .glo "_law_big", .glo "_law_is_small"] : List He.Fa) ++ ([.glo "_law_formed", .glo "_law_alone", .glo "_law_start", .glo "_law_fault", .glo "_law_table", .glo "_law_built", .glo "_law_lines", .glo "_law_least", .glo "_law_maker_good", .glo "_law_unknown"] : List He.Fa) ++ ([.glo "_law_table_good", .glo "_law_so", .glo "_law_read_so", .glo "_law_spoilt", .glo "_law_equal", .glo "law", .free "abs", .free "int", .free "len", .free "range"] : List He.Fa) ++ ([.free "sum", .free "max", .free "all", .free "isinstance", .free "tuple", .free "list", .free "iter", .free "bool", .free "ValueError", .free "zip"] : List He.Fa) ++ ([.free "str", .free "enumerate", .free "sorted", .free "super", .glo "Tree", .glo "Maker", .glo "Table", .glo "WorkError", .glo "BadName", .glo "BadCount"] : List He.Fa) ++ ([.glo "BadLine", .glo "BadTable", .glo "Unknown", .cls "Tree", .mkr "Tree", .noat "Tree" "name", .noat "Tree" "parts", .noat "Tree" "size", .noat "Tree" "levels", .noat "Tree" "term"] : List He.Fa) ++ ([.meth "Tree" "__lt__", .meth "Tree" "__le__", .meth "Tree" "__eq__", .meth "Tree" "place", .cls "Maker", .mkr "Maker", .noat "Maker" "kind", .noat "Maker" "name", .noat "Maker" "wants", .noat "Maker" "form"] : List He.Fa) ++ ([.cls "Table", .mkr "Table", .noat "Table" "name", .noat "Table" "kinds", .noat "Table" "description", .noat "Table" "_makers", .noat "Table" "_named", .noat "Table" "_least", .meth "Table" "__iter__", .meth "Table" "__contains__"] : List He.Fa) ++ ([.meth "Table" "maker", .meth "Table" "makers", .meth "Table" "least", .meth "Table" "__eq__", .str "CAPITALS" capS, .str "DIGITS" digS, .str "NAME_CHARACTERS" sgnS, .int "LONGEST_NAME" 8, .int "MOST_PARTS" 3, .str "SMALL_LETTERS" lowS] : List He.Fa) ++ ([.str "SIGNS" fsS, .int "MOST_WANTS" 3, .int "MOST_TREE_WANTS" 2, .int "LONGEST_FORM" 8] : List He.Fa)
abbrev P0 : Program := (PySem.Challenge.rw_treeworks_k04_table_descriptions).prog
/-! ### a function by its address -/
abbrev FnA : Type := Option (Str × Str × Arguments × FuncBody × Scope × Addr × List Str × Value × Value × Addr)
def fnA (K : PySem.W.Frag) (a : Addr) : FnA := match K.lookup a with
  | some ⟨_, _, .func fd, _⟩ => some (fd.name, fd.qualname, fd.params, fd.body, fd.scope, fd.globals, fd.closure.map (·.1), fd.defaults, fd.kwdefaults, fd.builtins)
  | _ => none
def cdB (K : PySem.W.Frag) (a : Addr) (q : Str) : Bool := PySem.W.keepIn K (.ref a) && (match K.lookup a with
  | some ⟨_, _, .func fd, _⟩ => PySem.W.codeIn K fd.code q
  | _ => false)
theorem fnA_ok {K : PySem.W.Frag} {a : Addr} {x q : Str} {st : Stmt} (e : fnA K a = some (x, q, defArgs st, .stmts (defBody st), defScope st, mainGlobals, [], .none, .none, builtinsNs)) (c : cdB K a q = true) : DefAt K x q st a := by
  obtain ⟨kp, c2⟩ := He.ba c
  unfold fnA at e
  cases h : K.lookup a with
  | none =>
    rw [h] at c2
    cases c2
  | some o =>
    obtain ⟨oc, od, dt, osl⟩ := o
    rw [h] at c2 e
    cases dt with
    | func fd =>
      obtain ⟨n1, n2, n3, n4, n5, n6, n7, n8, n9, n10, n11, n12, n13, n14, n15⟩ := fd
      have e2 : (some (n1, n2, n3, n4, n5, n6, n7.map (·.1), n8, n9, n15) : FnA) = some (x, q, defArgs st, .stmts (defBody st), defScope st, mainGlobals, [], .none, .none, builtinsNs) := e
      simp only [Option.some.injEq, Prod.mk.injEq] at e2
      obtain ⟨h1, h2, h3, h4, h5, h6, h7, h8, h9, h10⟩ := e2
      have h7' := List.map_eq_nil_iff.mp h7
      subst h1 h2 h3 h4 h5 h6 h7' h8 h9 h10
      exact ⟨_, ⟨oc, od, .none, .none, n10, n11, n12, n13, n14, osl, rfl, h, c2, .inl ⟨rfl, rfl⟩, .inl rfl⟩, kp⟩
    | _ => cases c2
/-! ### the errors' classes -/
def errCB (K : PySem.W.Frag) (C : Addr) : Bool := match K.lookup C with
  | some ⟨.type "type", _, .cls cd, sl⟩ => (match cd.mro, sl.toList with
    | .ref C' :: bm, [_, _, _, _, some (.builtin n), _] => C' == C && (n == "ValueError.__new__" && (!cd.hasDel && (cd.hasDict && PySem.HandSPX.refsVE bm)))
    | _, _ => false)
  | _ => false
theorem errCB_ok {K : PySem.W.Frag} {C : Addr} (q : errCB K C = true) : ∃ nm q N bs bm sn sub ab col dd k0 k1 k2 k3 k5, K.lookup C = some (excClassObj nm q C N bs bm true sn sub ab col dd k0 k1 k2 k3 k5 "ValueError.__new__") ∧ PySem.HandSPX.refsVE bm = true := by
  unfold errCB at q
  split at q
  · rename_i dd cd sl ho
    split at q
    · rename_i C' bm k0 k1 k2 k3 n k5 hm hs
      obtain ⟨q1, q⟩ := He.ba q
      obtain ⟨q2, q⟩ := He.ba q
      obtain ⟨q3, q⟩ := He.ba q
      obtain ⟨q4, q5⟩ := He.ba q
      have e1 := beq_iff_eq.mp q1
      have e2 := beq_iff_eq.mp q2
      subst e1 e2
      obtain ⟨nm, bs, mro, ns, qn, hd, sn, sub, ab, col, del⟩ := cd
      dsimp only at hm q3 q4
      have q3' : del = false := by
        cases del with
        | false => rfl
        | true => cases q3
      subst hm q3' q4
      have hsl : sl = #[k0, k1, k2, k3, some (.builtin "ValueError.__new__"), k5] := by
        obtain ⟨l⟩ := sl
        simp only at hs
        rw [hs]
      subst hsl
      exact ⟨nm, qn, ns, bs, bm, sn, sub, ab, col, dd, k0, k1, k2, k3, k5, ho, q5⟩
    · cases q
  · cases q
def oB (a b : Option Bool) : Bool := decide (a = b)
theorem oB_ok {a b : Option Bool} (h : oB a b = true) : a = b := of_decide_eq_true h
def oV (a b : Option Value) : Bool := decide (a = b)
theorem oV_ok {a b : Option Value} (h : oV a b = true) : a = b := of_decide_eq_true h
/-- the code of a closed-over def: its file; the cell -/
def clB (K : PySem.W.Frag) (a C : Addr) (q : Str) : Bool := match K.lookup a with
  | some ⟨_, _, .func fd, _⟩ => (match fd.code, fd.closure with
    | .ref cda, [(_, cc)] => PySem.W.codeIn K (.ref cda) q && ((match K.lookup cc with
        | some ⟨_, _, .cell (some (.ref D)), _⟩ => D == C
        | _ => false) && (match K.lookup cda with
        | some ⟨_, _, .fields vs, _⟩ => (match (vs[2]? : Option Value) with
          | some (.str file _) => (P0.main.file : Str) == file
          | _ => false)
        | _ => false))
    | _, _ => false)
  | _ => false
def errB (K : PySem.W.Frag) (C fI : Addr) (q f : Str) : Bool :=
  errCB K C && (He.eqO (PySem.W.findIn K (.ref C) "__setattr__") (some (some (.builtin "object.__setattr__"))) && (He.eqO (PySem.W.findIn K (.ref C) f) (some none) && (He.eqO (PySem.W.findIn K (.ref C) "__init__") (some (some (.ref fI))) &&
  (oV (PySem.W.typeIn K (.ref fI)) (some (.type "function")) && (PySem.W.keepIn K (.ref C) && (oB (PySem.W.subIn K (.ref C) (.type "BaseException")) (some true) && (oB (PySem.W.subIn K (.ref C) (.type "ValueError")) (some true) &&
  (oV (PySem.W.typeIn K (.ref C)) (some (.type "type")) && (He.eqO (PySem.W.ks_superIn K C C "__init__") (some (some (.builtin "ValueError.__init__"))) && (oB (PySem.W.mroIn K C (.ref C)) (some true) && (He.eqO (PySem.W.nsIn K cStatics "thirdparty.any") (some none) && clB K fI C q)))))))))))

theorem err_ok {K : PySem.W.Frag} {mg : Str → Option Value} {C fI : Addr} {q f msg : Str} {st : Stmt} (hsup : mg "super" = none) (c : errB K C fI q f = true)
    (e : fnA K fI = some (("__init__" : Str), q, defArgs st, FuncBody.stmts (defBody st), defScope st, mainGlobals, (["__class__"] : List Str), Value.none, Value.none, builtinsNs))
    (ha : ∃ p1 p2, defArgs st = PySem.TWX.eA f p1 p2) (hb : ∃ j p0 p1 p2 p3 p4 p5 q1 q2 q3 q4, defBody st = PySem.TWX.eB f msg j p0 p1 p2 p3 p4 p5 q1 q2 q3 q4 ∧ (p2.endLine == p4.line) = true) (hs : defScope st = PySem.TWX.eS f) : PySem.TWX.Err P0 K mg C fI q f msg := by
  obtain ⟨c1, c⟩ := He.ba c
  obtain ⟨c2, c⟩ := He.ba c
  obtain ⟨c3, c⟩ := He.ba c
  obtain ⟨c4, c⟩ := He.ba c
  obtain ⟨c5, c⟩ := He.ba c
  obtain ⟨c6, c⟩ := He.ba c
  obtain ⟨c7, c⟩ := He.ba c
  obtain ⟨c8, c⟩ := He.ba c
  obtain ⟨c9, c⟩ := He.ba c
  obtain ⟨c10, c⟩ := He.ba c
  obtain ⟨c11, c⟩ := He.ba c
  obtain ⟨c12, c13⟩ := He.ba c
  refine ⟨errCB_ok c1, He.eqO_ok c2, He.eqO_ok c3, He.eqO_ok c4, oV_ok c5, c6, oB_ok c7, oB_ok c8, oV_ok c9, He.eqO_ok c10, oB_ok c11, He.eqO_ok c12, hsup, by kernel_rfl, ?_⟩
  obtain ⟨a1, a2, ha⟩ := ha
  obtain ⟨j, p0, p1, p2, p3, p4, p5, q1, q2, q3, q4, hb, hline⟩ := hb
  unfold fnA at e
  unfold clB at c13
  cases h : K.lookup fI with
  | none =>
    rw [h] at c13
    cases c13
  | some o =>
    obtain ⟨oc, od, dt, osl⟩ := o
    rw [h] at c13 e
    cases dt with
    | func fd =>
      obtain ⟨n1, n2, n3, n4, n5, n6, n7, n8, n9, n10, n11, n12, n13, n14, n15⟩ := fd
      have e2 : (some (n1, n2, n3, n4, n5, n6, n7.map (·.1), n8, n9, n15) : FnA) = some (("__init__" : Str), q, defArgs st, FuncBody.stmts (defBody st), defScope st, mainGlobals, (["__class__"] : List Str), Value.none, Value.none, builtinsNs) := e
      simp only [Option.some.injEq, Prod.mk.injEq] at e2
      obtain ⟨h1, h2, h3, h4, h5, h6, h7, h8, h9, h10⟩ := e2
      rw [ha] at h3
      rw [hb] at h4
      rw [hs] at h5
      subst h1 h2 h3 h4 h5 h6 h8 h9 h10
      cases n13 with
      | ref cda =>
        cases n7 with
        | nil => cases c13
        | cons x r =>
          cases r with
          | cons y r => cases c13
          | nil =>
            obtain ⟨nm, cc⟩ := x
            obtain ⟨d1, d⟩ := He.ba c13
            obtain ⟨d2, d3⟩ := He.ba d
            have h7' : nm = ("__class__" : Str) := (List.cons.inj (show [nm] = [("__class__" : Str)] from h7)).1
            subst h7'
            split at d2
            · rename_i cl cld D csl hcell
              have eD := beq_iff_eq.mp d2
              subst eD
              split at d3
              · rename_i ccl cdd vs ccs hcode
                split at d3
                · rename_i file tf hvs
                  exact ⟨oc, od, n10, n11, n12, n14, osl, cda, cc, j, a1, a2, p0, p1, p2, p3, p4, p5, q1, q2, q3, q4, rfl, d1, ⟨cl, cld, csl, hcell⟩, ccl, cdd, vs, ccs, file, tf, hcode, hvs, d3, hline⟩
                · cases d3
              · cases d3
            · cases d2
      | _ => cases c13
    | _ => cases c13
def errB2 (K : PySem.W.Frag) (C fI : Addr) (q f g : Str) : Bool :=
  errCB K C && (He.eqO (PySem.W.findIn K (.ref C) "__setattr__") (some (some (.builtin "object.__setattr__"))) && (He.eqO (PySem.W.findIn K (.ref C) f) (some none) && (He.eqO (PySem.W.findIn K (.ref C) g) (some none) && (He.eqO (PySem.W.findIn K (.ref C) "__init__") (some (some (.ref fI))) &&
  (oV (PySem.W.typeIn K (.ref fI)) (some (.type "function")) && (PySem.W.keepIn K (.ref C) && (oB (PySem.W.subIn K (.ref C) (.type "BaseException")) (some true) && (oB (PySem.W.subIn K (.ref C) (.type "ValueError")) (some true) &&
  (oV (PySem.W.typeIn K (.ref C)) (some (.type "type")) && (He.eqO (PySem.W.ks_superIn K C C "__init__") (some (some (.builtin "ValueError.__init__"))) && (oB (PySem.W.mroIn K C (.ref C)) (some true) && (He.eqO (PySem.W.nsIn K cStatics "thirdparty.any") (some none) && clB K fI C q))))))))))))
theorem err_ok2 {K : PySem.W.Frag} {mg : Str → Option Value} {C fI : Addr} {q f g msg : Str} {st : Stmt} (hsup : mg "super" = none) (c : errB2 K C fI q f g = true)
    (e : fnA K fI = some (("__init__" : Str), q, defArgs st, FuncBody.stmts (defBody st), defScope st, mainGlobals, (["__class__"] : List Str), Value.none, Value.none, builtinsNs))
    (ha : ∃ p1 p2 p3, defArgs st = PySem.TWY.eA f g p1 p2 p3) (hb : ∃ j p0 p1 p2 p3 p4 p5 q1 q2 q3 q4 r1 r2 r3 r4, defBody st = PySem.TWY.eB f g msg j p0 p1 p2 p3 p4 p5 q1 q2 q3 q4 r1 r2 r3 r4 ∧ (p2.endLine == p4.line) = true) (hs : defScope st = PySem.TWY.eS f g) : PySem.TWY.Err P0 K mg C fI q f g msg := by
  obtain ⟨c1, c⟩ := He.ba c
  obtain ⟨c2, c⟩ := He.ba c
  obtain ⟨c3, c⟩ := He.ba c
  obtain ⟨c3g, c⟩ := He.ba c
  obtain ⟨c4, c⟩ := He.ba c
  obtain ⟨c5, c⟩ := He.ba c
  obtain ⟨c6, c⟩ := He.ba c
  obtain ⟨c7, c⟩ := He.ba c
  obtain ⟨c8, c⟩ := He.ba c
  obtain ⟨c9, c⟩ := He.ba c
  obtain ⟨c10, c⟩ := He.ba c
  obtain ⟨c11, c⟩ := He.ba c
  obtain ⟨c12, c13⟩ := He.ba c
  refine ⟨errCB_ok c1, He.eqO_ok c2, He.eqO_ok c3, He.eqO_ok c3g, He.eqO_ok c4, oV_ok c5, c6, oB_ok c7, oB_ok c8, oV_ok c9, He.eqO_ok c10, oB_ok c11, He.eqO_ok c12, hsup, by kernel_rfl, ?_⟩
  obtain ⟨a1, a2, a3, ha⟩ := ha
  obtain ⟨j, p0, p1, p2, p3, p4, p5, q1, q2, q3, q4, r1, r2, r3, r4, hb, hline⟩ := hb
  unfold fnA at e
  unfold clB at c13
  cases h : K.lookup fI with
  | none =>
    rw [h] at c13
    cases c13
  | some o =>
    obtain ⟨oc, od, dt, osl⟩ := o
    rw [h] at c13 e
    cases dt with
    | func fd =>
      obtain ⟨n1, n2, n3, n4, n5, n6, n7, n8, n9, n10, n11, n12, n13, n14, n15⟩ := fd
      have e2 : (some (n1, n2, n3, n4, n5, n6, n7.map (·.1), n8, n9, n15) : FnA) = some (("__init__" : Str), q, defArgs st, FuncBody.stmts (defBody st), defScope st, mainGlobals, (["__class__"] : List Str), Value.none, Value.none, builtinsNs) := e
      simp only [Option.some.injEq, Prod.mk.injEq] at e2
      obtain ⟨h1, h2, h3, h4, h5, h6, h7, h8, h9, h10⟩ := e2
      rw [ha] at h3
      rw [hb] at h4
      rw [hs] at h5
      subst h1 h2 h3 h4 h5 h6 h8 h9 h10
      cases n13 with
      | ref cda =>
        cases n7 with
        | nil => cases c13
        | cons x r =>
          cases r with
          | cons y r => cases c13
          | nil =>
            obtain ⟨nm, cc⟩ := x
            obtain ⟨d1, d⟩ := He.ba c13
            obtain ⟨d2, d3⟩ := He.ba d
            have h7' : nm = ("__class__" : Str) := (List.cons.inj (show [nm] = [("__class__" : Str)] from h7)).1
            subst h7'
            split at d2
            · rename_i cl cld D csl hcell
              have eD := beq_iff_eq.mp d2
              subst eD
              split at d3
              · rename_i ccl cdd vs ccs hcode
                split at d3
                · rename_i file tf hvs
                  exact ⟨oc, od, n10, n11, n12, n14, osl, cda, cc, j, a1, a2, a3, p0, p1, p2, p3, p4, p5, q1, q2, q3, q4, r1, r2, r3, r4, rfl, d1, ⟨cl, cld, csl, hcell⟩, ccl, cdd, vs, ccs, file, tf, hcode, hvs, d3, hline⟩
                · cases d3
              · cases d3
            · cases d2
      | _ => cases c13
    | _ => cases c13
def excB (K : PySem.W.Frag) (C : Addr) : Bool := L2.xfB K C && (He.eqO (PySem.W.findIn K (.ref C) "__class__") (some (some (.builtin "object.__class__"))) && (He.eqO (PySem.W.specialIn K (.builtin "object.__class__") "__get__") (some (some (.builtin "getset_descriptor.__get__"))) &&
  (oB (PySem.W.takesIn K (.builtin "object.__class__")) (some true) && oB (PySem.W.mroIn K C (.type "object")) (some true))))
theorem excB_ok {K : PySem.W.Frag} {C : Addr} (c : excB K C = true) : XfC K C ∧ ExcC K C := by
  obtain ⟨c1, c⟩ := He.ba c
  obtain ⟨c2, c⟩ := He.ba c
  obtain ⟨c3, c⟩ := He.ba c
  obtain ⟨c4, c5⟩ := He.ba c
  have x := L2.xfB_ok c1
  exact ⟨x, ⟨x.ga, x.gg, x.exC, x.hdC, He.eqO_ok c2, He.eqO_ok c3, oB_ok c4, oB_ok c5⟩⟩
/-! ### what else is asked of the written part -/
def propB (K : PySem.W.Frag) (C : Addr) (f : Str) (p g : Addr) : Bool := He.eqO (PySem.W.findIn K (.ref C) f) (some (some (.ref p))) && (He.eqO (PySem.W.specialIn K (.ref p) "__get__") (some (some (.builtin "property.__get__"))) && (oB (PySem.W.takesIn K (.ref p)) (some true) &&
  (match PySem.W.recIn K p "property" with
  | some (.ref g' :: _) => g' == g
  | _ => false)))
theorem propB_ok {K : PySem.W.Frag} {C : Addr} {f : Str} {p g : Addr} (c : propB K C f p g = true) : PropOf K C f p g := by
  obtain ⟨c1, c⟩ := He.ba c
  obtain ⟨c2, c⟩ := He.ba c
  obtain ⟨c3, c4⟩ := He.ba c
  refine ⟨He.eqO_ok c1, He.eqO_ok c2, oB_ok c3, ?_⟩
  split at c4
  · rename_i g' rest h
    rw [beq_iff_eq.mp c4] at h
    exact ⟨rest, h⟩
  · cases c4
def fiV (K : PySem.W.Frag) (C : Addr) (f : Str) (i : Int) : Bool := match PySem.W.findCls K (.ref C) (.type "type") f with
  | some (.val (.int j _)) => decide (j = i)
  | _ => false
theorem fiV_ok {K : PySem.W.Frag} {C : Addr} {f : Str} {i : Int} (c : fiV K C f i = true) : ∃ u, ClX.CVal K C (.type "type") f (.int i) u := by
  unfold fiV at c
  split at c
  · rename_i j t h
    have e := of_decide_eq_true c
    subst e
    exact ⟨_, h, ⟨t, rfl⟩⟩
  · cases c
def cmB (K : PySem.W.Frag) (C : Addr) (m : Str) (p g : Addr) : Bool := (match PySem.W.findCls K (.ref C) (.type "type") m with
  | some (.get (.builtin b) (.ref p') .none (.ref C')) => b == "classmethod.__get__" && (p' == p && C' == C)
  | _ => false) && ((match PySem.W.recIn K p "classmethod" with
  | some (.ref g' :: _) => g' == g
  | _ => false) && PySem.W.fnIn K g)
theorem cmB_ok {K : PySem.W.Frag} {C : Addr} {m : Str} {p g : Addr} (c : cmB K C m p g = true) : ClX.CMet K C (.type "type") m p g := by
  obtain ⟨c1, c⟩ := He.ba c
  obtain ⟨c2, c3⟩ := He.ba c
  refine ⟨?_, ?_, c3⟩
  · split at c1
    · rename_i b p' C' h
      obtain ⟨d1, d⟩ := He.ba c1
      obtain ⟨d2, d3⟩ := He.ba d
      rw [h, beq_iff_eq.mp d1, beq_iff_eq.mp d2, beq_iff_eq.mp d3]
    · cases c1
  · split at c2
    · rename_i g' rest h
      rw [beq_iff_eq.mp c2] at h
      exact ⟨rest, h⟩
    · cases c2
def conB (K : PySem.W.Frag) (C : Addr) (f : Str) (i : Int) : Bool := match PySem.W.findIn K (.ref C) f with
  | some (some (.int j t)) => decide (j = i) && (He.eqO (PySem.W.specialIn K (.int j t) "__get__") (some none) && !(PySem.W.copiedNames.contains f))
  | _ => false
theorem conB_ok {K : PySem.W.Frag} {C : Addr} {f : Str} {i : Int} (c : conB K C f i = true) : ∃ u, Con K C f (.int i) u := by
  unfold conB at c
  split at c
  · rename_i j t h
    obtain ⟨c1, c⟩ := He.ba c
    obtain ⟨c2, c3⟩ := He.ba c
    have e := of_decide_eq_true c1
    subst e
    exact ⟨_, h, ⟨t, rfl⟩, He.eqO_ok c2, by simpa using c3⟩
  · cases c

def exL (K : PySem.W.Frag) : List Bool := ([propB K (CT K) "whole" (mT K "whole") (gW K), He.eqO (PySem.W.findIn K (.ref (CT K)) "__class__") (some (some (.builtin "object.__class__"))), He.eqO (PySem.W.specialIn K (.builtin "object.__class__") "__get__") (some (some (.builtin "getset_descriptor.__get__"))), oB (PySem.W.takesIn K (.builtin "object.__class__")) (some true), oB (PySem.W.mroIn K (CT K) (.type "object")) (some true), errB K (CBN K) (He.ma K (CBN K) "__init__") "BadName.__init__" "name", excB K (CBN K), errB K (CBC K) (He.ma K (CBC K) "__init__") "BadCount.__init__" "count"] : List Bool) ++ ([excB K (CBC K), errB K (CBL K) (He.ma K (CBL K) "__init__") "BadLine.__init__" "line", excB K (CBL K), errB2 K (CBT K) (He.ma K (CBT K) "__init__") "BadTable.__init__" "row" "reason", excB K (CBT K), errB K (CUn K) (He.ma K (CUn K) "__init__") "Unknown.__init__" "name", excB K (CUn K), oB (PySem.W.exmOne K (.ref (CBN K)) (.ref (CBN K))) (some true)] : List Bool) ++ ([oB (PySem.W.exmOne K (.ref (CBC K)) (.ref (CBN K))) (some false), oB (PySem.W.exmOne K (.ref (CBC K)) (.ref (CBC K))) (some true), oB (PySem.W.exmOne K (.ref (CBL K)) (.ref (CBN K))) (some false), oB (PySem.W.exmOne K (.ref (CBL K)) (.ref (CBC K))) (some false), oB (PySem.W.exmOne K (.ref (CBL K)) (.ref (CBL K))) (some true), oB (PySem.W.exmOne K (.ref (CBT K)) (.ref (CBN K))) (some false), oB (PySem.W.exmOne K (.ref (CBT K)) (.ref (CBC K))) (some false), oB (PySem.W.exmOne K (.ref (CBT K)) (.ref (CBL K))) (some false)] : List Bool) ++ ([oB (PySem.W.exmOne K (.ref (CBT K)) (.ref (CBT K))) (some true), oB (PySem.W.exmOne K (.ref (CUn K)) (.ref (CUn K))) (some true), oB (PySem.W.kitOne K (.ref (CUn K)) (.ref (CW K))) (some true), oB (PySem.W.kitOne K (.ref (CUn K)) (.type "ValueError")) (some true), oB (PySem.W.kitOne K (.ref (CUn K)) (.ref (CBT K))) (some false), oB (PySem.W.kitOne K (.ref (CBT K)) (.ref (CW K))) (some true), He.eqO (PySem.W.findIn K (.ref (CM K)) "__class__") (some (some (.builtin "object.__class__"))), oB (PySem.W.mroIn K (CM K) (.type "object")) (some true)] : List Bool) ++ ([oB (PySem.W.kitOne K (.ref (CTb K)) (.type "tuple")) (some false), fiV K (CTb K) "MOST_ROWS" 10, He.eqO (PySem.W.findIn K (.ref (CTb K)) "__class__") (some (some (.builtin "object.__class__"))), oB (PySem.W.mroIn K (CTb K) (.type "object")) (some true), PySem.W.readsIn K (CTb K) (.type "type"), He.eqO (PySem.W.specialIn K (.ref (CTb K)) "__getattribute__") (some (some (.builtin "type.__getattribute__"))), cmB K (CTb K) "read" (mTb K "read") (gTR K), cdB K (gTR K) "Table.read"] : List Bool) ++ ([fiV K (CTb K) "MOST_KINDS" 3, conB K (CTb K) "MOST_ROWS" 10] : List Bool)
abbrev s_ebn : Stmt := inClass (top 6) 0
abbrev s_ebc : Stmt := inClass (top 5) 0
abbrev s_ebl : Stmt := inClass (top 8) 0
abbrev s_ebt : Stmt := inClass (top 7) 0
abbrev s_eunk : Stmt := inClass (top 9) 0
abbrev AlZ : Type := He.AlD × Bool × List FnA
abbrev fnsZ (K : PySem.W.Frag) : List FnA := [fnA K (gTR K), fnA K (He.ma K (CBN K) "__init__"), fnA K (He.ma K (CBC K) "__init__"), fnA K (He.ma K (CBL K) "__init__"), fnA K (He.ma K (CBT K) "__init__"), fnA K (He.ma K (CUn K) "__init__")]
def obsZ (K : PySem.W.Frag) : AlZ := (He.obsD faL fnL K, (exL K).all id, fnsZ K)
abbrev vF0 : FnA := some ("read", "Table.read", defArgs s_Table_read, .stmts (defBody s_Table_read), defScope s_Table_read, mainGlobals, [], .none, .none, builtinsNs)
abbrev vF1 : FnA := some ("__init__", "BadName.__init__", defArgs s_ebn, .stmts (defBody s_ebn), defScope s_ebn, mainGlobals, ["__class__"], .none, .none, builtinsNs)
abbrev vF2 : FnA := some ("__init__", "BadCount.__init__", defArgs s_ebc, .stmts (defBody s_ebc), defScope s_ebc, mainGlobals, ["__class__"], .none, .none, builtinsNs)
abbrev vF3 : FnA := some ("__init__", "BadLine.__init__", defArgs s_ebl, .stmts (defBody s_ebl), defScope s_ebl, mainGlobals, ["__class__"], .none, .none, builtinsNs)
abbrev vF4 : FnA := some ("__init__", "BadTable.__init__", defArgs s_ebt, .stmts (defBody s_ebt), defScope s_ebt, mainGlobals, ["__class__"], .none, .none, builtinsNs)
abbrev vF5 : FnA := some ("__init__", "Unknown.__init__", defArgs s_eunk, .stmts (defBody s_eunk), defScope s_eunk, mainGlobals, ["__class__"], .none, .none, builtinsNs)
def valZ : AlZ := (He.valD fnL, true, [vF0, vF1, vF2, vF3, vF4, vF5])
/-! the addresses that are reached, each once: what was seen is a number's bits -/
def addA : List Addr → Nat → List Addr → Nat × List Addr
  | [], m, acc => (m, acc)
  | a :: r, m, acc => match Nat.beq (Nat.land (Nat.shiftRight m a) 1) 1 with
    | true => addA r m acc
    | false => addA r (Nat.lor m (Nat.shiftLeft 1 a)) (a :: acc)
def growZ (g : Addr → Option Obj) : Nat → Nat → List Addr → List Addr → List Addr
  | 0, _, acc, fr => acc ++ fr
  | n + 1, m, acc, fr => match addA (fr.flatMap fun a => match g a with | some o => He.refsD o | none => []) m [] with
    | (m', ns) => growZ g n m' (acc ++ fr) ns.reverse
def asZ (g : Addr → Option Obj) : List Addr := growZ g 5 (Nat.shiftLeft 1 mainGlobals) [] [mainGlobals]
def obsZG (g : Addr → Option Obj) : AlZ := obsZ (He.frG g (cStatics :: asZ g))
def hkZ : PySem.W.Hook where
  α := AlZ
  obs := fun s => obsZG s.heap.get?
  val := fun _ => valZ
  says := fun _ h => ∃ K : PySem.W.Frag, K.In h ∧ obsZ K = valZ
  of := fun _ _ e => ⟨_, He.frG_in, e⟩
  keeps := fun _ _ _ ⟨K, hK, c⟩ k => ⟨K, PySem.W.Frag.In.keeps hK k, c⟩
abbrev R0 : PySem.W.OpenRow := PySem.W.OpenLaw.row PySem.Challenge.rw_treeworks_k04_table_descriptions
def obZ (s : PySem.W.SharedT) : AlZ := obsZG (HandSHeadRun.getT s)
theorem obZ_eq (s : PySem.W.SharedT) : obZ s = hkZ.obs s.abs := by
  have e : HandSHeadRun.getT s = s.abs.heap.get? := funext (HandSHeadRun.getT_eq s)
  show obsZG (HandSHeadRun.getT s) = obsZG s.abs.heap.get?
  rw [e]
def looseL : List PySem.Str := (["_wall", "WorkError", "BadTerm", "NoPlace", "BadCount", "BadName", "BadTable", "BadLine", "Unknown", "CAPITALS", "SMALL_LETTERS", "DIGITS"] : List PySem.Str) ++ (["NAME_CHARACTERS", "LONGEST_NAME", "MOST_PARTS", "is_big", "is_small", "name_at", "Tree", "digit", "SIGNS", "MOST_WANTS", "MOST_TREE_WANTS", "LONGEST_FORM"] : List PySem.Str) ++ (["Maker", "Table", "kinds_of", "line_of", "least_trees", "is_form", "fault_alone", "check_rows", "start_of", "_law_pool_of", "_law_draw", "_law_name_of"] : List PySem.Str) ++ (["_law_small", "_law_fresh", "_law_wanted", "_law_shaped", "_law_menu", "_law_table_rows", "_law_described", "_law_kinds_of", "_law_pick", "_law_odd_word", "_law_odd_sign", "_law_bent_row"] : List PySem.Str) ++ (["_law_bent", "_law_grounds", "_law_big", "_law_is_small", "_law_formed", "_law_alone", "_law_start", "_law_fault", "_law_table", "_law_built", "_law_lines", "_law_least"] : List PySem.Str) ++ (["_law_maker_good", "_law_unknown", "_law_table_good", "_law_so", "_law_read_so", "_law_spoilt", "_law_equal"] : List PySem.Str)
/-! the run, part by part -/
def KK (s : PySem.W.SharedT) : PySem.W.Frag := He.frG (HandSHeadRun.getT s) (cStatics :: asZ (HandSHeadRun.getT s))
namespace RunZ
open PySem PySem.W PySem.Calls PyProof.Rows HandSHeadRun
noncomputable def en (w : World) (os : OsState) : Option SharedT := endF (stepQ (denQ tabQ) R0.prog w) 20000 R0.prog w os
theorem run_a (w : World) (os : OsState) : (en w os).map (fun s => looksF R0.prog (boot_heap w.params) s.abs) = some true := by kernel_rfl
theorem run_b (w : World) (os : OsState) : (en w os).map (fun s => seenQ (PySem.W.view R0.prog [71]) looseL (importedModules R0.prog.main.body) (fun s => xlAt (PySem.W.view R0.prog [71]) [] s && recOk R0.toRowW.records s) s.abs) = some (openGood (PySem.W.view R0.prog [71]) looseL) := by kernel_rfl
theorem run_c1 (w : World) (os : OsState) : (en w os).map (fun s => faL.all fun f => f.ok (KK s)) = some true := by kernel_rfl
theorem run_c2 (w : World) (os : OsState) : (en w os).map (fun s => fnL.all fun f => f.ok (KK s)) = some true := by kernel_rfl
theorem run_c3 (w : World) (os : OsState) : (en w os).map (fun s => fnL.map fun d => He.fnW (KK s) d.at_) = some (fnL.map He.DefD.val) := by kernel_rfl
theorem run_c4 (w : World) (os : OsState) : (en w os).map (fun s => (exL (KK s)).all id) = some true := by kernel_rfl
theorem run_c5 (w : World) (os : OsState) : (en w os).map (fun s => fnsZ (KK s)) = some [vF0, vF1, vF2, vF3, vF4, vF5] := by kernel_rfl
end RunZ
theorem run0 (w : World) : HandSHeadRun.RunEq R0 (PySem.W.view R0.prog [71]) hkZ obZ 20000 looseL w := by
  intro os
  have a := RunZ.run_a w os
  have b := RunZ.run_b w os
  have c1 := RunZ.run_c1 w os
  have c2 := RunZ.run_c2 w os
  have c3 := RunZ.run_c3 w os
  have c4 := RunZ.run_c4 w os
  have c5 := RunZ.run_c5 w os
  show (RunZ.en w os).map (fun s => (_, _, obZ s)) = _
  generalize RunZ.en w os = o at a b c1 c2 c3 c4 c5 ⊢
  cases o with
  | none => cases a
  | some s =>
    have a := Option.some.inj a
    have b := Option.some.inj b
    have c1 := Option.some.inj c1
    have c2 := Option.some.inj c2
    have c3 := Option.some.inj c3
    have c4 := Option.some.inj c4
    have c5 := Option.some.inj c5
    have c12 : ((faL.all fun f => f.ok (KK s)) && fnL.all fun f => f.ok (KK s)) = true := Bool.and_eq_true_iff.mpr ⟨c1, c2⟩
    exact congrArg some (Prod.ext a (Prod.ext b (Prod.ext (Prod.ext c12 c3) (Prod.ext c4 c5))))

section
variable {K : PySem.W.Frag} {h : Heap} {mg : Str → Option Value}
theorem mk_Tx (X : K.In h) (G : h.Ns mainGlobals mg) (c : He.SaysD faL fnL K) : Tx K mg where
  d_is_big := (c.def_ 0 (d := dd_is_big) rfl)
  v_is_big := He.glo_ok X G (c.fact 0 (f := .glo "is_big") rfl)
  k_is_big := by obtain ⟨_, F⟩ := (c.def_ 0 (d := dd_is_big) rfl); exact F.kp
  d_is_small := (c.def_ 1 (d := dd_is_small) rfl)
  v_is_small := He.glo_ok X G (c.fact 1 (f := .glo "is_small") rfl)
  k_is_small := by obtain ⟨_, F⟩ := (c.def_ 1 (d := dd_is_small) rfl); exact F.kp
  d_name_at := (c.def_ 2 (d := dd_name_at) rfl)
  v_name_at := He.glo_ok X G (c.fact 2 (f := .glo "name_at") rfl)
  k_name_at := by obtain ⟨_, F⟩ := (c.def_ 2 (d := dd_name_at) rfl); exact F.kp
  d_digit := (c.def_ 3 (d := dd_digit) rfl)
  v_digit := He.glo_ok X G (c.fact 3 (f := .glo "digit") rfl)
  k_digit := by obtain ⟨_, F⟩ := (c.def_ 3 (d := dd_digit) rfl); exact F.kp
  d_kinds_of := (c.def_ 4 (d := dd_kinds_of) rfl)
  v_kinds_of := He.glo_ok X G (c.fact 4 (f := .glo "kinds_of") rfl)
  k_kinds_of := by obtain ⟨_, F⟩ := (c.def_ 4 (d := dd_kinds_of) rfl); exact F.kp
  d_line_of := (c.def_ 5 (d := dd_line_of) rfl)
  v_line_of := He.glo_ok X G (c.fact 5 (f := .glo "line_of") rfl)
  k_line_of := by obtain ⟨_, F⟩ := (c.def_ 5 (d := dd_line_of) rfl); exact F.kp
  d_least_trees := (c.def_ 6 (d := dd_least_trees) rfl)
  v_least_trees := He.glo_ok X G (c.fact 6 (f := .glo "least_trees") rfl)
  k_least_trees := by obtain ⟨_, F⟩ := (c.def_ 6 (d := dd_least_trees) rfl); exact F.kp
  d_is_form := (c.def_ 7 (d := dd_is_form) rfl)
  v_is_form := He.glo_ok X G (c.fact 7 (f := .glo "is_form") rfl)
  k_is_form := by obtain ⟨_, F⟩ := (c.def_ 7 (d := dd_is_form) rfl); exact F.kp
  d_fault_alone := (c.def_ 8 (d := dd_fault_alone) rfl)
  v_fault_alone := He.glo_ok X G (c.fact 8 (f := .glo "fault_alone") rfl)
  k_fault_alone := by obtain ⟨_, F⟩ := (c.def_ 8 (d := dd_fault_alone) rfl); exact F.kp
  d_check_rows := (c.def_ 9 (d := dd_check_rows) rfl)
  v_check_rows := He.glo_ok X G (c.fact 9 (f := .glo "check_rows") rfl)
  k_check_rows := by obtain ⟨_, F⟩ := (c.def_ 9 (d := dd_check_rows) rfl); exact F.kp
  d_start_of := (c.def_ 10 (d := dd_start_of) rfl)
  v_start_of := He.glo_ok X G (c.fact 10 (f := .glo "start_of") rfl)
  k_start_of := by obtain ⟨_, F⟩ := (c.def_ 10 (d := dd_start_of) rfl); exact F.kp
  d_law_pool_of := (c.def_ 11 (d := dd_law_pool_of) rfl)
  v_law_pool_of := He.glo_ok X G (c.fact 11 (f := .glo "_law_pool_of") rfl)
  k_law_pool_of := by obtain ⟨_, F⟩ := (c.def_ 11 (d := dd_law_pool_of) rfl); exact F.kp
  d_law_draw := (c.def_ 12 (d := dd_law_draw) rfl)
  v_law_draw := He.glo_ok X G (c.fact 12 (f := .glo "_law_draw") rfl)
  k_law_draw := by obtain ⟨_, F⟩ := (c.def_ 12 (d := dd_law_draw) rfl); exact F.kp
  d_law_name_of := (c.def_ 13 (d := dd_law_name_of) rfl)
  v_law_name_of := He.glo_ok X G (c.fact 13 (f := .glo "_law_name_of") rfl)
  k_law_name_of := by obtain ⟨_, F⟩ := (c.def_ 13 (d := dd_law_name_of) rfl); exact F.kp
  d_law_small := (c.def_ 14 (d := dd_law_small) rfl)
  v_law_small := He.glo_ok X G (c.fact 14 (f := .glo "_law_small") rfl)
  k_law_small := by obtain ⟨_, F⟩ := (c.def_ 14 (d := dd_law_small) rfl); exact F.kp
  d_law_fresh := (c.def_ 15 (d := dd_law_fresh) rfl)
  v_law_fresh := He.glo_ok X G (c.fact 15 (f := .glo "_law_fresh") rfl)
  k_law_fresh := by obtain ⟨_, F⟩ := (c.def_ 15 (d := dd_law_fresh) rfl); exact F.kp
  d_law_wanted := (c.def_ 16 (d := dd_law_wanted) rfl)
  v_law_wanted := He.glo_ok X G (c.fact 16 (f := .glo "_law_wanted") rfl)
  k_law_wanted := by obtain ⟨_, F⟩ := (c.def_ 16 (d := dd_law_wanted) rfl); exact F.kp
  d_law_shaped := (c.def_ 17 (d := dd_law_shaped) rfl)
  v_law_shaped := He.glo_ok X G (c.fact 17 (f := .glo "_law_shaped") rfl)
  k_law_shaped := by obtain ⟨_, F⟩ := (c.def_ 17 (d := dd_law_shaped) rfl); exact F.kp
  d_law_menu := (c.def_ 18 (d := dd_law_menu) rfl)
  v_law_menu := He.glo_ok X G (c.fact 18 (f := .glo "_law_menu") rfl)
  k_law_menu := by obtain ⟨_, F⟩ := (c.def_ 18 (d := dd_law_menu) rfl); exact F.kp
  d_law_table_rows := (c.def_ 19 (d := dd_law_table_rows) rfl)
  v_law_table_rows := He.glo_ok X G (c.fact 19 (f := .glo "_law_table_rows") rfl)
  k_law_table_rows := by obtain ⟨_, F⟩ := (c.def_ 19 (d := dd_law_table_rows) rfl); exact F.kp
  d_law_described := (c.def_ 20 (d := dd_law_described) rfl)
  v_law_described := He.glo_ok X G (c.fact 20 (f := .glo "_law_described") rfl)
  k_law_described := by obtain ⟨_, F⟩ := (c.def_ 20 (d := dd_law_described) rfl); exact F.kp
  d_law_kinds_of := (c.def_ 21 (d := dd_law_kinds_of) rfl)
  v_law_kinds_of := He.glo_ok X G (c.fact 21 (f := .glo "_law_kinds_of") rfl)
  k_law_kinds_of := by obtain ⟨_, F⟩ := (c.def_ 21 (d := dd_law_kinds_of) rfl); exact F.kp
  d_law_pick := (c.def_ 22 (d := dd_law_pick) rfl)
  v_law_pick := He.glo_ok X G (c.fact 22 (f := .glo "_law_pick") rfl)
  k_law_pick := by obtain ⟨_, F⟩ := (c.def_ 22 (d := dd_law_pick) rfl); exact F.kp
  d_law_odd_word := (c.def_ 23 (d := dd_law_odd_word) rfl)
  v_law_odd_word := He.glo_ok X G (c.fact 23 (f := .glo "_law_odd_word") rfl)
  k_law_odd_word := by obtain ⟨_, F⟩ := (c.def_ 23 (d := dd_law_odd_word) rfl); exact F.kp
  d_law_odd_sign := (c.def_ 24 (d := dd_law_odd_sign) rfl)
  v_law_odd_sign := He.glo_ok X G (c.fact 24 (f := .glo "_law_odd_sign") rfl)
  k_law_odd_sign := by obtain ⟨_, F⟩ := (c.def_ 24 (d := dd_law_odd_sign) rfl); exact F.kp
  d_law_bent_row := (c.def_ 25 (d := dd_law_bent_row) rfl)
  v_law_bent_row := He.glo_ok X G (c.fact 25 (f := .glo "_law_bent_row") rfl)
  k_law_bent_row := by obtain ⟨_, F⟩ := (c.def_ 25 (d := dd_law_bent_row) rfl); exact F.kp
  d_law_bent := (c.def_ 26 (d := dd_law_bent) rfl)
  v_law_bent := He.glo_ok X G (c.fact 26 (f := .glo "_law_bent") rfl)
  k_law_bent := by obtain ⟨_, F⟩ := (c.def_ 26 (d := dd_law_bent) rfl); exact F.kp
  d_law_grounds := (c.def_ 27 (d := dd_law_grounds) rfl)
  v_law_grounds := He.glo_ok X G (c.fact 27 (f := .glo "_law_grounds") rfl)
  k_law_grounds := by obtain ⟨_, F⟩ := (c.def_ 27 (d := dd_law_grounds) rfl); exact F.kp
  d_law_big := (c.def_ 28 (d := dd_law_big) rfl)
  v_law_big := He.glo_ok X G (c.fact 28 (f := .glo "_law_big") rfl)
  k_law_big := by obtain ⟨_, F⟩ := (c.def_ 28 (d := dd_law_big) rfl); exact F.kp
  d_law_is_small := (c.def_ 29 (d := dd_law_is_small) rfl)
  v_law_is_small := He.glo_ok X G (c.fact 29 (f := .glo "_law_is_small") rfl)
  k_law_is_small := by obtain ⟨_, F⟩ := (c.def_ 29 (d := dd_law_is_small) rfl); exact F.kp
  d_law_formed := (c.def_ 30 (d := dd_law_formed) rfl)
  v_law_formed := He.glo_ok X G (c.fact 30 (f := .glo "_law_formed") rfl)
  k_law_formed := by obtain ⟨_, F⟩ := (c.def_ 30 (d := dd_law_formed) rfl); exact F.kp
  d_law_alone := (c.def_ 31 (d := dd_law_alone) rfl)
  v_law_alone := He.glo_ok X G (c.fact 31 (f := .glo "_law_alone") rfl)
  k_law_alone := by obtain ⟨_, F⟩ := (c.def_ 31 (d := dd_law_alone) rfl); exact F.kp
  d_law_start := (c.def_ 32 (d := dd_law_start) rfl)
  v_law_start := He.glo_ok X G (c.fact 32 (f := .glo "_law_start") rfl)
  k_law_start := by obtain ⟨_, F⟩ := (c.def_ 32 (d := dd_law_start) rfl); exact F.kp
  d_law_fault := (c.def_ 33 (d := dd_law_fault) rfl)
  v_law_fault := He.glo_ok X G (c.fact 33 (f := .glo "_law_fault") rfl)
  k_law_fault := by obtain ⟨_, F⟩ := (c.def_ 33 (d := dd_law_fault) rfl); exact F.kp
  d_law_table := (c.def_ 34 (d := dd_law_table) rfl)
  v_law_table := He.glo_ok X G (c.fact 34 (f := .glo "_law_table") rfl)
  k_law_table := by obtain ⟨_, F⟩ := (c.def_ 34 (d := dd_law_table) rfl); exact F.kp
  d_law_built := (c.def_ 35 (d := dd_law_built) rfl)
  v_law_built := He.glo_ok X G (c.fact 35 (f := .glo "_law_built") rfl)
  k_law_built := by obtain ⟨_, F⟩ := (c.def_ 35 (d := dd_law_built) rfl); exact F.kp
  d_law_lines := (c.def_ 36 (d := dd_law_lines) rfl)
  v_law_lines := He.glo_ok X G (c.fact 36 (f := .glo "_law_lines") rfl)
  k_law_lines := by obtain ⟨_, F⟩ := (c.def_ 36 (d := dd_law_lines) rfl); exact F.kp
  d_law_least := (c.def_ 37 (d := dd_law_least) rfl)
  v_law_least := He.glo_ok X G (c.fact 37 (f := .glo "_law_least") rfl)
  k_law_least := by obtain ⟨_, F⟩ := (c.def_ 37 (d := dd_law_least) rfl); exact F.kp
  d_law_maker_good := (c.def_ 38 (d := dd_law_maker_good) rfl)
  v_law_maker_good := He.glo_ok X G (c.fact 38 (f := .glo "_law_maker_good") rfl)
  k_law_maker_good := by obtain ⟨_, F⟩ := (c.def_ 38 (d := dd_law_maker_good) rfl); exact F.kp
  d_law_unknown := (c.def_ 39 (d := dd_law_unknown) rfl)
  v_law_unknown := He.glo_ok X G (c.fact 39 (f := .glo "_law_unknown") rfl)
  k_law_unknown := by obtain ⟨_, F⟩ := (c.def_ 39 (d := dd_law_unknown) rfl); exact F.kp
  d_law_table_good := (c.def_ 40 (d := dd_law_table_good) rfl)
  v_law_table_good := He.glo_ok X G (c.fact 40 (f := .glo "_law_table_good") rfl)
  k_law_table_good := by obtain ⟨_, F⟩ := (c.def_ 40 (d := dd_law_table_good) rfl); exact F.kp
  d_law_so := (c.def_ 41 (d := dd_law_so) rfl)
  v_law_so := He.glo_ok X G (c.fact 41 (f := .glo "_law_so") rfl)
  k_law_so := by obtain ⟨_, F⟩ := (c.def_ 41 (d := dd_law_so) rfl); exact F.kp
  d_law_read_so := (c.def_ 42 (d := dd_law_read_so) rfl)
  v_law_read_so := He.glo_ok X G (c.fact 42 (f := .glo "_law_read_so") rfl)
  k_law_read_so := by obtain ⟨_, F⟩ := (c.def_ 42 (d := dd_law_read_so) rfl); exact F.kp
  d_law_spoilt := (c.def_ 43 (d := dd_law_spoilt) rfl)
  v_law_spoilt := He.glo_ok X G (c.fact 43 (f := .glo "_law_spoilt") rfl)
  k_law_spoilt := by obtain ⟨_, F⟩ := (c.def_ 43 (d := dd_law_spoilt) rfl); exact F.kp
  d_law_equal := (c.def_ 44 (d := dd_law_equal) rfl)
  v_law_equal := He.glo_ok X G (c.fact 44 (f := .glo "_law_equal") rfl)
  k_law_equal := by obtain ⟨_, F⟩ := (c.def_ 44 (d := dd_law_equal) rfl); exact F.kp
  d_law := (c.def_ 45 (d := dd_law) rfl)
  v_law := He.glo_ok X G (c.fact 45 (f := .glo "law") rfl)
  k_law := by obtain ⟨_, F⟩ := (c.def_ 45 (d := dd_law) rfl); exact F.kp
  z_abs := He.free_ok X G (c.fact 46 (f := .free "abs") rfl)
  z_int := He.free_ok X G (c.fact 47 (f := .free "int") rfl)
  z_len := He.free_ok X G (c.fact 48 (f := .free "len") rfl)
  z_range := He.free_ok X G (c.fact 49 (f := .free "range") rfl)
  z_sum := He.free_ok X G (c.fact 50 (f := .free "sum") rfl)
  z_max := He.free_ok X G (c.fact 51 (f := .free "max") rfl)
  z_all := He.free_ok X G (c.fact 52 (f := .free "all") rfl)
  z_isinstance := He.free_ok X G (c.fact 53 (f := .free "isinstance") rfl)
  z_tuple := He.free_ok X G (c.fact 54 (f := .free "tuple") rfl)
  z_list := He.free_ok X G (c.fact 55 (f := .free "list") rfl)
  z_iter := He.free_ok X G (c.fact 56 (f := .free "iter") rfl)
  z_bool := He.free_ok X G (c.fact 57 (f := .free "bool") rfl)
  z_ValueError := He.free_ok X G (c.fact 58 (f := .free "ValueError") rfl)
  z_zip := He.free_ok X G (c.fact 59 (f := .free "zip") rfl)
  z_str := He.free_ok X G (c.fact 60 (f := .free "str") rfl)
  z_enumerate := He.free_ok X G (c.fact 61 (f := .free "enumerate") rfl)
  z_sorted := He.free_ok X G (c.fact 62 (f := .free "sorted") rfl)
theorem mk_Tc (X : K.In h) (G : h.Ns mainGlobals mg) (c : He.SaysD faL fnL K) : Tc K mg where
  v_Tree := He.glo_ok X G (c.fact 64 (f := .glo "Tree") rfl)
  cl := He.cls_ok (c.fact 73 (f := .cls "Tree") rfl)
  a_name := He.noat_ok (c.fact 75 (f := .noat "Tree" "name") rfl)
  a_parts := He.noat_ok (c.fact 76 (f := .noat "Tree" "parts") rfl)
  a_size := He.noat_ok (c.fact 77 (f := .noat "Tree" "size") rfl)
  a_levels := He.noat_ok (c.fact 78 (f := .noat "Tree" "levels") rfl)
  a_term := He.noat_ok (c.fact 79 (f := .noat "Tree" "term") rfl)
  mk_ := He.mkr_ok (c.fact 74 (f := .mkr "Tree") rfl)
  d_init := (c.def_ 46 (d := ddTree_init) rfl)
theorem mk_Tg (X : K.In h) (G : h.Ns mainGlobals mg) (c : He.SaysD faL fnL K) : Tg mg := by
  obtain ⟨t104, e104⟩ := He.str_ok X G (c.fact 104 (f := .str "CAPITALS" capS) rfl)
  obtain ⟨t105, e105⟩ := He.str_ok X G (c.fact 105 (f := .str "DIGITS" digS) rfl)
  obtain ⟨t106, e106⟩ := He.str_ok X G (c.fact 106 (f := .str "NAME_CHARACTERS" sgnS) rfl)
  obtain ⟨t107, e107⟩ := He.int_ok X G (c.fact 107 (f := .int "LONGEST_NAME" 8) rfl)
  obtain ⟨t108, e108⟩ := He.int_ok X G (c.fact 108 (f := .int "MOST_PARTS" 3) rfl)
  obtain ⟨t109, e109⟩ := He.str_ok X G (c.fact 109 (f := .str "SMALL_LETTERS" lowS) rfl)
  obtain ⟨t110, e110⟩ := He.str_ok X G (c.fact 110 (f := .str "SIGNS" fsS) rfl)
  obtain ⟨t111, e111⟩ := He.int_ok X G (c.fact 111 (f := .int "MOST_WANTS" 3) rfl)
  obtain ⟨t112, e112⟩ := He.int_ok X G (c.fact 112 (f := .int "MOST_TREE_WANTS" 2) rfl)
  obtain ⟨t113, e113⟩ := He.int_ok X G (c.fact 113 (f := .int "LONGEST_FORM" 8) rfl)
  exact ⟨⟨_, e104, t104, rfl⟩, ⟨_, e105, t105, rfl⟩, ⟨_, e106, t106, rfl⟩, ⟨_, e107, t107, rfl⟩, ⟨_, e108, t108, rfl⟩, ⟨_, e109, t109, rfl⟩, ⟨_, e110, t110, rfl⟩, ⟨_, e111, t111, rfl⟩, ⟨_, e112, t112, rfl⟩, ⟨_, e113, t113, rfl⟩⟩
theorem saysD (c : obsZ K = valZ) : He.SaysD faL fnL K := congrArg (fun z : AlZ => z.1) c
theorem ex_at (c : obsZ K = valZ) (i : Nat) {b : Bool} (h : (exL K)[i]? = some b) : b = true := by
  have e : (exL K).all id = true := congrArg (fun z : AlZ => z.2.1) c
  exact List.all_eq_true.mp e b (List.mem_of_getElem? h)
theorem fn_at (c : obsZ K = valZ) (i : Nat) {a b : FnA} (h : (fnsZ K)[i]? = some a) (h2 : ([vF0, vF1, vF2, vF3, vF4, vF5] : List FnA)[i]? = some b) : a = b := by
  have e : fnsZ K = [vF0, vF1, vF2, vF3, vF4, vF5] := congrArg (fun z : AlZ => z.2.2) c
  rw [e, h2] at h
  exact (Option.some.inj h).symm
theorem mk_Tw (z : obsZ K = valZ) : Tw K where
  p_whole := propB_ok (ex_at z 0 rfl)
  ic := He.eqO_ok (ex_at z 1 rfl)
  ig := He.eqO_ok (ex_at z 2 rfl)
  it := oB_ok (ex_at z 3 rfl)
  im := oB_ok (ex_at z 4 rfl)
theorem mk_To (c : He.SaysD faL fnL K) : To K := ⟨(He.meth_ok (c.fact 80 (f := .meth "Tree" "__lt__") rfl)).at_, (He.meth_ok (c.fact 80 (f := .meth "Tree" "__lt__") rfl)).fn, (c.def_ 47 (d := ddTree_lt) rfl), (He.meth_ok (c.fact 81 (f := .meth "Tree" "__le__") rfl)).at_, (He.meth_ok (c.fact 81 (f := .meth "Tree" "__le__") rfl)).fn, (c.def_ 48 (d := ddTree_le) rfl), (He.meth_ok (c.fact 82 (f := .meth "Tree" "__eq__") rfl)).at_, (He.meth_ok (c.fact 82 (f := .meth "Tree" "__eq__") rfl)).fn, (c.def_ 49 (d := ddTree_eq) rfl), (He.meth_ok (c.fact 83 (f := .meth "Tree" "place") rfl)), (c.def_ 50 (d := ddTree_place) rfl)⟩
theorem mk_Tk (X : K.In h) (G : h.Ns mainGlobals mg) (c : He.SaysD faL fnL K) : Tk K mg := ⟨He.glo_ok X G (c.fact 65 (f := .glo "Maker") rfl), He.cls_ok (c.fact 84 (f := .cls "Maker") rfl), He.noat_ok (c.fact 86 (f := .noat "Maker" "kind") rfl), He.noat_ok (c.fact 87 (f := .noat "Maker" "name") rfl), He.noat_ok (c.fact 88 (f := .noat "Maker" "wants") rfl), He.noat_ok (c.fact 89 (f := .noat "Maker" "form") rfl), He.mkr_ok (c.fact 85 (f := .mkr "Maker") rfl), (c.def_ 51 (d := ddMaker_init) rfl)⟩
theorem mk_Tn (X : K.In h) (G : h.Ns mainGlobals mg) (z : obsZ K = valZ) : Tn K mg := by
  have c := saysD z
  exact ⟨He.glo_ok X G (c.fact 66 (f := .glo "Table") rfl), ⟨(ex_at z 36 rfl), He.eqO_ok (ex_at z 37 rfl)⟩, fiV_ok (ex_at z 40 rfl)⟩
theorem mk_Tt (z : obsZ K = valZ) : Tt K := by
  have c := saysD z
  exact ⟨He.cls_ok (c.fact 90 (f := .cls "Table") rfl), He.noat_ok (c.fact 92 (f := .noat "Table" "name") rfl), He.noat_ok (c.fact 93 (f := .noat "Table" "kinds") rfl), He.noat_ok (c.fact 94 (f := .noat "Table" "description") rfl), He.noat_ok (c.fact 95 (f := .noat "Table" "_makers") rfl), He.noat_ok (c.fact 96 (f := .noat "Table" "_named") rfl), He.noat_ok (c.fact 97 (f := .noat "Table" "_least") rfl), conB_ok (ex_at z 41 rfl), He.mkr_ok (c.fact 91 (f := .mkr "Table") rfl), (c.def_ 52 (d := ddTable_init) rfl)⟩
theorem mk_Ttr (z : obsZ K = valZ) : Ttr K := ⟨⟨(ex_at z 36 rfl), He.eqO_ok (ex_at z 37 rfl)⟩, cmB_ok (ex_at z 38 rfl), fnA_ok (fn_at z 0 rfl rfl) (ex_at z 39 rfl)⟩
theorem mk_TeT (X : K.In h) (G : h.Ns mainGlobals mg) (z : obsZ K = valZ) : TeT P0 K mg := by
  have c := saysD z
  have hs : mg "super" = none := He.free_ok X G (c.fact 63 (f := .free "super") rfl)
  exact ⟨He.glo_ok X G (c.fact 71 (f := .glo "BadTable") rfl),
    err_ok2 (st := s_ebt) hs (ex_at z 11 rfl) (fn_at z 4 rfl rfl) ⟨_, _, _, by with_unfolding_all rfl⟩ ⟨_, _, _, _, _, _, _, _, _, _, _, _, _, _, _, by with_unfolding_all rfl, rfl⟩ (by with_unfolding_all rfl)⟩
theorem mk_TeN (X : K.In h) (G : h.Ns mainGlobals mg) (z : obsZ K = valZ) : TeN P0 K mg := by
  have c := saysD z
  have hs : mg "super" = none := He.free_ok X G (c.fact 63 (f := .free "super") rfl)
  exact ⟨He.glo_ok X G (c.fact 68 (f := .glo "BadName") rfl),
    He.glo_ok X G (c.fact 69 (f := .glo "BadCount") rfl),
    err_ok (st := s_ebn) hs (ex_at z 5 rfl) (fn_at z 1 rfl rfl) ⟨_, _, by with_unfolding_all rfl⟩ ⟨_, _, _, _, _, _, _, _, _, _, _, by with_unfolding_all rfl, rfl⟩ (by with_unfolding_all rfl),
    err_ok (st := s_ebc) hs (ex_at z 7 rfl) (fn_at z 2 rfl rfl) ⟨_, _, by with_unfolding_all rfl⟩ ⟨_, _, _, _, _, _, _, _, _, _, _, by with_unfolding_all rfl, rfl⟩ (by with_unfolding_all rfl)⟩
theorem mk_TeB (X : K.In h) (G : h.Ns mainGlobals mg) (z : obsZ K = valZ) : TeB P0 K mg := by
  have c := saysD z
  have hs : mg "super" = none := He.free_ok X G (c.fact 63 (f := .free "super") rfl)
  exact ⟨He.glo_ok X G (c.fact 70 (f := .glo "BadLine") rfl),
    err_ok (st := s_ebl) hs (ex_at z 9 rfl) (fn_at z 3 rfl rfl) ⟨_, _, by with_unfolding_all rfl⟩ ⟨_, _, _, _, _, _, _, _, _, _, _, by with_unfolding_all rfl, rfl⟩ (by with_unfolding_all rfl)⟩
theorem mk_TeU (X : K.In h) (G : h.Ns mainGlobals mg) (z : obsZ K = valZ) : TeU P0 K mg := by
  have c := saysD z
  have hs : mg "super" = none := He.free_ok X G (c.fact 63 (f := .free "super") rfl)
  exact ⟨He.glo_ok X G (c.fact 72 (f := .glo "Unknown") rfl),
    err_ok (st := s_eunk) hs (ex_at z 13 rfl) (fn_at z 5 rfl rfl) ⟨_, _, by with_unfolding_all rfl⟩ ⟨_, _, _, _, _, _, _, _, _, _, _, by with_unfolding_all rfl, rfl⟩ (by with_unfolding_all rfl)⟩
theorem mk_Til (z : obsZ K = valZ) : Til K := by
  have c := saysD z
  exact ⟨(He.meth_ok (c.fact 98 (f := .meth "Table" "__iter__") rfl)).at_, (He.meth_ok (c.fact 98 (f := .meth "Table" "__iter__") rfl)).fn, (c.def_ 53 (d := ddTable_iter) rfl), (He.meth_ok (c.fact 99 (f := .meth "Table" "__contains__") rfl)).at_, (He.meth_ok (c.fact 99 (f := .meth "Table" "__contains__") rfl)).fn, (c.def_ 54 (d := ddTable_contains) rfl), (He.meth_ok (c.fact 100 (f := .meth "Table" "maker") rfl)), (c.def_ 55 (d := ddTable_maker) rfl), (He.meth_ok (c.fact 101 (f := .meth "Table" "makers") rfl)), (c.def_ 56 (d := ddTable_makers) rfl), (He.meth_ok (c.fact 102 (f := .meth "Table" "least") rfl)), (c.def_ 57 (d := ddTable_least) rfl), He.eqO_ok (ex_at z 34 rfl), oB_ok (ex_at z 35 rfl), (He.meth_ok (c.fact 103 (f := .meth "Table" "__eq__") rfl)).at_, (He.meth_ok (c.fact 103 (f := .meth "Table" "__eq__") rfl)).fn, (c.def_ 58 (d := ddTable_eq) rfl)⟩
theorem mk_TeX4 (X : K.In h) (G : h.Ns mainGlobals mg) (z : obsZ K = valZ) : TeX4 K mg := by
  have c := saysD z
  exact ⟨He.glo_ok X G (c.fact 67 (f := .glo "WorkError") rfl), (excB_ok (ex_at z 6 rfl)).1, (excB_ok (ex_at z 8 rfl)).1, (excB_ok (ex_at z 10 rfl)).1, (excB_ok (ex_at z 12 rfl)).1, (excB_ok (ex_at z 12 rfl)).2, oB_ok (ex_at z 15 rfl), oB_ok (ex_at z 16 rfl), oB_ok (ex_at z 17 rfl), oB_ok (ex_at z 18 rfl), oB_ok (ex_at z 19 rfl), oB_ok (ex_at z 20 rfl), oB_ok (ex_at z 21 rfl), oB_ok (ex_at z 22 rfl), oB_ok (ex_at z 23 rfl), oB_ok (ex_at z 24 rfl), (excB_ok (ex_at z 14 rfl)).1, (excB_ok (ex_at z 14 rfl)).2, oB_ok (ex_at z 25 rfl), oB_ok (ex_at z 26 rfl), oB_ok (ex_at z 27 rfl), oB_ok (ex_at z 28 rfl), oB_ok (ex_at z 29 rfl)⟩
theorem mk_TeI4 (X : K.In h) (G : h.Ns mainGlobals mg) (z : obsZ K = valZ) : TeI4 K := ⟨He.eqO_ok (ex_at z 30 rfl), oB_ok (ex_at z 31 rfl), oB_ok (ex_at z 32 rfl)⟩
theorem mk_TeE4 (z : obsZ K = valZ) : TeE4 K := ⟨fiV_ok (ex_at z 33 rfl)⟩
theorem facts0 {w : World} {f : Addr} (X : K.In h) (G : h.Ns mainGlobals mg) (hfa : mg ("law" : Str) = some (.ref f)) (z : obsZ K = valZ) :
    ∃ fd : FuncData, (∀ (s : Shared) (v : Value), BindsTo s fd ⟨[v], []⟩ [("_law_script", v)]) ∧ ∀ base : Heap, K.In base → base.Ns mainGlobals mg → FnOk P0 w K mg base CX0 13 f fd ["_law_script"] (sp_law K) := by
  have c := saysD z
  obtain ⟨fd, F⟩ := (c.def_ 45 (d := dd_law) rfl)
  have e := hfa.symm.trans (He.glo_ok X G (c.fact 45 (f := .glo "law") rfl))
  cases e
  have b := FunD.bindsA (ps := ["_law_script"]) F fun _ _ _ _ _ _ us hl => match us, hl with | [_], _ => rfl
  refine ⟨fd, fun s v => b s [v] rfl, fun base _ _ => ?_⟩
  exact ok_lawF F ⟨mk_Tx X G c, mk_Tc X G c, mk_Tk X G c, mk_Tn X G z, mk_Tg X G c, mk_Tw z, mk_To c, mk_Tt z, mk_Ttr z, mk_Til z, mk_TeT X G z, mk_TeN X G z, mk_TeB X G z, mk_TeU X G z, mk_TeX4 X G z, mk_TeI4 X G z⟩ (mk_TeE4 z)
end
end TW

open PySem PySem.W PySem.Calls PyProof.Rows
theorem PySem.Challenge.cw_treeworks_k04_table_descriptions_holds : PySem.Challenge.rw_treeworks_k04_table_descriptions.Holds := by
  w_on; o_law
  refine HandSHeadRun.head_any (r := TW.R0) (q := view TW.R0.prog [71]) (H := TW.hkZ) (ob := TW.obZ) (M := 20000) (loose := TW.looseL) (d := HandSHeadRun.topDef TW.R0.prog 71) (kwd := []) TW.obZ_eq
    (by kernel_rfl) (fun s => by kernel_rfl) TW.run0 (by kernel_rfl) (by kernel_rfl) (by kernel_rfl) (by rfl) (by first | assumption | decide +kernel) (by decide +kernel) ⟨rfl, rfl, rfl, rfl, rfl, by decide +kernel⟩ ?hw ?hc
  case hw => w_witness2
  case hc =>
    refine L2.walk_ofE (l := PySem.Challenge.rw_treeworks_k04_table_descriptions) (n := 63) (k := 13) (x := "_law_script") (CX := L2.CX0) rfl (by decide) (by kernel_rfl) ⟨rfl, by decide, by decide⟩ ?F (fun _ _ _ _ z => z)
    intro w mg fa h Y G hmg0
    obtain ⟨K, KX, c⟩ := Y
    have hmg : mg ("law" : PySem.Str) = some (.ref fa) := by
      have nm : (HandSHeadRun.topDef TW.R0.prog 71).name = ("law" : PySem.Str) := by kernel_rfl
      rw [← nm]
      exact hmg0
    obtain ⟨fd, hb, hF⟩ := TW.facts0 (w := w) KX G hmg c
    exact ⟨K, fd, TW.sp_law K, KX, hb, fun H a ns hl _ hS => ⟨a, ns, rfl, hS, hl, fun _ => rfl⟩, hF⟩

