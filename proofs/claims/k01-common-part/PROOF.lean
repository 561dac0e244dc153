import PyProof.Rows.All
import Wide.All
import OpenK.AllK
import Wide.FinOn
import HandS.ForMost
import HandS.ForExc
import HandS.Star
import HandS.ClsMeth
import HandS.Property
import HandS.Defaults
import HandS.IsInst
import HandS.Style
import HandS.TupAny
import HandS.HeadHook2
import PySem.Challenge.RW_treeworks_k01_common_part
import KE.DatumOrd
import HandS.SortKw
import HandS.IterVal
import HandS.GenBody
import HandS.GenYield
import HandS.GenCall
import HandS.GenList
import HandS.ExcInit
import HandS.ExcSuper
import HandS.ExcField
import HandS.ExcIs
import KE.KExcSuper
import KE.KExcIs
import HandS.Zip
import HandS.Walk
import HandS.SlotsOwn
import HandS.Flow
import HandS.Small
import HandS.ExcOwn
import HandS.Lambda
import HandS.More
import HandS.HotCalls
import HandS.Head0
import HandS.Head1
import HandS.Head2
import HandS.HeadEnd
import HandS.HeadHook1
import HandS.Ends
import HandS.WordsExc
import KE.KStateDown
set_option Elab.async false
set_option linter.all false
set_option maxRecDepth 100000
set_option maxHeartbeats 4000000
namespace TW
open PySem PySem.Spec PyProof.Rows L2

def top (i : Nat) : Stmt := PySem.Challenge.pw_treeworks_k01_common_part.main.body.getD i (.Pass ⟨0, 0, 0, 0⟩)

/-! ### a def by its body, as a promise over positional values -/
abbrev DefAt (K : PySem.W.Frag) (x q : Str) (st : Stmt) (f : Addr) : Prop := ∃ fd, FunD K x q (defArgs st) (defBody st) (defScope st) [] [] f fd
section
variable {P : Program} {w : World} {K : PySem.W.Frag} {mg : Str → Option Value} {base : Heap}
abbrev BindsWell (x q : Str) (st : Stmt) (ps : List Str) : Prop := ∀ (kV doc pm : Value) (an : Option Addr) (cdv ct : Value) (us : List Value), us.length = ps.length →
  bindArgs (PySem.W.fnOf x q (defArgs st) (defBody st) (defScope st) .none kV doc pm an cdv ct) ⟨us, []⟩ = pure (ps.zip us)
/-- nothing that is raised leaves it -/
theorem fnR0 {x q : Str} {st : Stmt} {f : Addr} {N ps : List Str} {k : Nat} {sp : Sp} (D : DefAt K x q st f) (S : FnScope N ps (defScope st)) (hb : BindsWell x q st ps)
    (len : ∀ vs H Q E, sp vs H Q E → vs.length = ps.length)
    (body : ∀ (cdv : Value) (A : Around) (outer : List Env) (s : Shared) (H : Hp) (vs : List V) (Q : VK) (E : XK), Room k (A.deeper (envOfC q (defScope st) s.heap.objs.size f cdv)) → sp vs H Q E →
      ∃ t, PSs (cxOf CX0 P w K mg base N q (defScope st) f cdv A outer s H E).nox (defBody st) t ∧ t { nx := fun _ H' => Q .non H', rt := Q } (start N vs) H) :
    FnR P w K mg base CX0 (k + 1) f sp := by
  obtain ⟨fd, F⟩ := D
  have G : FnOk P w K mg base CX0 (k + 1) f fd ps sp := F.ok S len fun cdv A outer s H vs Q E hr h => by
    obtain ⟨t, a, b⟩ := body cdv A outer s H vs Q E hr h
    exact ⟨t, a.nox, b⟩
  have z := FnOk.raw (dvs := []) G (F.bindsN hb) .nil
  exact z.imp fun vs H Q E h => by rw [List.append_nil]; exact h
/-- it may raise -/
theorem fnRX {x q : Str} {st : Stmt} {f : Addr} {N ps : List Str} {k : Nat} {sp : Sp} (D : DefAt K x q st f) (S : FnScope N ps (defScope st)) (hb : BindsWell x q st ps)
    (len : ∀ vs H Q E, sp vs H Q E → vs.length = ps.length)
    (body : ∀ (cdv : Value) (A : Around) (outer : List Env) (s : Shared) (H : Hp) (vs : List V) (Q : VK) (E : XK), Room k (A.deeper (envOfC q (defScope st) s.heap.objs.size f cdv)) → sp vs H Q E →
      ∃ t, PSs (cxOf (L2.CX P w) P w K mg base N q (defScope st) f cdv A outer s H E) (defBody st) t ∧ t { nx := fun _ H' => Q .non H', rt := Q } (start N vs) H) :
    FnR P w K mg base (L2.CX P w) (k + 1) f sp := by
  obtain ⟨fd, F⟩ := D
  have G : FnOk P w K mg base (L2.CX P w) (k + 1) f fd ps sp := F.ok S len body
  have z := FnOk.raw (dvs := []) G (F.bindsN hb) .nil
  exact z.imp fun vs H Q E h => by rw [List.append_nil]; exact h
end
/-! ### a call of a def of the module -/
def tCr (sp : Sp) (E : XK) (t : TA) : TE := fun σ H Q => t σ H fun vs H1 => sp vs H1 Q E
section
variable {X : Cx} {CX : CXT} {k : Nat} {f : Addr} {sp : Sp} {E : XK} {x : Str} {e : Expr} {es : List Expr} {t : TA} {p pos : Pos}
theorem pe_cr (F : FnR X.prog X.w X.K X.mg X.base CX k f sp) (hr : Room k X.A) (hg : Gl X x) (hm : X.mg x = some (.ref f)) (hk : PySem.W.keepIn X.K (.ref f) = true) (hx : Passes CX X E) (ha : PA X (e :: es) t)
    (hdb : (x == ("__debug__" : Str)) = false := by decide) (he : starEach (e :: es) X.env = (false, eval e X.env) :: starEach es X.env := by rfl)
    (hpl : (backTo pos (starEach es X.env)).any (·.1) = false := by rfl) : PE X (.Call (.Name x p) (e :: es) [] pos) (tCr sp E t) := by
  refine ⟨fun pins s σ H Q I h => ?_⟩
  refine wpAny_Call_Name_kw (ld_glob I hg hm ?_ hdb)
  refine PySem.W.callWith_K (h₀ := X.base) I.ok.mod.kin hk (thn (ha.run pos pins s σ H _ I h) fun us s1 hh => ?_) he hpl
  obtain ⟨vs, H1, I1, r, q⟩ := hh
  exact ⟨I1.kIn, wpAny_call (run_fnR F hr hx I1 r q)⟩
end
theorem szle {n : Nat} (h : Nat.ble n 1000 = true := by rfl) : n ≤ sizeLine := Nat.le_of_lt (small1000 (Nat.le_of_ble_eq_true h))
/-! ### a word between a statement and what follows it -/
def tMid (t u : TS) : TS := fun D σ H => ∃ M : L2.St → Hp → Prop, t { D with nx := M } σ H ∧ ∀ σ' H', M σ' H' → u D σ' H'
theorem pss_mid {X : Cx} {st : Stmt} {more : List Stmt} {t u : TS} (a : PS X st t) (b : PSs X more u) : PSs X (st :: more) (tMid t u) := by
  refine ⟨fun pins s σ H D I h => ?_⟩
  obtain ⟨M, hm, hu⟩ := h
  refine wpAny_execs_cons (thn (a.run pins s σ H { D with nx := M } I hm) fun fl s1 z => ?_)
  cases fl with
  | next =>
    obtain ⟨σ1, H1, J, y⟩ := z
    exact b.run pins s1 σ1 H1 D J (hu σ1 H1 y)
  | _ => exact z
/-! ### heaps: all is kept but what stands at S -/
def Frm (S : Addr → Prop) (H H' : Hp) : Prop := ∀ b o, ¬ S b → H b = some o → H' b = some o
theorem Frm.refl {S : Addr → Prop} {H : Hp} : Frm S H H := fun _ _ _ h => h
theorem Frm.trans {S : Addr → Prop} {H H1 H2 : Hp} (a : Frm S H H1) (b : Frm S H1 H2) : Frm S H H2 := fun c o n h => b c o n (a c o n h)
theorem Frm.mono {S S' : Addr → Prop} {H H' : Hp} (h : ∀ b, S b → S' b) (a : Frm S H H') : Frm S' H H' := fun c o n e => a c o (fun z => n (h c z)) e
theorem Frm.new {S : Addr → Prop} {H : Hp} {p : Addr} {o : HO} (h : H p = none) : Frm S H (upd H p o) := fun b x _ e => by
  rw [upd_ne (ne_of_none e h)]
  exact e
theorem Frm.at {S : Addr → Prop} {H : Hp} {p : Addr} {o : HO} (h : S p) : Frm S H (upd H p o) := fun b x n e => by
  have ne : b ≠ p := fun z => n (by rw [z]; exact h)
  rw [upd_ne ne]
  exact e
theorem Same.new {H : Hp} {p : Addr} {o : HO} (h : H p = none) : Same H (upd H p o) := fun b x e => by
  rw [upd_ne (ne_of_none e h)]
  exact e
theorem Same.frm {S : Addr → Prop} {H H' : Hp} (h : Same H H') : Frm S H H' := fun b o _ e => h b o e
theorem Frm.same {H H' : Hp} (h : Frm (fun _ => False) H H') : Same H H' := fun b o e => h b o (fun z => z) e
/-- an address that was tracked is tracked no other -/
theorem ne_new {H : Hp} {a p : Addr} {o : HO} (h : H a = some o) (n : H p = none) : a ≠ p := ne_of_none h n
/-- lists may change, the rest stands -/
def Kp (H H' : Hp) : Prop := ∀ b o, H b = some o → (∀ xs, o ≠ .lst xs) → H' b = some o
theorem Kp.refl {H : Hp} : Kp H H := fun _ _ h _ => h
theorem Kp.trans {H H1 H2 : Hp} (a : Kp H H1) (b : Kp H1 H2) : Kp H H2 := fun c o h n => b c o (a c o h n) n
theorem Same.kp {H H' : Hp} (h : Same H H') : Kp H H' := fun b o e _ => h b o e
theorem Frm.kp {S : Addr → Prop} {H H' : Hp} (h : Frm S H H') (hS : ∀ b, S b → ∀ o, H b = some o → ∃ xs, o = .lst xs) : Kp H H' := fun b o e n => h b o (fun z => by
  obtain ⟨xs, ex⟩ := hS b z o e
  exact n xs ex) e
end TW

namespace TW
open PySem PySem.Spec PyProof.Rows L2
/-- a name of the module that holds a plain value -/
theorem pe_gv {X : Cx} {x : Str} {v : V} {pos : Pos} (hg : Gl X x) (hm : ∃ u, X.mg x = some u ∧ RelV v u) (hd : (x == ("__debug__" : Str)) = false := by decide) : PE X (.Name x pos) (tC v) := by
  obtain ⟨u, h1, h2⟩ := hm
  exact pe_glob hg h1 h2 hd
abbrev s_is_big : Stmt := top 13
abbrev N_is_big : List Str := ["name", "char"]
theorem sc_is_big : FnScope N_is_big ["name"] (defScope s_is_big) := ⟨rfl, rfl, rfl, by decide +kernel, rfl, by decide +kernel, by decide +kernel⟩
abbrev s_name_at : Stmt := top 14
abbrev N_name_at : List Str := ["term", "at", "end", "name"]
theorem sc_name_at : FnScope N_name_at ["term", "at"] (defScope s_name_at) := ⟨rfl, rfl, rfl, by decide +kernel, rfl, by decide +kernel, by decide +kernel⟩
abbrev s_Tree_init : Stmt := inClass (top 15) 2
abbrev N_Tree_init : List Str := ["self", "name", "parts", "part"]
theorem sc_Tree_init : FnScope N_Tree_init ["self", "name", "parts"] (defScope s_Tree_init) := ⟨rfl, rfl, rfl, by decide +kernel, rfl, by decide +kernel, by decide +kernel⟩
abbrev s_Tree_read : Stmt := inClass (top 15) 3
abbrev N_Tree_read : List Str := ["cls", "term", "nodes", "done", "at", "name", "parts"]
theorem sc_Tree_read : FnScope N_Tree_read ["cls", "term"] (defScope s_Tree_read) := ⟨rfl, rfl, rfl, by decide +kernel, rfl, by decide +kernel, by decide +kernel⟩
abbrev s_Tree_whole : Stmt := inClass (top 15) 4
abbrev N_Tree_whole : List Str := ["self"]
theorem sc_Tree_whole : FnScope N_Tree_whole ["self"] (defScope s_Tree_whole) := ⟨rfl, rfl, rfl, by decide +kernel, rfl, by decide +kernel, by decide +kernel⟩
abbrev s_Tree_place : Stmt := inClass (top 15) 5
abbrev N_Tree_place : List Str := ["self"]
theorem sc_Tree_place : FnScope N_Tree_place ["self"] (defScope s_Tree_place) := ⟨rfl, rfl, rfl, by decide +kernel, rfl, by decide +kernel, by decide +kernel⟩
abbrev s_Tree_eq : Stmt := inClass (top 15) 6
abbrev N_Tree_eq : List Str := ["self", "other"]
theorem sc_Tree_eq : FnScope N_Tree_eq ["self", "other"] (defScope s_Tree_eq) := ⟨rfl, rfl, rfl, by decide +kernel, rfl, by decide +kernel, by decide +kernel⟩
abbrev s_Tree_lt : Stmt := inClass (top 15) 7
abbrev N_Tree_lt : List Str := ["self", "other"]
theorem sc_Tree_lt : FnScope N_Tree_lt ["self", "other"] (defScope s_Tree_lt) := ⟨rfl, rfl, rfl, by decide +kernel, rfl, by decide +kernel, by decide +kernel⟩
abbrev s_Tree_le : Stmt := inClass (top 15) 8
abbrev N_Tree_le : List Str := ["self", "other"]
theorem sc_Tree_le : FnScope N_Tree_le ["self", "other"] (defScope s_Tree_le) := ⟨rfl, rfl, rfl, by decide +kernel, rfl, by decide +kernel, by decide +kernel⟩
abbrev s_Tree_and : Stmt := inClass (top 15) 9
abbrev N_Tree_and : List Str := ["self", "other", "parts", "part", "twin"]
theorem sc_Tree_and : FnScope N_Tree_and ["self", "other"] (defScope s_Tree_and) := ⟨rfl, rfl, rfl, by decide +kernel, rfl, by decide +kernel, by decide +kernel⟩
abbrev s_Tree_covers : Stmt := inClass (top 15) 10
abbrev N_Tree_covers : List Str := ["self", "other", "part", "twin"]
theorem sc_Tree_covers : FnScope N_Tree_covers ["self", "other"] (defScope s_Tree_covers) := ⟨rfl, rfl, rfl, by decide +kernel, rfl, by decide +kernel, by decide +kernel⟩
abbrev s_Tree_contains : Stmt := inClass (top 15) 11
abbrev N_Tree_contains : List Str := ["self", "path", "part", "index"]
theorem sc_Tree_contains : FnScope N_Tree_contains ["self", "path"] (defScope s_Tree_contains) := ⟨rfl, rfl, rfl, by decide +kernel, rfl, by decide +kernel, by decide +kernel⟩
abbrev s_Tree_getitem : Stmt := inClass (top 15) 12
abbrev N_Tree_getitem : List Str := ["self", "path", "part", "index"]
theorem sc_Tree_getitem : FnScope N_Tree_getitem ["self", "path"] (defScope s_Tree_getitem) := ⟨rfl, rfl, rfl, by decide +kernel, rfl, by decide +kernel, by decide +kernel⟩
abbrev s_Tree_iter : Stmt := inClass (top 15) 13
abbrev N_Tree_iter : List Str := ["self"]
theorem sc_Tree_iter : FnScope N_Tree_iter ["self"] (defScope s_Tree_iter) := ⟨rfl, rfl, rfl, by decide +kernel, rfl, by decide +kernel, by decide +kernel⟩
abbrev s_Tree_exchanged : Stmt := inClass (top 15) 15
abbrev N_Tree_exchanged : List Str := ["self", "path", "part", "nodes", "node", "index", "parts"]
theorem sc_Tree_exchanged : FnScope N_Tree_exchanged ["self", "path", "part"] (defScope s_Tree_exchanged) := ⟨rfl, rfl, rfl, by decide +kernel, rfl, by decide +kernel, by decide +kernel⟩
abbrev s_Tree_holes : Stmt := inClass (top 15) 16
abbrev N_Tree_holes : List Str := ["self", "path", "part"]
theorem sc_Tree_holes : FnScope N_Tree_holes ["self"] (defScope s_Tree_holes) := ⟨rfl, rfl, rfl, by decide +kernel, rfl, by decide +kernel, by decide +kernel⟩
abbrev s_Tree_filled : Stmt := inClass (top 15) 17
abbrev N_Tree_filled : List Str := ["self", "trees", "left", "built", "path", "node", "parts", "index"]
theorem sc_Tree_filled : FnScope N_Tree_filled ["self", "trees"] (defScope s_Tree_filled) := ⟨rfl, rfl, rfl, by decide +kernel, rfl, by decide +kernel, by decide +kernel⟩
abbrev s_is_hole : Stmt := top 16
abbrev N_is_hole : List Str := ["tree"]
theorem sc_is_hole : FnScope N_is_hole ["tree"] (defScope s_is_hole) := ⟨rfl, rfl, rfl, by decide +kernel, rfl, by decide +kernel, by decide +kernel⟩
abbrev s_walked : Stmt := top 17
abbrev N_walked : List Str := ["tree", "found", "waiting", "path", "node", "index"]
theorem sc_walked : FnScope N_walked ["tree"] (defScope s_walked) := ⟨rfl, rfl, rfl, by decide +kernel, rfl, by decide +kernel, by decide +kernel⟩
abbrev s_law_pool_of : Stmt := top 19
abbrev N_law_pool_of : List Str := ["_law_script", "_law_seed", "_law_rows", "_law_cell"]
theorem sc_law_pool_of : FnScope N_law_pool_of ["_law_script"] (defScope s_law_pool_of) := ⟨rfl, rfl, rfl, by decide +kernel, rfl, by decide +kernel, by decide +kernel⟩
abbrev s_law_draw : Stmt := top 20
abbrev N_law_draw : List Str := ["_law_pool", "_law_many", "_law_rows", "_law_pick", "_law_mixed"]
theorem sc_law_draw : FnScope N_law_draw ["_law_pool", "_law_many"] (defScope s_law_draw) := ⟨rfl, rfl, rfl, by decide +kernel, rfl, by decide +kernel, by decide +kernel⟩
abbrev s_law_name_of : Stmt := top 21
abbrev N_law_name_of : List Str := ["_law_pool", "_law_signs", "_law_word", "_law_k"]
theorem sc_law_name_of : FnScope N_law_name_of ["_law_pool"] (defScope s_law_name_of) := ⟨rfl, rfl, rfl, by decide +kernel, rfl, by decide +kernel, by decide +kernel⟩
abbrev s_law_grow : Stmt := top 22
abbrev N_law_grow : List Str := ["_law_pool", "_law_names", "_law_room", "_law_deep", "_law_pick", "_law_name", "_law_parts", "_law_k"]
theorem sc_law_grow : FnScope N_law_grow ["_law_pool", "_law_names", "_law_room", "_law_deep"] (defScope s_law_grow) := ⟨rfl, rfl, rfl, by decide +kernel, rfl, by decide +kernel, by decide +kernel⟩
abbrev s_law_walk : Stmt := top 23
abbrev N_law_walk : List Str := ["_law_tree", "_law_path", "_law_found", "_law_k"]
theorem sc_law_walk : FnScope N_law_walk ["_law_tree", "_law_path"] (defScope s_law_walk) := ⟨rfl, rfl, rfl, by decide +kernel, rfl, by decide +kernel, by decide +kernel⟩
abbrev s_law_put : Stmt := top 24
abbrev N_law_put : List Str := ["_law_tree", "_law_path", "_law_part", "_law_parts"]
theorem sc_law_put : FnScope N_law_put ["_law_tree", "_law_path", "_law_part"] (defScope s_law_put) := ⟨rfl, rfl, rfl, by decide +kernel, rfl, by decide +kernel, by decide +kernel⟩
abbrev s_law_spot : Stmt := top 25
abbrev N_law_spot : List Str := ["_law_pool", "_law_tree", "_law_paths"]
theorem sc_law_spot : FnScope N_law_spot ["_law_pool", "_law_tree"] (defScope s_law_spot) := ⟨rfl, rfl, rfl, by decide +kernel, rfl, by decide +kernel, by decide +kernel⟩
abbrev s_law_changed : Stmt := top 26
abbrev N_law_changed : List Str := ["_law_pool", "_law_names", "_law_tree", "_law_k", "_law_path", "_law_part"]
theorem sc_law_changed : FnScope N_law_changed ["_law_pool", "_law_names", "_law_tree"] (defScope s_law_changed) := ⟨rfl, rfl, rfl, by decide +kernel, rfl, by decide +kernel, by decide +kernel⟩
abbrev s_law_opened : Stmt := top 27
abbrev N_law_opened : List Str := ["_law_pool", "_law_tree", "_law_k", "_law_path"]
theorem sc_law_opened : FnScope N_law_opened ["_law_pool", "_law_tree"] (defScope s_law_opened) := ⟨rfl, rfl, rfl, by decide +kernel, rfl, by decide +kernel, by decide +kernel⟩
abbrev s_law_three : Stmt := top 28
abbrev N_law_three : List Str := ["_law_pool", "_law_first", "_law_names", "_law_room", "_law_one", "_law_two", "_law_three_here", "_law_way"]
theorem sc_law_three : FnScope N_law_three ["_law_pool"] (defScope s_law_three) := ⟨rfl, rfl, rfl, by decide +kernel, rfl, by decide +kernel, by decide +kernel⟩
abbrev s_law_common : Stmt := top 29
abbrev N_law_common : List Str := ["_law_one", "_law_two", "_law_parts", "_law_k"]
theorem sc_law_common : FnScope N_law_common ["_law_one", "_law_two"] (defScope s_law_common) := ⟨rfl, rfl, rfl, by decide +kernel, rfl, by decide +kernel, by decide +kernel⟩
abbrev s_law_over : Stmt := top 30
abbrev N_law_over : List Str := ["_law_one", "_law_two", "_law_k"]
theorem sc_law_over : FnScope N_law_over ["_law_one", "_law_two"] (defScope s_law_over) := ⟨rfl, rfl, rfl, by decide +kernel, rfl, by decide +kernel, by decide +kernel⟩
abbrev s_law_gaps : Stmt := top 31
abbrev N_law_gaps : List Str := ["_law_tree", "_law_path", "_law_found", "_law_k"]
theorem sc_law_gaps : FnScope N_law_gaps ["_law_tree", "_law_path"] (defScope s_law_gaps) := ⟨rfl, rfl, rfl, by decide +kernel, rfl, by decide +kernel, by decide +kernel⟩
abbrev s_law_make : Stmt := top 32
abbrev N_law_make : List Str := ["_law_tree", "_law_parts", "_law_one"]
theorem sc_law_make : FnScope N_law_make ["_law_tree"] (defScope s_law_make) := ⟨rfl, rfl, rfl, by decide +kernel, rfl, by decide +kernel, by decide +kernel⟩
abbrev s_law_told : Stmt := top 33
abbrev N_law_told : List Str := ["_law_tree", "_law_parts", "_law_below", "_law_one", "_law_term", "_law_size"]
theorem sc_law_told : FnScope N_law_told ["_law_tree"] (defScope s_law_told) := ⟨rfl, rfl, rfl, by decide +kernel, rfl, by decide +kernel, by decide +kernel⟩
abbrev s_law_is : Stmt := top 34
abbrev N_law_is : List Str := ["_law_actual", "_law_due"]
theorem sc_law_is : FnScope N_law_is ["_law_actual", "_law_due"] (defScope s_law_is) := ⟨rfl, rfl, rfl, by decide +kernel, rfl, by decide +kernel, by decide +kernel⟩
abbrev s_law_good : Stmt := top 35
abbrev N_law_good : List Str := ["_law_actual", "_law_due", "_law_k", "_law_one"]
theorem sc_law_good : FnScope N_law_good ["_law_actual", "_law_due"] (defScope s_law_good) := ⟨rfl, rfl, rfl, by decide +kernel, rfl, by decide +kernel, by decide +kernel⟩
abbrev s_law_covers : Stmt := top 36
abbrev N_law_covers : List Str := ["_law_one", "_law_two", "_law_due", "_law_found"]
theorem sc_law_covers : FnScope N_law_covers ["_law_one", "_law_two", "_law_due"] (defScope s_law_covers) := ⟨rfl, rfl, rfl, by decide +kernel, rfl, by decide +kernel, by decide +kernel⟩
abbrev s_law_filled : Stmt := top 37
abbrev N_law_filled : List Str := ["_law_tree", "_law_parts"]
theorem sc_law_filled : FnScope N_law_filled ["_law_tree", "_law_parts"] (defScope s_law_filled) := ⟨rfl, rfl, rfl, by decide +kernel, rfl, by decide +kernel, by decide +kernel⟩
abbrev s_law_miscounted : Stmt := top 38
abbrev N_law_miscounted : List Str := ["_law_tree", "_law_parts", "e"]
theorem sc_law_miscounted : FnScope N_law_miscounted ["_law_tree", "_law_parts"] (defScope s_law_miscounted) := ⟨rfl, rfl, rfl, by decide +kernel, rfl, by decide +kernel, by decide +kernel⟩
abbrev s_law_pairs : Stmt := top 39
abbrev N_law_pairs : List Str := ["_law_trees", "_law_made", "_law_i", "_law_j", "_law_both", "_law_due", "_law_over_here"]
theorem sc_law_pairs : FnScope N_law_pairs ["_law_trees", "_law_made"] (defScope s_law_pairs) := ⟨rfl, rfl, rfl, by decide +kernel, rfl, by decide +kernel, by decide +kernel⟩
abbrev s_law_refilled : Stmt := top 40
abbrev N_law_refilled : List Str := ["_law_tree", "_law_made", "_law_both", "_law_gaps_here", "_law_parts", "_law_gap"]
theorem sc_law_refilled : FnScope N_law_refilled ["_law_tree", "_law_made", "_law_both", "_law_gaps_here"] (defScope s_law_refilled) := ⟨rfl, rfl, rfl, by decide +kernel, rfl, by decide +kernel, by decide +kernel⟩
abbrev s_law : Stmt := top 41
abbrev N_law : List Str := ["_law_script", "_law_pool", "_law_trees", "_law_made", "_law_common_here", "_law_wide", "_law_half", "_law_tree", "_law_over_here", "_law_k", "_law_both", "_law_due", "_law_left", "_law_right", "_law_turned", "_law_gaps_here", "_law_found"]
theorem sc_law : FnScope N_law ["_law_script"] (defScope s_law) := ⟨rfl, rfl, rfl, by decide +kernel, rfl, by decide +kernel, by decide +kernel⟩
/-- what the top has left: where the defs stand, which names are still the built-ins -/
structure Tx (K : PySem.W.Frag) (mg : Str → Option Value) : Prop where
  d_is_big : DefAt K "is_big" "is_big" s_is_big (He.ga K "is_big")
  v_is_big : mg "is_big" = some (.ref (He.ga K "is_big"))
  k_is_big : PySem.W.keepIn K (.ref (He.ga K "is_big")) = true
  d_name_at : DefAt K "name_at" "name_at" s_name_at (He.ga K "name_at")
  v_name_at : mg "name_at" = some (.ref (He.ga K "name_at"))
  k_name_at : PySem.W.keepIn K (.ref (He.ga K "name_at")) = true
  d_is_hole : DefAt K "is_hole" "is_hole" s_is_hole (He.ga K "is_hole")
  v_is_hole : mg "is_hole" = some (.ref (He.ga K "is_hole"))
  k_is_hole : PySem.W.keepIn K (.ref (He.ga K "is_hole")) = true
  d_walked : DefAt K "walked" "walked" s_walked (He.ga K "walked")
  v_walked : mg "walked" = some (.ref (He.ga K "walked"))
  k_walked : PySem.W.keepIn K (.ref (He.ga K "walked")) = true
  d_law_pool_of : DefAt K "_law_pool_of" "_law_pool_of" s_law_pool_of (He.ga K "_law_pool_of")
  v_law_pool_of : mg "_law_pool_of" = some (.ref (He.ga K "_law_pool_of"))
  k_law_pool_of : PySem.W.keepIn K (.ref (He.ga K "_law_pool_of")) = true
  d_law_draw : DefAt K "_law_draw" "_law_draw" s_law_draw (He.ga K "_law_draw")
  v_law_draw : mg "_law_draw" = some (.ref (He.ga K "_law_draw"))
  k_law_draw : PySem.W.keepIn K (.ref (He.ga K "_law_draw")) = true
  d_law_name_of : DefAt K "_law_name_of" "_law_name_of" s_law_name_of (He.ga K "_law_name_of")
  v_law_name_of : mg "_law_name_of" = some (.ref (He.ga K "_law_name_of"))
  k_law_name_of : PySem.W.keepIn K (.ref (He.ga K "_law_name_of")) = true
  d_law_grow : DefAt K "_law_grow" "_law_grow" s_law_grow (He.ga K "_law_grow")
  v_law_grow : mg "_law_grow" = some (.ref (He.ga K "_law_grow"))
  k_law_grow : PySem.W.keepIn K (.ref (He.ga K "_law_grow")) = true
  d_law_walk : DefAt K "_law_walk" "_law_walk" s_law_walk (He.ga K "_law_walk")
  v_law_walk : mg "_law_walk" = some (.ref (He.ga K "_law_walk"))
  k_law_walk : PySem.W.keepIn K (.ref (He.ga K "_law_walk")) = true
  d_law_put : DefAt K "_law_put" "_law_put" s_law_put (He.ga K "_law_put")
  v_law_put : mg "_law_put" = some (.ref (He.ga K "_law_put"))
  k_law_put : PySem.W.keepIn K (.ref (He.ga K "_law_put")) = true
  d_law_spot : DefAt K "_law_spot" "_law_spot" s_law_spot (He.ga K "_law_spot")
  v_law_spot : mg "_law_spot" = some (.ref (He.ga K "_law_spot"))
  k_law_spot : PySem.W.keepIn K (.ref (He.ga K "_law_spot")) = true
  d_law_changed : DefAt K "_law_changed" "_law_changed" s_law_changed (He.ga K "_law_changed")
  v_law_changed : mg "_law_changed" = some (.ref (He.ga K "_law_changed"))
  k_law_changed : PySem.W.keepIn K (.ref (He.ga K "_law_changed")) = true
  d_law_opened : DefAt K "_law_opened" "_law_opened" s_law_opened (He.ga K "_law_opened")
  v_law_opened : mg "_law_opened" = some (.ref (He.ga K "_law_opened"))
  k_law_opened : PySem.W.keepIn K (.ref (He.ga K "_law_opened")) = true
  d_law_three : DefAt K "_law_three" "_law_three" s_law_three (He.ga K "_law_three")
  v_law_three : mg "_law_three" = some (.ref (He.ga K "_law_three"))
  k_law_three : PySem.W.keepIn K (.ref (He.ga K "_law_three")) = true
  d_law_common : DefAt K "_law_common" "_law_common" s_law_common (He.ga K "_law_common")
  v_law_common : mg "_law_common" = some (.ref (He.ga K "_law_common"))
  k_law_common : PySem.W.keepIn K (.ref (He.ga K "_law_common")) = true
  d_law_over : DefAt K "_law_over" "_law_over" s_law_over (He.ga K "_law_over")
  v_law_over : mg "_law_over" = some (.ref (He.ga K "_law_over"))
  k_law_over : PySem.W.keepIn K (.ref (He.ga K "_law_over")) = true
  d_law_gaps : DefAt K "_law_gaps" "_law_gaps" s_law_gaps (He.ga K "_law_gaps")
  v_law_gaps : mg "_law_gaps" = some (.ref (He.ga K "_law_gaps"))
  k_law_gaps : PySem.W.keepIn K (.ref (He.ga K "_law_gaps")) = true
  d_law_make : DefAt K "_law_make" "_law_make" s_law_make (He.ga K "_law_make")
  v_law_make : mg "_law_make" = some (.ref (He.ga K "_law_make"))
  k_law_make : PySem.W.keepIn K (.ref (He.ga K "_law_make")) = true
  d_law_told : DefAt K "_law_told" "_law_told" s_law_told (He.ga K "_law_told")
  v_law_told : mg "_law_told" = some (.ref (He.ga K "_law_told"))
  k_law_told : PySem.W.keepIn K (.ref (He.ga K "_law_told")) = true
  d_law_is : DefAt K "_law_is" "_law_is" s_law_is (He.ga K "_law_is")
  v_law_is : mg "_law_is" = some (.ref (He.ga K "_law_is"))
  k_law_is : PySem.W.keepIn K (.ref (He.ga K "_law_is")) = true
  d_law_good : DefAt K "_law_good" "_law_good" s_law_good (He.ga K "_law_good")
  v_law_good : mg "_law_good" = some (.ref (He.ga K "_law_good"))
  k_law_good : PySem.W.keepIn K (.ref (He.ga K "_law_good")) = true
  d_law_covers : DefAt K "_law_covers" "_law_covers" s_law_covers (He.ga K "_law_covers")
  v_law_covers : mg "_law_covers" = some (.ref (He.ga K "_law_covers"))
  k_law_covers : PySem.W.keepIn K (.ref (He.ga K "_law_covers")) = true
  d_law_filled : DefAt K "_law_filled" "_law_filled" s_law_filled (He.ga K "_law_filled")
  v_law_filled : mg "_law_filled" = some (.ref (He.ga K "_law_filled"))
  k_law_filled : PySem.W.keepIn K (.ref (He.ga K "_law_filled")) = true
  d_law_miscounted : DefAt K "_law_miscounted" "_law_miscounted" s_law_miscounted (He.ga K "_law_miscounted")
  v_law_miscounted : mg "_law_miscounted" = some (.ref (He.ga K "_law_miscounted"))
  k_law_miscounted : PySem.W.keepIn K (.ref (He.ga K "_law_miscounted")) = true
  d_law_pairs : DefAt K "_law_pairs" "_law_pairs" s_law_pairs (He.ga K "_law_pairs")
  v_law_pairs : mg "_law_pairs" = some (.ref (He.ga K "_law_pairs"))
  k_law_pairs : PySem.W.keepIn K (.ref (He.ga K "_law_pairs")) = true
  d_law_refilled : DefAt K "_law_refilled" "_law_refilled" s_law_refilled (He.ga K "_law_refilled")
  v_law_refilled : mg "_law_refilled" = some (.ref (He.ga K "_law_refilled"))
  k_law_refilled : PySem.W.keepIn K (.ref (He.ga K "_law_refilled")) = true
  d_law : DefAt K "law" "law" s_law (He.ga K "law")
  v_law : mg "law" = some (.ref (He.ga K "law"))
  k_law : PySem.W.keepIn K (.ref (He.ga K "law")) = true
  z_abs : mg "abs" = none
  z_int : mg "int" = none
  z_len : mg "len" = none
  z_range : mg "range" = none
  z_sum : mg "sum" = none
  z_max : mg "max" = none
  z_all : mg "all" = none
  z_isinstance : mg "isinstance" = none
  z_tuple : mg "tuple" = none
  z_list : mg "list" = none
  z_iter : mg "iter" = none
  z_bool : mg "bool" = none
  z_ValueError : mg "ValueError" = none
  z_zip : mg "zip" = none
end TW

namespace TW
open PySem PySem.Spec PyProof.Rows L2
/-! ### the pool of draws -/
/-- at p stands [rows, seed, count], at r the rows -/
structure PoolAt (H : Hp) (p r : Addr) : Prop where
  ex : ∃ (seed cnt : Int) (ns : List Int), H p = some (.lst [.ref r, .int seed, .int cnt]) ∧ H r = some (.lst (ns.map V.int))
theorem PoolAt.ne {H : Hp} {p r : Addr} (h : PoolAt H p r) : r ≠ p := by
  obtain ⟨seed, cnt, ns, h1, h2⟩ := h.ex
  intro e
  rw [e, h1] at h2
  cases ns with
  | nil => cases h2
  | cons x t => cases h2
abbrev PR (p r : Addr) : Addr → Prop := fun b => b = p ∨ b = r
theorem PoolAt.keep {H H' : Hp} {p r : Addr} (h : PoolAt H p r) (s : Same H H') : PoolAt H' p r := by
  obtain ⟨seed, cnt, ns, h1, h2⟩ := h.ex
  exact ⟨seed, cnt, ns, s _ _ h1, s _ _ h2⟩
theorem PoolAt.upd {H : Hp} {p r q : Addr} {o : HO} (h : PoolAt H p r) (hp : q ≠ p) (hr : q ≠ r) : PoolAt (upd H q o) p r := by
  obtain ⟨seed, cnt, ns, h1, h2⟩ := h.ex
  exact ⟨seed, cnt, ns, by rw [upd_ne (Ne.symm hp)]; exact h1, by rw [upd_ne (Ne.symm hr)]; exact h2⟩
theorem PoolAt.frm {H H' : Hp} {p r : Addr} (h : PoolAt H p r) {S : Addr → Prop} (s : Frm S H H') (hp : ¬ S p) (hr : ¬ S r) : PoolAt H' p r := by
  obtain ⟨seed, cnt, ns, h1, h2⟩ := h.ex
  exact ⟨seed, cnt, ns, s _ _ hp h1, s _ _ hr h2⟩
theorem PoolAt.lst {H : Hp} {p r : Addr} (h : PoolAt H p r) : ∀ b, PR p r b → ∀ o, H b = some o → ∃ xs, o = .lst xs := fun b hb o e => by
  obtain ⟨seed, cnt, ns, h1, h2⟩ := h.ex
  rcases hb with rfl | rfl
  · rw [h1] at e
    cases e
    exact ⟨_, rfl⟩
  · rw [h2] at e
    cases e
    exact ⟨_, rfl⟩
theorem PoolAt.some {H : Hp} {p r : Addr} (h : PoolAt H p r) : ∀ b, PR p r b → H b ≠ none := fun b hb e => by
  obtain ⟨seed, cnt, ns, h1, h2⟩ := h.ex
  rcases hb with rfl | rfl
  · rw [h1] at e
    cases e
  · rw [h2] at e
    cases e
/-- what a draw leaves -/
structure Drew (p r : Addr) (H H' : Hp) : Prop where
  frm : Frm (PR p r) H H'
  pool : PoolAt H' p r
def sp_draw : Sp := fun vs H Q _ => ∃ (p r : Addr) (m : Int), vs = [.ref p, .int m] ∧ 0 < m ∧ m < 1073741824 ∧ PoolAt H p r ∧ ∀ H' v, 0 ≤ v → v < m → Drew p r H H' → Q (.int v) H'
theorem dpInts {K : PySem.W.Frag} {H : Hp} : ∀ ns : List Int, DpAll K H (ns.map V.int) (ns.map PyData.int)
  | [] => .nil
  | n :: r => .cons (.int n) (dpInts r)
theorem ixN_of {n j : Nat} (h : j < n) : ixN n (j : Int) = some j := by
  unfold ixN
  rw [if_pos (by omega), if_pos (by omega)]
  simp
theorem seqIx_of {n j : Nat} (h : j < n) : seqIndex? (j : Int) n = some j := (ixN_seq (ixN_of h)).1
theorem layInts : ∀ ns : List Int, PyData.canLayAll0 (ns.map PyData.int) = true
  | [] => rfl
  | n :: r => by
    show (PyData.canLay0 (.int n) && PyData.canLayAll0 (r.map PyData.int)) = true
    rw [layInts r]
    rfl
theorem depthInts : ∀ ns : List Int, PyData.depthAll (ns.map PyData.int) = 0
  | [] => rfl
  | n :: r => by
    show max (PyData.depth (.int n)) (PyData.depthAll (r.map PyData.int)) = 0
    rw [depthInts r]
    rfl
theorem shapedInts (ns : List Int) : SeqAt.shaped (.list (ns.map PyData.int)) = true := by
  show (PyData.canLayAll0 (ns.map PyData.int) && decide (PyData.depthAll (ns.map PyData.int) + 1 ≤ 64)) = true
  rw [layInts, depthInts]
  rfl
section
variable {P : Program} {w : World} {K : PySem.W.Frag} {mg : Str → Option Value} {base : Heap}
theorem ok_draw (T : Tx K mg) : FnR P w K mg base CX0 1 (He.ga K "_law_draw") sp_draw := by
  refine fnR0 T.d_law_draw sc_law_draw (fun _ _ _ _ _ _ us hl => match us, hl with | [_, _], _ => rfl) (fun vs H Q E h => ?_) (fun cdv A outer s H vs Q E hr h => ?_)
  · obtain ⟨p, r, m, rfl, _⟩ := h
    rfl
  · obtain ⟨p, r, m, rfl, m0, m1, hP, q⟩ := h
    obtain ⟨seed, cnt, ns, h1, h2⟩ := hP.ex
    have hne := hP.ne
    refine ⟨_, (pss_cons (ps_set (i := 2) sc_law_draw.nd rfl (.inl rfl) (pe_ix (r := rIxL K) ix_list (pv 0) pe_int (fun _ _ => rfl)))
(pss_cons (ps_if (pt_cmpR (op_neD hr.units) (pv 2) (pe_lst pa_nil) (nomark _))
(pss_cons (ps_set (i := 3) sc_law_draw.nd rfl (.inl rfl) (pe_op op_mod (pe_callTy call_int1 (by rfl) T.z_int (by decide +kernel) (pa_cons (pe_ix (r := rIxL K) ix_list (pv 2) pe_int (fun _ _ => rfl)) pa_nil)) (pv 1)))
(pss_cons (ps_asg (pe_op op_fdiv (pe_ix (r := rIxL K) ix_list (pv 2) pe_int (fun _ _ => rfl)) (pv 1)) (pg_sub (pv 2) pe_int set_list))
(pss_cons (ps_if (pt_cmpR op_eq (pe_ix (r := rIxL K) ix_list (pv 2) pe_int (fun _ _ => rfl)) pe_int (nomark _))
(pss_one (ps_expr (pe_bm PySem.F.plainAttrs_list PySem.F.slot_list_pop PySem.F.type_list_pop mt_popAt (pv 2) (pa_cons pe_int pa_nil))))
pss_nil)
(pss_one (ps_ret (pv 3))))))
pss_nil)
(pss_cons (ps_asg (pe_op op_add (pe_ix (r := rIxL K) ix_list (pv 0) pe_int (fun _ _ => rfl)) pe_int) (pg_sub (pv 0) pe_int set_list))
(pss_cons (ps_set (i := 4) sc_law_draw.nd rfl (.inl rfl) (pe_op op_mod (pe_callTy call_int1 (by rfl) T.z_int (by decide +kernel) (pa_cons (pe_op op_add (pe_ix (r := rIxL K) ix_list (pv 0) pe_int (fun _ _ => rfl)) (pe_op op_mul (pe_ix (r := rIxL K) ix_list (pv 0) pe_int (fun _ _ => rfl)) pe_int)) pa_nil)) pe_int))
(pss_cons (ps_set (i := 4) sc_law_draw.nd rfl (.inl rfl) (pe_op op_mod (pe_callTy call_int1 (by rfl) T.z_int (by decide +kernel) (pa_cons (pe_op op_mul (pv 4) pe_int) pa_nil)) pe_int))
(pss_one (ps_ret (pe_op op_mod (pe_op op_mod (pe_callTy call_int1 (by rfl) T.z_int (by decide +kernel) (pa_cons (pe_op op_add (pe_op op_fdiv (pv 4) pe_int) (pe_op op_mul (pe_op op_mod (pe_callTy call_int1 (by rfl) T.z_int (by decide +kernel) (pa_cons (pv 4) pa_nil)) pe_int) (pe_ix (r := rIxL K) ix_list (pv 0) pe_int (fun _ _ => rfl)))) pa_nil)) pe_int) (pv 1))))))))), ?_⟩
    -- rows = pool[0]
    refine ⟨.ref p, rfl, p, _, 0, .ref r, rfl, rfl, SqL.of h1, rfl, ?_⟩
    -- rows != []
    refine ⟨.ref r, rfl, Nat.zero_le _, fun z nz => ?_⟩
    have zp : p ≠ z := ne_of_none h1 nz
    have zr : r ≠ z := ne_of_none h2 nz
    have g1 : upd H z (.lst []) p = some (.lst [.ref r, .int seed, .int cnt]) := by rw [upd_ne zp]; exact h1
    have g2 : upd H z (.lst []) r = some (.lst (ns.map V.int)) := by rw [upd_ne zr]; exact h2
    refine ⟨.list (ns.map PyData.int), .list [], .lst (SqL.of g2) (dpInts ns), .lst (SqL.of upd_same) .nil, shapedInts ns, shapedInts [], _, rfl, ?_⟩
    have hF : Frm (PR p r) H (upd H z (.lst [])) := Frm.new nz
    cases ns with
    | nil =>
      -- no rows: the mixed number
      refine iteF ?_
      refine ⟨.ref p, rfl, p, _, 2, .int cnt, rfl, rfl, SqL.of g1, rfl, cnt, 1, rfl, rfl, ?_⟩
      refine ⟨.ref p, rfl, p, _, 2, 2, rfl, rfl, g1, rfl, ?_⟩
      have g3 : upd (upd H z (.lst [])) p (.lst [.ref r, .int seed, .int (cnt + 1)]) p = some (.lst [.ref r, .int seed, .int (cnt + 1)]) := upd_same
      have g4 : upd (upd H z (.lst [])) p (.lst [.ref r, .int seed, .int (cnt + 1)]) r = some (.lst []) := by rw [upd_ne hne]; exact g2
      refine ⟨.ref p, rfl, p, _, 1, .int seed, rfl, rfl, SqL.of g3, rfl, ?_⟩
      refine ⟨.ref p, rfl, p, _, 2, .int (cnt + 1), rfl, rfl, SqL.of g3, rfl, _, _, rfl, rfl, .inr (by decide), ?_⟩
      refine ⟨_, _, rfl, rfl, .inl ⟨_, rfl, ?_⟩⟩
      refine ⟨_, _, rfl, rfl, (by show (0 : Int) < _; decide), ?_⟩
      refine ⟨_, rfl, _, _, rfl, rfl, .inr (by decide), .inl ⟨_, rfl, _, _, rfl, rfl, (by show (0 : Int) < _; decide), ?_⟩⟩
      refine ⟨_, rfl, _, _, rfl, rfl, ⟨by decide, by decide⟩, _, rfl, .inl ⟨_, rfl, _, _, rfl, rfl, (by show (0 : Int) < _; decide), ?_⟩⟩
      refine ⟨.ref p, rfl, p, _, 2, .int (cnt + 1), rfl, rfl, SqL.of g3, rfl, _, _, rfl, rfl, .inl ?_, _, _, rfl, rfl, .inl ⟨_, rfl, _, _, rfl, rfl, (by show (0 : Int) < _; decide), ?_⟩⟩
      · have l1 := Int.emod_nonneg (((seed + (cnt + 1) * 69621) % 2147483647 * 48271) % 2147483647) (show (10007 : Int) ≠ 0 by decide)
        have l2 := Int.emod_lt_of_pos (((seed + (cnt + 1) * 69621) % 2147483647 * 48271) % 2147483647) (show (0 : Int) < 10007 by decide)
        constructor <;> omega
      · refine ⟨.int m, rfl, _, m, rfl, rfl, m0, ?_⟩
        refine q _ _ (Int.emod_nonneg _ (by omega)) (Int.emod_lt_of_pos _ m0) ⟨hF.trans (Frm.at (.inl rfl)), ⟨_, _, [], g3, g4⟩⟩
    | cons n ns =>
      refine iteT ?_
      -- pick
      refine ⟨.ref r, rfl, r, _, 0, .int n, rfl, rfl, SqL.of g2, atI_nat (j := 0) rfl, .inl ⟨n, rfl, .int m, rfl, n, m, rfl, rfl, m0, ?_⟩⟩
      -- rows[0] = rows[0] // many
      refine ⟨.ref r, rfl, r, _, 0, .int n, rfl, rfl, SqL.of g2, atI_nat (j := 0) rfl, .int m, rfl, n, m, rfl, rfl, ⟨m0, m1⟩, ?_⟩
      refine ⟨.ref r, rfl, r, _, 0, 0, rfl, rfl, g2, ixN_of (j := 0) (by simp), ?_⟩
      have g5 : upd (upd H z (.lst [])) r (.lst (.int (n / m) :: ns.map V.int)) r = some (.lst (.int (n / m) :: ns.map V.int)) := upd_same
      have g6 : upd (upd H z (.lst [])) r (.lst (.int (n / m) :: ns.map V.int)) p = some (.lst [.ref r, .int seed, .int cnt]) := by rw [upd_ne hne.symm]; exact g1
      have hF2 : Frm (PR p r) H (upd (upd H z (.lst [])) r (.lst (.int (n / m) :: ns.map V.int))) := hF.trans (Frm.at (.inr rfl))
      have pk : 0 ≤ n % m ∧ n % m < m := ⟨Int.emod_nonneg _ (by omega), Int.emod_lt_of_pos _ m0⟩
      refine ⟨.ref r, rfl, r, _, 0, .int (n / m), rfl, rfl, SqL.of g5, atI_nat (j := 0) rfl, rfl, _, rfl, ite2 (fun e => ?_) (fun e => ?_)⟩
      · -- pop(0)
        refine ⟨.ref r, rfl, .inl ⟨rfl, _, SqL.of g5⟩, r, _, 0, 0, .int (n / m), rfl, rfl, g5, by decide, by decide, seqIx_of (j := 0) (by simp), rfl, ?_⟩
        refine ⟨_, rfl, q _ _ pk.1 pk.2 ⟨hF2.trans (Frm.at (.inr rfl)), ⟨seed, cnt, ns, ?_, upd_same⟩⟩⟩
        rw [upd_ne hne.symm]
        exact g6
      · refine ⟨_, rfl, q _ _ pk.1 pk.2 ⟨hF2, ⟨seed, cnt, n / m :: ns, g6, g5⟩⟩⟩
/-- the pool is made -/
def sp_pool (K : PySem.W.Frag) : Sp := fun vs H Q _ => ∃ (a : Addr) (ns : List Int), vs = [.ref a] ∧ SqL K H a (ns.map V.int) ∧ ns.length ≤ 63 ∧
  ∀ H' p r, Same H H' → H p = none → H r = none → PoolAt H' p r → Q (.ref p) H'
theorem cut_ints (ns : List Int) (lo hi : Option Int) : ∃ ms : List Int, cutV (ns.map V.int) lo hi = ms.map V.int ∧ ms.length ≤ ns.length := by
  unfold cutV
  refine ⟨(ns.drop (HT.sIx (ns.map V.int).length 0 lo)).take (HT.sIx (ns.map V.int).length (ns.map V.int).length hi - HT.sIx (ns.map V.int).length 0 lo), ?_, ?_⟩
  · rw [List.map_take, List.map_drop]
  · rw [List.length_take, List.length_drop]
    omega
theorem ok_pool (T : Tx K mg) : FnR P w K mg base CX0 1 (He.ga K "_law_pool_of") (sp_pool K) := by
  refine fnR0 T.d_law_pool_of sc_law_pool_of (fun _ _ _ _ _ _ us hl => match us, hl with | [_], _ => rfl) (fun vs H Q E h => ?_) (fun cdv A outer s H vs Q E hr h => ?_)
  · obtain ⟨a, ns, rfl, _⟩ := h
    rfl
  · obtain ⟨a, ns, rfl, hS, hl, q⟩ := h
    refine ⟨_, (pss_cons (ps_set (i := 1) sc_law_pool_of.nd rfl (.inl rfl) pe_int)
(pss_cons (ps_set (i := 2) sc_law_pool_of.nd rfl (.inl rfl) (pe_lst pa_nil))
(pss_cons (ps_for PassesOwn.never rfl (pi_list (pe_slice sl_list (pv 0) po_none (po_some pe_int))) (pg_name (i := 3) sc_law_pool_of.nd rfl (.inl rfl))
(pss_one (ps_if (pt_cmpR op_ge (pe_callB call_abs (by rfl) T.z_abs (by decide +kernel) (pa_cons (pv 3) pa_nil)) (pe_op op_pow pe_int pe_int) (nomark _))
(pss_one (ps_expr (pe_bm PySem.F.plainAttrs_list PySem.F.slot_list_append PySem.F.type_list_append mt_append (pv 2) (pa_cons (pe_callB call_abs (by rfl) T.z_abs (by decide +kernel) (pa_cons (pv 3) pa_nil)) pa_nil))))
(pss_one (ps_set (i := 1) sc_law_pool_of.nd rfl (.inl rfl) (pe_op op_mod (pe_callTy call_int1 (by rfl) T.z_int (by decide +kernel) (pa_cons (pe_op op_add (pe_op op_mul (pv 1) pe_int) (pv 3)) pa_nil)) pe_int))))))
(pss_one (ps_ret (pe_lst (pa_cons (pv 2) (pa_cons (pv 1) (pa_cons pe_int pa_nil))))))))), ?_⟩
    refine ⟨Nat.zero_le _, fun r nr => ?_⟩
    have s1 : Same H (upd H r (.lst [])) := Same.new nr
    refine ⟨.ref a, rfl, 63, rfl, a, _, rfl, s1.seq hS, fun c nc => ?_⟩
    obtain ⟨ms, em, lm⟩ := cut_ints ns none (some 63)
    rw [em]
    have s2 := s1.trans (Same.new (o := .lst (ms.map V.int)) nc)
    have ncr : r ≠ c := ne_of_none upd_same nc
    refine ⟨c, rfl, ⟨_, SqL.of upd_same⟩, for_list (xs := ms.map V.int) (fun i σ H3 => ∃ (seed : Int) (y3 : Option V) (ks : List Int), σ = [some (.ref a), some (.int seed), some (.ref r), y3] ∧ Same H H3 ∧ H3 r = some (.lst (ks.map V.int)) ∧ H3 c = some (.lst (ms.map V.int)) ∧ ks.length ≤ i) ?_ ?_ ?_ ?_⟩
    · exact ⟨26, none, [], rfl, s2, by rw [upd_ne ncr, upd_same]; rfl, upd_same, Nat.le_refl _⟩
    · rintro i σ H3 _ ⟨seed, y3, ks, _, _, _, e, _⟩
      exact SqL.of e
    · rintro i x σ H3 hx ⟨seed, y3, ks, rfl, s3, er, ec, hk⟩
      obtain ⟨n, en⟩ : ∃ n, x = .int n := by
        rw [List.getElem?_map] at hx
        cases e : ms[i]? with
        | none => rw [e] at hx; cases hx
        | some n => rw [e] at hx; exact ⟨n, (Option.some.inj hx).symm⟩
      subst en
      have hi : i < ms.length := by
        have := (List.getElem?_eq_some_iff.mp hx).1
        rw [List.length_map] at this
        exact this
      refine ⟨.int n, rfl, n, rfl, 10, 18, rfl, rfl, ⟨by decide, by decide, by decide⟩, _, _, rfl, rfl, _, rfl, ite2 (fun e => ?_) (fun e => ?_)⟩
      · refine ⟨.ref r, rfl, .inl ⟨rfl, _, SqL.of er⟩, .int n, rfl, n, rfl, r, _, _, rfl, rfl, er, ?_, ?_⟩
        · rw [List.length_map]
          exact small1000 (by omega)
        · refine ⟨seed, some (.int n), ks ++ [if n < 0 then -n else n], rfl, fun b o e => ?_, ?_, ?_, ?_⟩
          · rw [upd_ne (ne_of_none e nr)]
            exact s3 _ _ e
          · rw [upd_same, List.map_append]
            rfl
          · rw [upd_ne ncr.symm]
            exact ec
          · rw [List.length_append]
            exact Nat.succ_le_succ hk
      · refine ⟨.int seed, rfl, _, _, rfl, rfl, .inr (by decide), .int n, rfl, _, _, rfl, rfl, .inl ⟨_, rfl, _, _, rfl, rfl, (by show (0 : Int) < _; decide), ?_⟩⟩
        exact ⟨_, some (.int n), ks, rfl, s3, er, ec, by omega⟩
    · rintro σ H3 ⟨seed, y3, ks, rfl, s3, er, ec, hk⟩
      refine ⟨.ref r, rfl, .int seed, rfl, szle, fun p np => ?_⟩
      have np1 : H p = none := s3.free np
      have npr : r ≠ p := ne_of_none er np
      exact q _ p r (s3.trans (Same.new np)) np1 nr ⟨seed, 0, ks, upd_same, by rw [upd_ne npr]; exact er⟩
end
end TW

namespace TW
open PySem PySem.Spec PyProof.Rows L2
/-! ### texts as lists of codes -/
def mk (l : List Nat) : Str := ⟨l.toArray⟩
theorem mk_tl (l : List Nat) : (mk l).cps.toList = l := rfl
theorem mk_of (z : Str) : mk z.cps.toList = z := by
  obtain ⟨a⟩ := z
  rfl
theorem mk_inj {l m : List Nat} (h : mk l = mk m) : l = m := by
  have e := congrArg (fun z : Str => z.cps.toList) h
  exact e
theorem mk_len (l : List Nat) : (mk l).length = l.length := by
  show l.toArray.size = l.length
  rw [List.size_toArray]
theorem mk_app (l m : List Nat) : mk l ++ mk m = mk (l ++ m) := by
  apply PyProof.Rows.ext_toList
  show ((mk l).cps ++ (mk m).cps).toList = l ++ m
  rw [Array.toList_append]
  rfl
/-! ### trees -/
inductive Tr where
  | nd (n : List Nat) (ks : List Tr)
mutual
def sz : Tr → Nat
  | .nd _ ks => 1 + szs ks
def szs : List Tr → Nat
  | [] => 0
  | t :: r => sz t + szs r
end
mutual
def lv : Tr → Nat
  | .nd _ ks => 1 + lvs ks
def lvs : List Tr → Nat
  | [] => 0
  | t :: r => max (lv t) (lvs r)
end
/-- texts with ", " between them -/
def jn : List (List Nat) → List Nat
  | [] => []
  | [p] => p
  | p :: q :: r => p ++ (44 :: 32 :: jn (q :: r))
mutual
def tm : Tr → List Nat
  | .nd n ks => match ks with
    | [] => n
    | k :: r => n ++ (40 :: (jn (tm k :: tms r) ++ [41]))
def tms : List Tr → List (List Nat)
  | [] => []
  | t :: r => tm t :: tms r
end
theorem tm_leaf (n : List Nat) : tm (.nd n []) = n := by rw [tm]
theorem tm_node (n : List Nat) (k : Tr) (r : List Tr) : tm (.nd n (k :: r)) = n ++ (40 :: (jn (tms (k :: r)) ++ [41])) := by rw [tm, tms]
theorem tms_map : ∀ ks : List Tr, tms ks = ks.map tm
  | [] => rfl
  | k :: r => by rw [tms, tms_map r]; rfl
/-! ### names -/
def capC (c : Nat) : Bool := Nat.ble 65 c && Nat.ble c 90
def alnC (c : Nat) : Bool := capC c || (Nat.ble 97 c && Nat.ble c 122) || (Nat.ble 48 c && Nat.ble c 57)
def digC (c : Nat) : Bool := Nat.ble 48 c && Nat.ble c 57
/-- a name that begins with a capital -/
def bigN : List Nat → Bool
  | [] => false
  | c :: r => capC c && r.all alnC && Nat.ble (r.length + 1) 8
/-- a hole or a digit -/
def leafN : List Nat → Bool
  | [c] => c == 95 || digC c
  | _ => false
mutual
def wf : Tr → Bool
  | .nd n ks => (bigN n || (leafN n && ks.isEmpty)) && (Nat.ble ks.length 3 && wfs ks)
def wfs : List Tr → Bool
  | [] => true
  | t :: r => wf t && wfs r
end
/-! ### how long a term is -/
theorem bigN_len {n : List Nat} (h : bigN n = true) : n.length ≤ 8 := by
  cases n with
  | nil => cases h
  | cons c r =>
    have := (Bool.and_eq_true_iff.mp h).2
    exact Nat.le_of_ble_eq_true this
theorem leafN_len {n : List Nat} (h : leafN n = true) : n.length = 1 := by
  match n, h with
  | [c], _ => rfl
mutual
theorem tm_len : ∀ t : Tr, wf t = true → (tm t).length + 2 ≤ 12 * sz t
  | .nd n ks, h => by
    rw [wf] at h
    obtain ⟨h1, h2⟩ := Bool.and_eq_true_iff.mp h
    obtain ⟨h3, h4⟩ := Bool.and_eq_true_iff.mp h2
    have hn : n.length ≤ 8 := by
      rcases Bool.or_eq_true_iff.mp h1 with z | z
      · exact bigN_len z
      · rw [leafN_len (Bool.and_eq_true_iff.mp z).1]
        decide
    have ih := tms_len ks h4
    cases ks with
    | nil =>
      rw [tm_leaf, sz, szs]
      omega
    | cons k r =>
      rw [tm_node, sz, List.length_append, List.length_cons, List.length_append]
      show n.length + ((jn (tms (k :: r))).length + 1 + 1) + 2 ≤ _
      omega
theorem tms_len : ∀ ks : List Tr, wfs ks = true → (jn (tms ks)).length ≤ 12 * szs ks
  | [], _ => by
    rw [tms, jn]
    exact Nat.zero_le _
  | k :: r, h => by
    rw [wfs] at h
    obtain ⟨h1, h2⟩ := Bool.and_eq_true_iff.mp h
    have a := tm_len k h1
    have b := tms_len r h2
    rw [tms, szs]
    cases r with
    | nil =>
      rw [tms, jn]
      omega
    | cons k2 r2 =>
      rw [tms] at b ⊢
      rw [jn, List.length_append, List.length_cons, List.length_cons]
      omega
end
end TW

namespace TW
open PySem PySem.Spec PyProof.Rows L2
/-! ### drawn names -/
theorem Drew.trans {p r : Addr} {H H1 H2 : Hp} (a : Drew p r H H1) (b : Drew p r H1 H2) : Drew p r H H2 := ⟨a.frm.trans b.frm, b.pool⟩
theorem Drew.refl {p r : Addr} {H : Hp} (h : PoolAt H p r) : Drew p r H H := ⟨Frm.refl, h⟩
theorem Drew.kp {p r : Addr} {H H' : Hp} (a : Drew p r H H') (h : PoolAt H p r) : Kp H H' := a.frm.kp h.lst
/-- a new object behind it -/
theorem Drew.new {p r q : Addr} {H H' : Hp} {o : HO} (a : Drew p r H H') (n : H' q = none) : Drew p r H (upd H' q o) := ⟨a.frm.trans (Frm.new n), a.pool.keep (Same.new n)⟩
theorem Drew.free {p r q : Addr} {H H' : Hp} (a : Drew p r H H') (n : H' q = none) : H q = none := by
  cases e : H q with
  | none => rfl
  | some o =>
    by_cases hq : PR p r q
    · exact absurd n (a.pool.some q hq)
    · rw [a.frm q o hq e] at n
      cases n
abbrev sgnS : Str := "ABCDEFGHIJKLMNOPQRSTUVWXYZabcdefghijklmnopqrstuvwxyz0123456789"
theorem sgn_at : ∀ j : Nat, j < 62 → ∃ c, sgnS.cps.toList[j]? = some c ∧ alnC c = true ∧ (j < 26 → capC c = true) := by decide +kernel
theorem sgn_len : sgnS.length = 62 := by decide +kernel
theorem sgn_get {v : Int} (h0 : 0 ≤ v) (h1 : v < 62) : ∃ c, atI sgnS.cps.toList v = some c ∧ alnC c = true ∧ (v < 26 → capC c = true) := by
  obtain ⟨c, e, a, b⟩ := sgn_at v.toNat (by omega)
  refine ⟨c, ?_, a, fun z => b (by omega)⟩
  have := atI_nat e
  rw [Int.toNat_of_nonneg h0] at this
  exact this
def sp_name : Sp := fun vs H Q _ => ∃ (p r : Addr), vs = [.ref p] ∧ PoolAt H p r ∧ ∀ H' n, bigN n = true → Drew p r H H' → Q (.str (mk n)) H'
/-! ### trees as tuples: (name, (part, ..)) -/
mutual
def LT (H : Hp) : V → Tr → Prop
  | v, .nd n ks => ∃ a b vs, v = .ref a ∧ H a = some (.tup [.str (mk n), .ref b]) ∧ H b = some (.tup vs) ∧ LTs H vs ks
def LTs (H : Hp) : List V → List Tr → Prop
  | [], [] => True
  | v :: vs, t :: ts => LT H v t ∧ LTs H vs ts
  | _, _ => False
end
mutual
theorem LT.kp {H H' : Hp} (k : Kp H H') : ∀ (v : V) (t : Tr), LT H v t → LT H' v t
  | v, .nd n ks, h => by
    rw [LT] at h ⊢
    obtain ⟨a, b, vs, e, h1, h2, h3⟩ := h
    exact ⟨a, b, vs, e, k _ _ h1 (fun _ z => nomatch z), k _ _ h2 (fun _ z => nomatch z), LTs.kp k vs ks h3⟩
theorem LTs.kp {H H' : Hp} (k : Kp H H') : ∀ (vs : List V) (ts : List Tr), LTs H vs ts → LTs H' vs ts
  | [], [], h => by rw [LTs]; trivial
  | v :: vs, t :: ts, h => by
    rw [LTs] at h ⊢
    exact ⟨LT.kp k v t h.1, LTs.kp k vs ts h.2⟩
  | [], _ :: _, h => by simp [LTs] at h
  | _ :: _, [], h => by simp [LTs] at h
end
theorem LTs.snoc {H : Hp} {v : V} {t : Tr} (h : LT H v t) : ∀ {vs : List V} {ts : List Tr}, LTs H vs ts → LTs H (vs ++ [v]) (ts ++ [t])
  | [], [], _ => by
    show LTs H [v] [t]
    rw [LTs, LTs]
    exact ⟨h, trivial⟩
  | x :: vs, y :: ts, g => by
    rw [LTs] at g
    show LTs H (x :: (vs ++ [v])) (y :: (ts ++ [t]))
    rw [LTs]
    exact ⟨g.1, LTs.snoc h g.2⟩
  | [], _ :: _, g => by simp [LTs] at g
  | _ :: _, [], g => by simp [LTs] at g
theorem LTs.length {H : Hp} : ∀ {vs : List V} {ts : List Tr}, LTs H vs ts → vs.length = ts.length
  | [], [], _ => rfl
  | x :: vs, y :: ts, g => by
    rw [LTs] at g
    exact congrArg Nat.succ (LTs.length g.2)
  | [], _ :: _, g => by simp [LTs] at g
  | _ :: _, [], g => by simp [LTs] at g
theorem szs_snoc (t : Tr) : ∀ ts : List Tr, szs (ts ++ [t]) = szs ts + sz t
  | [] => by
    show szs [t] = szs [] + sz t
    simp only [szs]
    omega
  | x :: ts => by
    show szs (x :: (ts ++ [t])) = szs (x :: ts) + sz t
    rw [szs, szs, szs_snoc t ts]
    omega
theorem wfs_snoc {t : Tr} (h : wf t = true) : ∀ {ts : List Tr}, wfs ts = true → wfs (ts ++ [t]) = true
  | [], _ => by
    show wfs [t] = true
    rw [wfs, wfs, h]
    rfl
  | x :: ts, g => by
    rw [wfs] at g
    obtain ⟨g1, g2⟩ := Bool.and_eq_true_iff.mp g
    show wfs (x :: (ts ++ [t])) = true
    rw [wfs, g1, wfs_snoc h g2]
    rfl
theorem LT.leaf {H : Hp} {n : List Nat} {a b : Addr} (na : upd H b (.tup []) a = none) : LT (upd (upd H b (.tup [])) a (.tup [.str (mk n), .ref b])) (.ref a) (.nd n []) := by
  rw [LT]
  refine ⟨a, b, [], rfl, upd_same, ?_, by rw [LTs]; trivial⟩
  rw [upd_ne (ne_of_none upd_same na), upd_same]
theorem LT.node {H : Hp} {n : List Nat} {a b : Addr} {vs : List V} {ts : List Tr} (h : LTs H vs ts) (nb : H b = none) (na : upd H b (.tup vs) a = none) : LT (upd (upd H b (.tup vs)) a (.tup [.str (mk n), .ref b])) (.ref a) (.nd n ts) := by
  rw [LT]
  refine ⟨a, b, vs, rfl, upd_same, ?_, LTs.kp (Same.kp ((Same.new nb).trans (Same.new na))) vs ts h⟩
  rw [upd_ne (ne_of_none upd_same na), upd_same]
theorem Grew.leaf_ {n : List Nat} (h : leafN n = true) : wf (.nd n []) = true := by
  rw [wf, h]
  cases bigN n <;> rfl
abbrev digS : Str := "0123456789"
theorem dig_at : ∀ j : Nat, j < 10 → ∃ c, digS.cps.toList[j]? = some c ∧ leafN [c] = true := by decide +kernel
theorem dig_len : digS.length = 10 := by decide +kernel
theorem dig_get {v : Int} (h0 : 0 ≤ v) (h1 : v < 10) : ∃ c, atI digS.cps.toList v = some c ∧ leafN [c] = true := by
  obtain ⟨c, e, a⟩ := dig_at v.toNat (by omega)
  refine ⟨c, ?_, a⟩
  have := atI_nat e
  rw [Int.toNat_of_nonneg h0] at this
  exact this
theorem atI_get {α : Type} {xs : List α} {v : Int} (h0 : 0 ≤ v) (h1 : v < xs.length) : ∃ x, atI xs v = some x ∧ x ∈ xs := by
  have h : v.toNat < xs.length := by omega
  refine ⟨xs[v.toNat], ?_, List.getElem_mem h⟩
  have := atI_nat (List.getElem?_eq_getElem h)
  rw [Int.toNat_of_nonneg h0] at this
  exact this
theorem bigN_wf {n : List Nat} {ts : List Tr} (h : bigN n = true) (hl : ts.length ≤ 3) (hw : wfs ts = true) : wf (.nd n ts) = true := by
  rw [wf, h, hw, show Nat.ble ts.length 3 = true from Nat.ble_eq_true_of_le hl]
  rfl
/-! ### a tree is grown -/
abbrev PRM (p r m : Addr) : Addr → Prop := fun b => b = p ∨ b = r ∨ b = m
abbrev strL (ws : List (List Nat)) : List V := ws.map fun n => V.str (mk n)
structure GrowIn (H : Hp) (p r nl rm : Addr) (ws : List (List Nat)) (k : Int) : Prop where
  pool : PoolAt H p r
  nms : H nl = some (.lst (strL ws))
  room : H rm = some (.lst [.int k])
  np : nl ≠ p
  nr : nl ≠ r
  mp : rm ≠ p
  mr : rm ≠ r
  mn : rm ≠ nl
theorem GrowIn.lst {H : Hp} {p r nl rm : Addr} {ws : List (List Nat)} {k : Int} (h : GrowIn H p r nl rm ws k) : ∀ b, PRM p r rm b → ∀ o, H b = some o → ∃ xs, o = .lst xs := fun b hb o e => by
  rcases hb with z | z | z
  · exact h.pool.lst b (.inl z) o e
  · exact h.pool.lst b (.inr z) o e
  · rw [z, h.room] at e
    cases e
    exact ⟨_, rfl⟩
theorem GrowIn.drew {H H' : Hp} {p r nl rm : Addr} {ws : List (List Nat)} {k : Int} (h : GrowIn H p r nl rm ws k) (d : Drew p r H H') : GrowIn H' p r nl rm ws k :=
  ⟨d.pool, d.frm _ _ (fun z => z.elim h.np h.nr) h.nms, d.frm _ _ (fun z => z.elim h.mp h.mr) h.room, h.np, h.nr, h.mp, h.mr, h.mn⟩
theorem GrowIn.new {H : Hp} {p r nl rm q : Addr} {o : HO} {ws : List (List Nat)} {k : Int} (h : GrowIn H p r nl rm ws k) (n : H q = none) : GrowIn (upd H q o) p r nl rm ws k :=
  ⟨h.pool.keep (Same.new n), Same.new n _ _ h.nms, Same.new n _ _ h.room, h.np, h.nr, h.mp, h.mr, h.mn⟩
theorem PRM.of {p r m : Addr} {H H' : Hp} (d : Drew p r H H') : Frm (PRM p r m) H H' := d.frm.mono fun b z => z.elim .inl fun y => .inr (.inl y)
/-- what it leaves: the tree t at v, room for k' more -/
structure Grew (H H' : Hp) (p r nl rm : Addr) (ws : List (List Nat)) (k d : Int) (v : V) (t : Tr) (k' : Int) : Prop where
  inn : GrowIn H' p r nl rm ws k'
  frm : Frm (PRM p r rm) H H'
  lt : LT H' v t
  wf : wf t = true
  sz : (sz t : Int) = k - k'
  lo : k - 1 ≤ k' ∨ -(3 * d) ≤ k'
  lev : (lv t : Int) ≤ d + 1
theorem lvs_snoc0 (t : Tr) (d : Int) (h : (lv t : Int) ≤ d) : ∀ ts : List Tr, (lvs ts : Int) ≤ d → (lvs (ts ++ [t]) : Int) ≤ d
  | [], _ => by
    show ((lvs [t] : Nat) : Int) ≤ d
    rw [lvs, lvs]
    omega
  | x :: r, h2 => by
    show ((lvs (x :: (r ++ [t])) : Nat) : Int) ≤ d
    rw [lvs] at h2 ⊢
    have := lvs_snoc0 t d h r (by omega)
    omega
def sp_grow (n : Nat) : Sp := fun vs H Q _ => ∃ (p r nl rm : Addr) (ws : List (List Nat)) (k d : Int), vs = [.ref p, .ref nl, .ref rm, .int d] ∧ GrowIn H p r nl rm ws k ∧ (∀ x ∈ ws, bigN x = true) ∧ 0 < ws.length ∧ ws.length ≤ 8 ∧ 0 ≤ d ∧ d < n ∧
  ∀ H' v t k', Grew H H' p r nl rm ws k d v t k' → Q v H'
section
variable {P : Program} {w : World} {K : PySem.W.Frag} {mg : Str → Option Value} {base : Heap}
theorem ok_name (T : Tx K mg) (G_law_draw : FnR P w K mg base CX0 1 (He.ga K "_law_draw") sp_draw) : FnR P w K mg base CX0 2 (He.ga K "_law_name_of") sp_name := by
  refine fnR0 T.d_law_name_of sc_law_name_of (fun _ _ _ _ _ _ us hl => match us, hl with | [_], _ => rfl) (fun vs H Q E h => ?_) (fun cdv A outer s H vs Q E hr h => ?_)
  · obtain ⟨p, r, rfl, _⟩ := h
    rfl
  · obtain ⟨p, r, rfl, hP, q⟩ := h
    refine ⟨_, (pss_cons (ps_set (i := 1) sc_law_name_of.nd rfl (.inl rfl) pe_str)
(pss_cons (ps_set (i := 2) sc_law_name_of.nd rfl (.inl rfl) (pe_ix ix_str (pv 1) (pe_cr G_law_draw (hr.mono (by omega)) (by rfl) T.v_law_draw T.k_law_draw pass0 (pa_cons (pv 0) (pa_cons pe_int pa_nil))) (fun _ _ => rfl)))
(pss_cons (ps_for PassesOwn.never rfl (pi_range1 (by rfl) T.z_range (pa_cons (pe_cr G_law_draw (hr.mono (by omega)) (by rfl) T.v_law_draw T.k_law_draw pass0 (pa_cons (pv 0) (pa_cons pe_int pa_nil))) pa_nil)) (pg_name (i := 3) sc_law_name_of.nd rfl (.inl rfl))
(pss_one (ps_set (i := 2) sc_law_name_of.nd rfl (.inl rfl) (pe_op op_add_str (pv 2) (pe_ix ix_str (pv 1) (pe_cr G_law_draw (hr.mono (by omega)) (by rfl) T.v_law_draw T.k_law_draw pass0 (pa_cons (pv 0) (pa_cons pe_int pa_nil))) (fun _ _ => rfl))))))
(pss_one (ps_ret (pv 2)))))), ?_⟩
    refine ⟨_, rfl, .ref p, rfl, p, r, 26, rfl, by decide, by decide, hP, fun H1 v v0 v1 D1 => ?_⟩
    obtain ⟨c, ec, _, cc⟩ := sgn_get v0 (by omega)
    refine ⟨sgnS, v, c, rfl, rfl, by rw [sgn_len]; exact szle, ec, ?_⟩
    refine ⟨.ref p, rfl, p, r, 8, rfl, by decide, by decide, D1.pool, fun H2 u u0 u1 D2 => ?_⟩
    refine ⟨u, rfl, by omega, by omega, for_range (lo := 0) (n := u.toNat) (fun i σ H3 => ∃ y3 l, σ = [some (.ref p), some (.str sgnS), some (.str (mk (c :: l))), y3] ∧ Drew p r H H3 ∧ l.all alnC = true ∧ l.length = i) ?_ ?_ ?_⟩
    · exact ⟨none, [], rfl, D1.trans D2, rfl, rfl⟩
    · rintro i σ H3 hi ⟨y3, l, rfl, D3, al, el⟩
      refine ⟨_, rfl, _, rfl, .ref p, rfl, p, r, 62, rfl, by decide, by decide, D3.pool, fun H4 x x0 x1 D4 => ?_⟩
      obtain ⟨d, ed, da, _⟩ := sgn_get x0 x1
      refine ⟨sgnS, x, d, rfl, rfl, by rw [sgn_len]; exact szle, ed, mk (c :: l), mk [d], rfl, rfl, ?_, ?_⟩
      · rw [mk_len, mk_len, List.length_cons, el]
        exact Nat.le_trans (show i + 1 + 1 ≤ 1000 by omega) szle
      · rw [mk_app]
        refine ⟨some (.int (0 + i)), l ++ [d], rfl, D3.trans D4, ?_, ?_⟩
        · rw [List.all_append, al]
          show (true && (alnC d && true)) = true
          rw [da]
          rfl
        · rw [List.length_append, el]
          rfl
    · rintro σ H3 ⟨y3, l, rfl, D3, al, el⟩
      refine ⟨_, rfl, q H3 (c :: l) ?_ D3⟩
      show (capC c && l.all alnC && Nat.ble (l.length + 1) 8) = true
      rw [cc v1, al, show Nat.ble (l.length + 1) 8 = true from Nat.ble_eq_true_of_le (by omega)]
      rfl
theorem ok_grow (T : Tx K mg) (G_law_draw : FnR P w K mg base CX0 1 (He.ga K "_law_draw") sp_draw) : ∀ n : Nat, FnR P w K mg base CX0 (n + 1) (He.ga K "_law_grow") (sp_grow n) := by
  intro n
  induction n with
  | zero =>
    intro A outer s H us vs Q E hr e0 r h
    obtain ⟨p, r, nl, rm, ws, k, d, rfl, _, _, _, _, h0, h1, _⟩ := h
    omega
  | succ n ih =>
  have G_law_grow := ih
  refine fnR0 T.d_law_grow sc_law_grow (fun _ _ _ _ _ _ us hl => match us, hl with | [_, _, _, _], _ => rfl) (fun vs H Q E h => ?_) (fun cdv A outer s H vs Q E hr h => ?_)
  · obtain ⟨p, r, nl, rm, ws, k, d, rfl, _⟩ := h
    rfl
  · obtain ⟨p, r, nl, rm, ws, k, d, rfl, hG, hb, hw0, hw1, hd0, hd1, q⟩ := h
    have hg := hr
    refine ⟨_, (pss_cons (ps_asg (pe_op op_sub (pe_ix (r := rIxL K) ix_list (pv 2) pe_int (fun _ _ => rfl)) pe_int) (pg_sub (pv 2) pe_int set_list))
(pss_cons (ps_set (i := 4) sc_law_grow.nd rfl (.inl rfl) (pe_cr G_law_draw (hr.mono (by omega)) (by rfl) T.v_law_draw T.k_law_draw pass0 (pa_cons (pv 0) (pa_cons pe_int pa_nil))))
(pss_mid (ps_if (pt_cmpR op_gt (pv 3) pe_int (nomark _))
(pss_one (ps_set (i := 4) sc_law_grow.nd rfl (.inl rfl) (pe_ix (r := rIxL K) ix_list (pe_lst (pa_cons pe_int (pa_cons pe_int (pa_cons pe_int (pa_cons pe_int (pa_cons pe_int (pa_cons pe_int (pa_cons pe_int (pa_cons pe_int pa_nil))))))))) (pe_op op_mod (pe_callTy call_int1 (by rfl) T.z_int (by decide +kernel) (pa_cons (pv 4) pa_nil)) pe_int) (fun _ _ => rfl))))
pss_nil)
(pss_cons (ps_if (pt_cmpR op_eq (pv 4) pe_int (nomark _))
(pss_one (ps_ret (pe_tup (pa_cons pe_str (pa_cons (pe_tup pa_nil) pa_nil)))))
pss_nil)
(pss_cons (ps_if (pt_cmpR op_eq (pv 4) pe_int (nomark _))
(pss_one (ps_ret (pe_tup (pa_cons (pe_ix ix_str pe_str (pe_cr G_law_draw (hr.mono (by omega)) (by rfl) T.v_law_draw T.k_law_draw pass0 (pa_cons (pv 0) (pa_cons pe_int pa_nil))) (fun _ _ => rfl)) (pa_cons (pe_tup pa_nil) pa_nil)))))
pss_nil)
(pss_cons (ps_set (i := 5) sc_law_grow.nd rfl (.inl rfl) (pe_ix (r := rIxL K) ix_list (pv 1) (pe_cr G_law_draw (hr.mono (by omega)) (by rfl) T.v_law_draw T.k_law_draw pass0 (pa_cons (pv 0) (pa_cons (pe_callB call_len (by rfl) T.z_len (by decide +kernel) (pa_cons (pv 1) pa_nil)) pa_nil))) (fun _ _ => rfl)))
(pss_cons (ps_set (i := 6) sc_law_grow.nd rfl (.inl rfl) (pe_lst pa_nil))
(pss_mid (ps_if (PW.pt (pw_and (pt_cmpR op_gt (pv 3) pe_int (nomark _)) (pw_and1 (pt_cmpR op_gt (pe_ix (r := rIxL K) ix_list (pv 2) pe_int (fun _ _ => rfl)) pe_int (nomark _)))))
(pss_one (ps_for PassesOwn.never rfl (pi_range1 (by rfl) T.z_range (pa_cons (pe_op op_mod (pe_callTy call_int1 (by rfl) T.z_int (by decide +kernel) (pa_cons (pv 4) pa_nil)) pe_int) pa_nil)) (pg_name (i := 7) sc_law_grow.nd rfl (.inl rfl))
(pss_one (ps_expr (pe_bm PySem.F.plainAttrs_list PySem.F.slot_list_append PySem.F.type_list_append mt_append (pv 6) (pa_cons (pe_cr G_law_grow hg (by rfl) T.v_law_grow T.k_law_grow pass0 (pa_cons (pv 0) (pa_cons (pv 1) (pa_cons (pv 2) (pa_cons (pe_op op_sub (pv 3) pe_int) pa_nil))))) pa_nil))))))
pss_nil)
(pss_one (ps_ret (pe_tup (pa_cons (pv 5) (pa_cons (pe_callTy call_tuple_of (by rfl) T.z_tuple (by decide +kernel) (pa_cons (pv 6) pa_nil)) pa_nil))))))))))))), ?_⟩
    -- room[0] = room[0] - 1
    refine ⟨.ref rm, rfl, rm, _, 0, .int k, rfl, rfl, SqL.of hG.room, rfl, k, 1, rfl, rfl, ?_⟩
    refine ⟨.ref rm, rfl, rm, _, 0, 0, rfl, rfl, hG.room, rfl, ?_⟩
    have F1 : Frm (PRM p r rm) H (upd H rm (.lst [.int (k - 1)])) := Frm.at (.inr (.inr rfl))
    have hG1 : GrowIn (upd H rm (.lst [.int (k - 1)])) p r nl rm ws (k - 1) := ⟨hG.pool.upd hG.mp hG.mr, by rw [upd_ne hG.mn.symm]; exact hG.nms, upd_same, hG.np, hG.nr, hG.mp, hG.mr, hG.mn⟩
    -- pick
    refine ⟨.ref p, rfl, p, r, 12, rfl, by decide, by decide, hG1.pool, fun H2 v v0 v1 D2 => ?_⟩
    have hG2 := hG1.drew D2
    have F2 : Frm (PRM p r rm) H H2 := F1.trans (PRM.of D2)
    refine ⟨fun σ' H' => ∃ pk : Int, σ' = [some (.ref p), some (.ref nl), some (.ref rm), some (.int d), some (.int pk), none, none, none] ∧ 0 ≤ pk ∧ pk < 12 ∧ GrowIn H' p r nl rm ws (k - 1) ∧ Frm (PRM p r rm) H H', ?_, ?_⟩
    · refine ⟨.int d, rfl, d, 3, rfl, rfl, _, rfl, ite2 (fun e => ?_) (fun e => ?_)⟩
      · refine ⟨szle, fun c nc => ⟨_, rfl, .inl ⟨v, rfl, v, 8, rfl, rfl, (by show (0 : Int) < 8; decide), ?_⟩⟩⟩
        have hv : 0 ≤ v % 8 ∧ v % 8 < 8 := ⟨Int.emod_nonneg _ (by decide), Int.emod_lt_of_pos _ (by decide)⟩
        obtain ⟨x, ex, x0, x1⟩ : ∃ x : Int, atI [V.int 2, .int 3, .int 5, .int 6, .int 7, .int 9, .int 10, .int 11] (v % 8) = some (.int x) ∧ 0 ≤ x ∧ x < 12 := by
          have : v % 8 = 0 ∨ v % 8 = 1 ∨ v % 8 = 2 ∨ v % 8 = 3 ∨ v % 8 = 4 ∨ v % 8 = 5 ∨ v % 8 = 6 ∨ v % 8 = 7 := by omega
          rcases this with z | z | z | z | z | z | z | z <;> rw [z]
          · exact ⟨2, rfl, by decide, by decide⟩
          · exact ⟨3, rfl, by decide, by decide⟩
          · exact ⟨5, rfl, by decide, by decide⟩
          · exact ⟨6, rfl, by decide, by decide⟩
          · exact ⟨7, rfl, by decide, by decide⟩
          · exact ⟨9, rfl, by decide, by decide⟩
          · exact ⟨10, rfl, by decide, by decide⟩
          · exact ⟨11, rfl, by decide, by decide⟩
        refine ⟨c, _, v % 8, .int x, rfl, rfl, SqL.of upd_same, ex, x, rfl, x0, x1, hG2.new nc, F2.trans (Frm.new nc)⟩
      · exact ⟨v, rfl, v0, v1, hG2, F2⟩
    rintro σ' H3 ⟨pk, rfl, k0, k1, hG3, F3⟩
    -- a hole
    refine ⟨.int pk, rfl, rfl, _, rfl, ite2 (fun e => ?_) (fun e => ?_)⟩
    · refine ⟨szle, fun b nb => ⟨szle, fun a na => q _ _ (.nd [95] []) (k - 1) ⟨(hG3.new nb).new na, (F3.trans (Frm.new nb)).trans (Frm.new na), LT.leaf na, Grew.leaf_ rfl, by simp only [sz, szs]; omega, .inl (Int.le_refl _), by simp only [lv, lvs]; omega⟩⟩⟩
    -- a digit
    refine ⟨.int pk, rfl, rfl, _, rfl, ite2 (fun e2 => ?_) (fun e2 => ?_)⟩
    · refine ⟨.ref p, rfl, p, r, 10, rfl, by decide, by decide, hG3.pool, fun H4 x x0 x1 D4 => ?_⟩
      obtain ⟨c, ec, lc⟩ := dig_get x0 x1
      refine ⟨digS, x, c, rfl, rfl, by rw [dig_len]; exact szle, ec, szle, fun b nb => ⟨szle, fun a na => q _ _ (.nd [c] []) (k - 1) ⟨((hG3.drew D4).new nb).new na, ((F3.trans (PRM.of D4)).trans (Frm.new nb)).trans (Frm.new na), LT.leaf na, Grew.leaf_ lc, by simp only [sz, szs]; omega, .inl (Int.le_refl _), by simp only [lv, lvs]; omega⟩⟩⟩
    -- the name
    refine ⟨.ref nl, rfl, .ref p, rfl, .ref nl, rfl, .ref nl, ws.length, rfl, .inl ⟨_, SqL.of hG3.nms, (List.length_map _).symm⟩, p, r, (ws.length : Int), rfl, by omega, by omega, hG3.pool, fun H4 x x0 x1 D4 => ?_⟩
    have hG4 := hG3.drew D4
    obtain ⟨nv, en, mn⟩ := atI_get (xs := strL ws) x0 (by rw [List.length_map]; exact x1)
    obtain ⟨nm, hm, rfl⟩ := List.mem_map.mp mn
    refine ⟨nl, _, x, _, rfl, rfl, SqL.of hG4.nms, en, ?_⟩
    -- parts = []
    refine ⟨szle, fun pl np => ?_⟩
    have hG5 : GrowIn (upd H4 pl (.lst [])) p r nl rm ws (k - 1) := hG4.new np
    have F5 : Frm (PRM p r rm) H (upd H4 pl (.lst [])) := (F3.trans (PRM.of D4)).trans (Frm.new np)
    have pl0 : H pl = none := by
      cases e : H pl with
      | none => rfl
      | some o =>
        by_cases z : PRM p r rm pl
        · rcases z with z | z | z
          · exact absurd np (hG4.pool.some pl (.inl z))
          · exact absurd np (hG4.pool.some pl (.inr z))
          · rw [z, hG4.room] at np
            cases np
        · rw [(F3.trans (PRM.of D4)) pl o z e] at np
          cases np
    have plS : ¬ PRM p r rm pl := fun z => by
      rcases z with z | z | z
      · exact (hG.pool.some pl (.inl z)) pl0
      · exact (hG.pool.some pl (.inr z)) pl0
      · rw [z, hG.room] at pl0
        cases pl0
    have pln : pl ≠ nl := (ne_of_none hG.nms pl0).symm
    refine ⟨fun σ' H' => ∃ (vs : List V) (ts : List Tr) (y7 : Option V) (k' : Int), σ' = [some (.ref p), some (.ref nl), some (.ref rm), some (.int d), some (.int pk), some (.str (mk nm)), some (.ref pl), y7] ∧ GrowIn H' p r nl rm ws k' ∧ Frm (PRM p r rm) H H' ∧
      H' pl = some (.lst vs) ∧ LTs H' vs ts ∧ wfs ts = true ∧ ts.length ≤ 3 ∧ (szs ts : Int) = k - 1 - k' ∧ (k - 1 ≤ k' ∨ -(3 * d) ≤ k') ∧ (lvs ts : Int) ≤ d, ?_, ?_⟩
    · refine ⟨.int d, rfl, d, 0, rfl, rfl, _, rfl, ite2 (fun e3 => ?_) (fun e3 => ?_)⟩
      · have d0 : 0 < d := of_decide_eq_true e3
        refine ⟨.ref rm, rfl, rm, _, 0, .int (k - 1), rfl, rfl, SqL.of hG5.room, rfl, k - 1, 0, rfl, rfl, _, rfl, ite2 (fun e4 => ?_) (fun e4 => ?_)⟩
        · have k1 : 0 < k - 1 := of_decide_eq_true e4
          refine ⟨.int pk, rfl, .inl ⟨pk, rfl, pk, 4, rfl, rfl, (by show (0 : Int) < 4; decide), pk % 4, rfl, by omega, by omega, ?_⟩⟩
          have hn : (pk % 4).toNat ≤ 3 := by omega
          refine for_range (lo := 0) (n := (pk % 4).toNat) (fun i σ' H' => ∃ (vs : List V) (ts : List Tr) (y7 : Option V) (k' : Int), σ' = [some (.ref p), some (.ref nl), some (.ref rm), some (.int d), some (.int pk), some (.str (mk nm)), some (.ref pl), y7] ∧ GrowIn H' p r nl rm ws k' ∧ Frm (PRM p r rm) H H' ∧
            H' pl = some (.lst vs) ∧ LTs H' vs ts ∧ wfs ts = true ∧ ts.length = i ∧ (szs ts : Int) = k - 1 - k' ∧ -(3 * (d - 1)) ≤ k' + i ∧ (lvs ts : Int) ≤ d) ?_ ?_ ?_
          · exact ⟨[], [], none, k - 1, rfl, hG5, F5, upd_same, by rw [LTs]; trivial, rfl, rfl, by simp only [szs]; omega, by omega, by simp only [lvs]; omega⟩
          · rintro i σ' H6 hi ⟨vs, ts, y7, k', rfl, hG6, F6, el, hL, hw, ht, hz, hk, hv⟩
            refine ⟨.ref pl, rfl, .inl ⟨rfl, _, SqL.of el⟩, .ref p, rfl, .ref nl, rfl, .ref rm, rfl, .int d, rfl, d, 1, rfl, rfl, p, r, nl, rm, ws, k', d - 1, rfl, hG6, hb, hw0, hw1, by omega, by omega, fun H7 v t k2 Gr => ?_⟩
            have el7 : H7 pl = some (.lst vs) := Gr.frm _ _ plS el
            have L : vs.length = ts.length := hL.length
            refine ⟨pl, vs, v, rfl, rfl, el7, small1000 (by omega), ?_⟩
            have hpl : ∀ b, PRM p r rm b ∨ b = nl → b ≠ pl := fun b z y => by
              rcases z with z | z
              · exact plS (y ▸ z)
              · exact pln (y.symm.trans z)
            have kk : Kp H7 (upd H7 pl (.lst (vs ++ [v]))) := fun b o e n => by
              have : b ≠ pl := fun z => by
                rw [z, el7] at e
                cases e
                exact n _ rfl
              rw [upd_ne this]
              exact e
            have kg : Kp H6 H7 := Gr.frm.kp hG6.lst
            refine ⟨vs ++ [v], ts ++ [t], some (.int (0 + i)), k2, rfl, ⟨Gr.inn.pool.upd (hpl _ (.inl (.inl rfl))).symm (hpl _ (.inl (.inr (.inl rfl)))).symm, by rw [upd_ne pln.symm]; exact Gr.inn.nms, by rw [upd_ne (hpl _ (.inl (.inr (.inr rfl))))]; exact Gr.inn.room, hG.np, hG.nr, hG.mp, hG.mr, hG.mn⟩,
              fun b o nb e => ?_, upd_same, LTs.snoc (LT.kp kk _ _ Gr.lt) (LTs.kp kk _ _ (LTs.kp kg _ _ hL)), wfs_snoc Gr.wf hw, by rw [List.length_append, ht]; rfl, ?_, ?_, lvs_snoc0 t d (by have := Gr.lev; omega) ts hv⟩
            · rw [upd_ne (ne_of_none e pl0)]
              exact Gr.frm b o nb (F6 b o nb e)
            · rw [szs_snoc]
              have := Gr.sz
              omega
            · have := Gr.lo
              omega
          · rintro σ' H6 ⟨vs, ts, y7, k', rfl, hG6, F6, el, hL, hw, ht, hz, hk, hv⟩
            exact ⟨vs, ts, y7, k', rfl, hG6, F6, el, hL, hw, by omega, hz, .inr (by omega), hv⟩
        · exact ⟨[], [], none, k - 1, rfl, hG5, F5, upd_same, by rw [LTs]; trivial, rfl, Nat.zero_le _, by simp only [szs]; omega, .inl (Int.le_refl _), by simp only [lvs]; omega⟩
      · exact ⟨[], [], none, k - 1, rfl, hG5, F5, upd_same, by rw [LTs]; trivial, rfl, Nat.zero_le _, by simp only [szs]; omega, .inl (Int.le_refl _), by simp only [lvs]; omega⟩
    rintro σ' H6 ⟨vs, ts, y7, k', rfl, hG6, F6, el, hL, hw, ht, hz, hk, hv⟩
    refine ⟨.str (mk nm), rfl, .ref pl, rfl, pl, vs, rfl, .inl ⟨SqL.of el, fun b nb => ⟨szle, fun a na => q _ _ (.nd nm ts) k' ⟨(hG6.new nb).new na, (F6.trans (Frm.new nb)).trans (Frm.new na), LT.node hL nb na, bigN_wf (hb nm hm) ht hw, by rw [sz]; omega, hk, by rw [lv]; omega⟩⟩⟩⟩
end
end TW

namespace TW
open PySem PySem.Spec PyProof.Rows L2
/-! ### t[::-1] of a tuple -/
section
variable {prog : Program} {w : World} {A : Around} {E : Value → Shared → Prop} {s : Shared}
theorem back_pick (xs : Array Value) : ((List.range xs.size).filterMap fun (k : Nat) => xs[(((xs.size : Int) - 1) + (k : Int) * (-1)).toNat]?) = xs.toList.reverse := by
  have e : (List.range xs.size).filterMap (fun (k : Nat) => xs[(((xs.size : Int) - 1) + (k : Int) * (-1)).toNat]?) = (List.range xs.size).filterMap (fun k => xs[xs.size - 1 - k]?) := by
    have g : ∀ l : List Nat, (∀ k ∈ l, k < xs.size) → l.filterMap (fun (k : Nat) => xs[(((xs.size : Int) - 1) + (k : Int) * (-1)).toNat]?) = l.filterMap (fun k => xs[xs.size - 1 - k]?) := by
      intro l
      induction l with
      | nil => intro _; rfl
      | cons k r ih =>
        intro hl
        have hk := hl k List.mem_cons_self
        have e1 : (((xs.size : Int) - 1) + (k : Int) * (-1)).toNat = xs.size - 1 - k := by omega
        rw [List.filterMap_cons, List.filterMap_cons, e1, ih fun j hj => hl j (List.mem_cons_of_mem _ hj)]
    exact g _ fun k hk => List.mem_range.mp hk
  rw [e]
  have f : (fun k => xs[xs.size - 1 - k]?) = (fun j => xs[j]?) ∘ fun k => xs.size - 1 - k := rfl
  rw [f, ← List.filterMap_map, PySem.W.krv_range, List.filterMap_reverse, PySem.W.krv_all]
theorem back_applied {sl : Addr} {vl vu vs : Value} {n : Nat} {Q : Int × Int × Nat → Shared → Prop} (hs : s.heap.IsSliceOf sl vl vu vs) (pl : IsPart vl none) (pu : IsPart vu none) (ps : IsPart vs (some (-1)))
    (h : Q ((n : Int) - 1, -1, n) s) : wpAny (model prog w) A (Builtin.Slice.sliceApplied (.ref sl) (pure (n : Int))) Q E s := by
  obtain ⟨os, hos, hcs, hds⟩ := id hs
  unfold Builtin.Slice.sliceApplied Builtin.Slice.sliceFields
  refine wpAny_bind (wpAny_bind (wpAny_field hos hds (x := vl) rfl (wpAny_bind (wpAny_field hos hds (x := vu) rfl (wpAny_bind (wpAny_field hos hds (x := vs) rfl (wpAny_pure ?_)))))))
  refine wpAny_bind (HT.slicePart_ ps ?_)
  show wpAny _ _ (if ((-1 : Int) == 0) = true then _ else _) _ _ s
  rw [if_neg (by decide)]
  refine wpAny_bind (HT.slicePart_ pl (wpAny_bind (HT.slicePart_ pu (wpAny_bind (wpAny_pure ?_)))))
  have e : Builtin.Slice.slicePlaces ((n : Int) - 1) (-1) (-1) = n := by
    unfold Builtin.Slice.slicePlaces
    rw [if_neg (by decide)]
    by_cases hn : n = 0
    · subst hn
      rw [if_neg (by decide)]
      rfl
    · rw [if_pos (by omega), show (- -1 : Int) = 1 from rfl, Int.ediv_one]
      omega
  show wpAny _ _ (pure ((n : Int) - 1, (-1 : Int), Builtin.Slice.slicePlaces ((n : Int) - 1) (-1) (-1))) _ _ s
  rw [e]
  exact wpAny_pure h
theorem back_tuple {t sl : Addr} {items : Array Value} {vl vu vs : Value} {Q : Value → Shared → Prop} (ht : IsTup s.heap t items) (hs : s.heap.IsSliceOf sl vl vu vs) (pl : IsPart vl none) (pu : IsPart vu none) (ps : IsPart vs (some (-1)))
    (h : Q (.ref s.heap.objs.size) { s with heap := s.heap.push { cls := .type "tuple", data := .seq items.toList.reverse.toArray } }) (hsz : items.size ≤ sizeLine) : wpAny (model prog w) A (getItem (.ref t) (.ref sl)) Q E s := by
  have fits : sizeOk (.seq items.toList.reverse.toArray) := by
    show items.toList.reverse.toArray.size ≤ sizeLine
    rw [List.size_toArray, List.length_reverse, Array.length_toList]
    exact hsz
  obtain ⟨os, hos, hcs, hds⟩ := id hs
  have hT : s.TypeIs (.ref sl) "slice" := ⟨os, hos, hcs⟩
  unfold getItem
  try with_reducible refine wpAny_holding ?_
  first | refine wpAny_bind (wpAny_pure ?_) | skip
  refine wpAny_bind (wpAny_sequenceKey ht.typeIs (by decide) ?_)
  refine wpAny_bind (wpAny_callSpecial?_slot (name := Str.ofString "__getitem__") ht.typeIs PyProof.Rows.slot_tuple_getitem (wpAny_call_entry PyProof.Rows.slot_tuple_getitem ht.typeIs entry_tuple_getitem ?_ (args_tuple_getitem _ _)))
  show wpAny _ _ (Builtin.Tuple.tupleItemsOf (.ref t) >>= _) _ _ s
  refine wpAny_bind (tupleItemsOf_ ht (wpAny_bind (wpAny_typeOf hT ?_)))
  rw [if_pos (by decide)]
  refine wpAny_bind (back_applied hs pl pu ps ?_)
  have no : ¬ ((((items.size : Int) - 1) == 0 && (-1 : Int) == 1 && items.size == items.size) = true) := by
    rw [show ((-1 : Int) == 1) = false from rfl, Bool.and_false, Bool.false_and]
    exact Bool.false_ne_true
  show wpAny _ _ (if (((items.size : Int) - 1) == 0 && (-1 : Int) == 1 && items.size == items.size) = true then _ else _) _ _ s
  rw [if_neg no, back_pick]
  first
    | exact wpAny_bind (m := Builtin.Tuple.tupleExact _) (wpAny_newObj_type (wpAny_pure ⟨_, rfl, wpAny_pure h⟩) fits)
    | exact wpAny_bind (m := Builtin.Tuple.tupleExact _) (wpAny_newObj_type (wpAny_bind (wpAny_pure (wpAny_pure ⟨_, rfl, wpAny_pure h⟩))) fits)
    | exact wpAny_bind (wpAny_bind (m := Builtin.Tuple.tupleExact _) (wpAny_newObj_type (wpAny_pure (wpAny_pure ⟨_, rfl, wpAny_pure h⟩)) fits))
    | exact wpAny_bind (wpAny_bind (m := Builtin.Tuple.tupleExact _) (wpAny_newObj_type (wpAny_pure ⟨_, rfl, wpAny_pure h⟩) fits))
end
def tRevT (K : PySem.W.Frag) (te : TE) : TE := fun σ H Q => te σ H fun x H1 => ∃ a xs, x = .ref a ∧ SqT K H1 a xs ∧ ∀ p, H1 p = none → Q (.ref p) (upd H1 p (.tup xs.reverse))
theorem pe_revT {X : Cx} {e : Expr} {te : TE} {k : Nat} {p1 p2 p3 pos : Pos} (he : PE X e te) : PE X (.Subscript e (.Slice none none (some (.UnaryOp .USub (.Constant (.int 1) k p1) p2)) p3) pos) (tRevT X.K te) := by
  refine ⟨fun pins s σ H Q I h => ?_⟩
  refine Subscript_ (thn (he.run pins s σ H _ I h) fun v s1 z1 => ?_)
  obtain ⟨x, H1, I1, r1, a, xs, ex, hx, q⟩ := z1
  subst ex
  cases r1
  have st : PO X (some (.UnaryOp .USub (.Constant (.int 1) k p1) p2)) (tPart (tUn (rU fun i => .int (-i)) (tC (.int 1)))) := po_some (pe_un un_neg pe_int)
  refine wpAny_Slice (thn (po_none.run pins s1 σ H1 (fun o G => o = none ∧ G = H1) I1 ⟨rfl, rfl⟩) fun vl s2 z2 => ?_)
  obtain ⟨l, H2, I2, pl, el, e2⟩ := z2
  subst el e2
  refine thn (po_none.run pins s2 σ H2 (fun o G => o = none ∧ G = H2) I2 ⟨rfl, rfl⟩) fun vu s3 z3 => ?_
  obtain ⟨u, H3, I3, pu, eu, e3⟩ := z3
  subst eu e3
  refine thn (st.run pins s3 σ H3 (fun o G => o = some (-1) ∧ G = H3) I3 ⟨1, rfl, -1, rfl, rfl, rfl⟩) fun vs s4 z4 => ?_
  obtain ⟨o, H4, I4, ps, eo, e4⟩ := z4
  subst eo e4
  have I5 : Inv X pins σ H4 { s4 with heap := s4.heap.push { cls := .type "slice", data := .fields #[vl, vu, vs] } } := I4.kept (t' := s4.toks) fun b ob y => Heap.get?_push_of_some _ y
  obtain ⟨its, r, ht, hz⟩ := I5.tuple hx
  have hlen := r.length
  show wpAny (model X.prog X.w) X.A (subscriptTail e (.Slice none none (some (.UnaryOp .USub (.Constant (.int 1) k p1) p2)) p3) (.ref a) (.ref s4.heap.objs.size)) (EP X pins σ Q) X.xe _
  refine tail_any (ops := [.ref a, .ref s4.heap.objs.size]) ht.typeIs (PyProof.Rows.slot_tuple_getitem.lookup) ?_ (by with_unfolding_all rfl)
  refine back_tuple ht (Heap.IsSliceOf.new _ vl vu vs) pl pu ps ?_ (by rw [List.size_toArray]; omega)
  refine ⟨.ref _, _, I5.laid (t' := s4.toks) (o := .tup xs.reverse) (fun b ob y => Heap.get?_push_of_some _ y) (Nat.le_refl _) ?_, rfl, q _ (I5.hok.fresh (Nat.le_refl _))⟩
  exact ⟨by rw [List.length_reverse]; exact hz, _, r.reverse, ⟨_, Heap.get?_push_size _ rfl, rfl, _, rfl⟩⟩
end TW

namespace TW
open PySem PySem.Spec PyProof.Rows L2
/-! ### lists of trees -/
theorem LTs.get {H : Hp} : ∀ {vs : List V} {ts : List Tr} {i : Nat} {v : V}, LTs H vs ts → vs[i]? = some v → ∃ t, ts[i]? = some t ∧ LT H v t
  | [], [], i, v, _, e => by simp at e
  | x :: vs, y :: ts, 0, v, g, e => by
    rw [LTs] at g
    have : x = v := Option.some.inj e
    subst this
    exact ⟨y, rfl, g.1⟩
  | x :: vs, y :: ts, i + 1, v, g, e => by
    rw [LTs] at g
    exact LTs.get (i := i) g.2 e
  | [], _ :: _, _, _, g, _ => by simp [LTs] at g
  | _ :: _, [], _, _, g, _ => by simp [LTs] at g
theorem LTs.app {H : Hp} : ∀ {vs us : List V} {ts rs : List Tr}, LTs H vs ts → LTs H us rs → LTs H (vs ++ us) (ts ++ rs)
  | [], us, [], rs, _, h => h
  | x :: vs, us, y :: ts, rs, g, h => by
    rw [LTs] at g
    show LTs H (x :: (vs ++ us)) (y :: (ts ++ rs))
    rw [LTs]
    exact ⟨g.1, LTs.app g.2 h⟩
  | [], _, _ :: _, _, g, _ => by simp [LTs] at g
  | _ :: _, _, [], _, g, _ => by simp [LTs] at g
theorem LTs.rev {H : Hp} : ∀ {vs : List V} {ts : List Tr}, LTs H vs ts → LTs H vs.reverse ts.reverse
  | [], [], h => h
  | x :: vs, y :: ts, g => by
    rw [LTs] at g
    rw [List.reverse_cons, List.reverse_cons]
    exact LTs.snoc g.1 (LTs.rev g.2)
  | [], _ :: _, g => by simp [LTs] at g
  | _ :: _, [], g => by simp [LTs] at g
theorem sz_pos : ∀ t : Tr, 1 ≤ sz t
  | .nd n ks => by
    rw [sz]
    omega
theorem szs_mem : ∀ {ts : List Tr} {t : Tr}, t ∈ ts → sz t ≤ szs ts
  | x :: ts, t, h => by
    rw [szs]
    rcases List.mem_cons.mp h with e | e
    · subst e
      omega
    · have := szs_mem e
      omega
theorem len_szs : ∀ ts : List Tr, ts.length ≤ szs ts
  | [] => Nat.zero_le _
  | x :: ts => by
    rw [szs, List.length_cons]
    have := len_szs ts
    have := sz_pos x
    omega
theorem wfs_mem : ∀ {ts : List Tr} {t : Tr}, wfs ts = true → t ∈ ts → wf t = true
  | x :: ts, t, g, h => by
    rw [wfs] at g
    obtain ⟨g1, g2⟩ := Bool.and_eq_true_iff.mp g
    rcases List.mem_cons.mp h with e | e
    · subst e
      exact g1
    · exact wfs_mem g2 e
theorem wf_kids {n : List Nat} {ks : List Tr} (h : wf (.nd n ks) = true) : wfs ks = true ∧ ks.length ≤ 3 ∧ (bigN n = true ∨ (leafN n = true ∧ ks = [])) := by
  rw [wf] at h
  obtain ⟨h1, h2⟩ := Bool.and_eq_true_iff.mp h
  obtain ⟨h3, h4⟩ := Bool.and_eq_true_iff.mp h2
  refine ⟨h4, Nat.le_of_ble_eq_true h3, ?_⟩
  rcases Bool.or_eq_true_iff.mp h1 with z | z
  · exact .inl z
  · obtain ⟨z1, z2⟩ := Bool.and_eq_true_iff.mp z
    exact .inr ⟨z1, List.isEmpty_iff.mp z2⟩
theorem take_get {α : Type} {l : List α} {i : Nat} {x : α} (h : l[i]? = some x) : l.take (i + 1) = l.take i ++ [x] := by
  rw [List.take_add_one, h]
  rfl
/-! ### the mirror -/
mutual
def mir : Tr → Tr
  | .nd n ks => .nd n (mirs ks).reverse
def mirs : List Tr → List Tr
  | [] => []
  | t :: r => mir t :: mirs r
end
theorem mirs_map : ∀ ts : List Tr, mirs ts = ts.map mir
  | [] => rfl
  | t :: r => by rw [mirs, mirs_map r]; rfl
theorem mir_node (n : List Nat) (ks : List Tr) : mir (.nd n ks) = .nd n (ks.reverse.map mir) := by rw [mir, mirs_map, List.map_reverse]
theorem szs_app : ∀ (xs ys : List Tr), szs (xs ++ ys) = szs xs + szs ys
  | [], ys => by
    show szs ys = szs [] + szs ys
    rw [szs]
    omega
  | x :: xs, ys => by
    show szs (x :: (xs ++ ys)) = szs (x :: xs) + szs ys
    rw [szs, szs, szs_app xs ys]
    omega
theorem szs_rev : ∀ xs : List Tr, szs xs.reverse = szs xs
  | [] => rfl
  | x :: xs => by
    rw [List.reverse_cons, szs_app, szs_rev xs, szs, szs, szs]
    omega
theorem wfs_app : ∀ (xs ys : List Tr), wfs (xs ++ ys) = (wfs xs && wfs ys)
  | [], ys => by
    show wfs ys = (wfs [] && wfs ys)
    rw [wfs]
    rfl
  | x :: xs, ys => by
    show wfs (x :: (xs ++ ys)) = (wfs (x :: xs) && wfs ys)
    rw [wfs, wfs, wfs_app xs ys, Bool.and_assoc]
theorem wfs_rev : ∀ xs : List Tr, wfs xs.reverse = wfs xs
  | [] => rfl
  | x :: xs => by
    rw [List.reverse_cons, wfs_app, wfs_rev xs, wfs, wfs, wfs, Bool.and_true, Bool.and_comm]
mutual
theorem mir_sz : ∀ t : Tr, sz (mir t) = sz t
  | .nd n ks => by rw [mir, sz, sz, szs_rev, mirs_sz ks]
theorem mirs_sz : ∀ ts : List Tr, szs (mirs ts) = szs ts
  | [] => rfl
  | t :: r => by rw [mirs, szs, szs, mir_sz t, mirs_sz r]
end
mutual
theorem mir_wf : ∀ t : Tr, wf (mir t) = wf t
  | .nd n ks => by
    have l : (mirs ks).reverse.length = ks.length := by rw [List.length_reverse, mirs_map, List.length_map]
    have e : (mirs ks).reverse.isEmpty = ks.isEmpty := by
      cases ks with
      | nil => rfl
      | cons a b =>
        rw [mirs]
        simp
    rw [mir, wf, wf, wfs_rev, mirs_wf ks, l, e]
theorem mirs_wf : ∀ ts : List Tr, wfs (mirs ts) = wfs ts
  | [] => rfl
  | t :: r => by rw [mirs, wfs, wfs, mir_wf t, mirs_wf r]
end
end TW

namespace TW
open PySem PySem.Spec PyProof.Rows L2
/-! ### slices of texts -/
theorem cut_nn (l : List Nat) (i j : Nat) : cutS (mk l) (some (i : Int)) (some (j : Int)) = mk ((l.drop i).take (j - i)) := by
  unfold cutS
  rw [HT.sIx_nat, HT.sIx_nat, mk_len]
  apply congrArg mk
  show (l.drop (min i l.length)).take (min j l.length - min i l.length) = (l.drop i).take (j - i)
  by_cases hi : i ≤ l.length
  · rw [Nat.min_eq_left hi]
    by_cases hj : j ≤ l.length
    · rw [Nat.min_eq_left hj]
    · rw [Nat.min_eq_right (by omega), List.take_of_length_le (by rw [List.length_drop]; omega), List.take_of_length_le (by rw [List.length_drop]; omega)]
  · rw [show min i l.length = l.length by omega, List.drop_length, List.take_nil, List.drop_of_length_le (by omega), List.take_nil]
theorem cut_to (l : List Nat) (j : Nat) : cutS (mk l) none (some (j : Int)) = mk (l.take j) := by
  unfold cutS
  rw [HT.sIx_nat, HT.sIx_none, mk_len]
  apply congrArg mk
  show (l.drop 0).take (min j l.length - 0) = l.take j
  rw [List.drop_zero, Nat.sub_zero]
  by_cases hj : j ≤ l.length
  · rw [Nat.min_eq_left hj]
  · rw [Nat.min_eq_right (by omega), List.take_length, List.take_of_length_le (by omega)]
theorem cut_from (l : List Nat) (i : Nat) : cutS (mk l) (some (i : Int)) none = mk (l.drop i) := by
  unfold cutS
  rw [HT.sIx_nat, HT.sIx_none, mk_len]
  apply congrArg mk
  show (l.drop (min i l.length)).take (l.length - min i l.length) = l.drop i
  by_cases hi : i ≤ l.length
  · rw [Nat.min_eq_left hi, List.take_of_length_le (by rw [List.length_drop]; omega)]
  · rw [Nat.min_eq_right (by omega), List.drop_length, List.take_nil, List.drop_of_length_le (by omega)]
theorem bigN_take {c : Nat} {l : List Nat} (hc : capC c = true) (hl : l.all alnC = true) (k : Nat) (hk : k ≤ 7) : bigN (c :: l.take k) = true := by
  have a : (l.take k).all alnC = true := List.all_eq_true.mpr fun x hx => List.all_eq_true.mp hl x (List.mem_of_mem_take hx)
  show (capC c && (l.take k).all alnC && Nat.ble ((l.take k).length + 1) 8) = true
  rw [hc, a, show Nat.ble ((l.take k).length + 1) 8 = true from Nat.ble_eq_true_of_le (by rw [List.length_take]; omega)]
  rfl
theorem bigN_cons {n : List Nat} (h : bigN n = true) : ∃ c l, n = c :: l ∧ capC c = true ∧ l.all alnC = true ∧ l.length ≤ 7 := by
  cases n with
  | nil => cases h
  | cons c l =>
    obtain ⟨h1, h2⟩ := Bool.and_eq_true_iff.mp h
    obtain ⟨h3, h4⟩ := Bool.and_eq_true_iff.mp h1
    exact ⟨c, l, rfl, h3, h4, by have := Nat.le_of_ble_eq_true h2; omega⟩
theorem bigN_second {n : List Nat} (h : bigN n = true) : bigN ((n ++ [48, 65]).take 8) = true := by
  obtain ⟨c, l, rfl, hc, hl, _⟩ := bigN_cons h
  show bigN (c :: (l ++ [48, 65]).take 7) = true
  refine bigN_take hc ?_ 7 (Nat.le_refl _)
  rw [List.all_append, hl]
  rfl
theorem bigN_third {n : List Nat} (h : bigN n = true) : bigN (n.take 1) = true := by
  obtain ⟨c, l, rfl, hc, hl, _⟩ := bigN_cons h
  exact bigN_take hc hl 0 (Nat.zero_le _)
/-! ### names[draw(pool, len(names))] -/
def tLen (K : PySem.W.Frag) (t : TE) : TE := tCB (fun xs H Q => ∃ x n, xs = [x] ∧ LenV K x H n ∧ Q (.int n) H) (tCons t tNil)
theorem rd_name {K : PySem.W.Frag} {σ : L2.St} {H : Hp} {Q : VK} {i j : Nat} {p r nl : Addr} {ws : List (List Nat)} (hi : σ[i]? = some (some (.ref nl))) (hj : σ[j]? = some (some (.ref p))) (hP : PoolAt H p r) (hN : H nl = some (.lst (strL ws)))
    (np : nl ≠ p) (nr : nl ≠ r) (w0 : 0 < ws.length) (w1 : ws.length ≤ 8) (q : ∀ H' x, x ∈ ws → Drew p r H H' → H' nl = some (.lst (strL ws)) → Q (.str (mk x)) H') :
    tOp (rIxL K) (tVar i) (tCr sp_draw E0 (tCons (tVar j) (tCons (tLen K (tVar i)) tNil))) σ H Q := by
  refine ⟨.ref nl, hi, .ref p, hj, .ref nl, hi, .ref nl, ws.length, rfl, .inl ⟨_, SqL.of hN, (List.length_map _).symm⟩, p, r, (ws.length : Int), rfl, by omega, by omega, hP, fun H4 x x0 x1 D4 => ?_⟩
  have h4 : H4 nl = some (.lst (strL ws)) := D4.frm _ _ (fun z => z.elim np nr) hN
  obtain ⟨nv, en, mn⟩ := atI_get (xs := strL ws) x0 (by rw [List.length_map]; exact x1)
  obtain ⟨nm, hm, rfl⟩ := List.mem_map.mp mn
  exact ⟨nl, _, x, _, rfl, rfl, SqL.of h4, en, q H4 nm hm D4 h4⟩
/-- a tuple (name, tuple of trees) -/
theorem LT.make {H : Hp} {n : List Nat} {a b : Addr} {vs : List V} {ts : List Tr} (ha : H a = some (.tup [.str (mk n), .ref b])) (hb : H b = some (.tup vs)) (h : LTs H vs ts) : LT H (.ref a) (.nd n ts) := by
  rw [LT]
  exact ⟨a, b, vs, rfl, ha, hb, h⟩
def sp_chain : Sp := fun vs H Q _ => ∃ (p r nl : Addr) (ws : List (List Nat)) (v : V) (t : Tr), vs = [.ref p, .ref nl, v] ∧ PoolAt H p r ∧ H nl = some (.lst (strL ws)) ∧ nl ≠ p ∧ nl ≠ r ∧ (∀ x ∈ ws, bigN x = true) ∧ 0 < ws.length ∧ ws.length ≤ 8 ∧ LT H v t ∧ wf t = true ∧
  ∀ H' v' t', Drew p r H H' → LT H' v' t' → wf t' = true → sz t' ≤ sz t + 100 → Q v' H'
section
variable {P : Program} {w : World} {K : PySem.W.Frag} {mg : Str → Option Value} {base : Heap}
theorem GrowIn.fresh {H : Hp} {p r nl rm : Addr} {ws : List (List Nat)} {k : Int} (hP : PoolAt H p r) (hN : H nl = some (.lst (strL ws))) (np : nl ≠ p) (nr : nl ≠ r) (n : H rm = none) : GrowIn (upd H rm (.lst [.int k])) p r nl rm ws k :=
  ⟨hP.keep (Same.new n), Same.new n _ _ hN, upd_same, np, nr, fun e => hP.some p (.inl rfl) (e ▸ n), fun e => hP.some r (.inr rfl) (e ▸ n), fun e => by rw [e, hN] at n; cases n⟩
theorem Grew.drew {H H' : Hp} {p r nl rm : Addr} {ws : List (List Nat)} {k d k' : Int} {v : V} {t : Tr} (g : Grew (upd H rm (.lst [.int k])) H' p r nl rm ws k d v t k') (n : H rm = none) : Drew p r H H' :=
  ⟨fun b o nb e => g.frm b o (fun z => z.elim (fun y => nb (.inl y)) fun z => z.elim (fun y => nb (.inr y)) fun y => by rw [y, n] at e; cases e) (Same.new n _ _ e), g.inn.pool⟩
theorem Grew.small {H H' : Hp} {p r nl rm : Addr} {ws : List (List Nat)} {k d k' : Int} {v : V} {t : Tr} (g : Grew H H' p r nl rm ws k d v t k') (h0 : 0 ≤ d) (h1 : d ≤ 7) (h2 : 1 ≤ k) (h3 : k ≤ 40) : TW.sz t ≤ 61 := by
  have := g.sz
  have := g.lo
  omega
end
end TW

namespace TW
open PySem PySem.Spec PyProof.Rows L2
/-! ### comprehensions whose element leaves the heap as it is -/
def LcGoal (J : It) (g : TG) (tt : TT) (te : TE) (vs : List Nat) (σ : L2.St) (H1 : Hp) (D : Addr) (Qd : Hp → Prop) : Prop := ∃ W : Nat → Nat → Hp → Prop, (∃ m, W 0 m (upd H1 D (.lst []))) ∧ ∀ i m H, W i m H →
  (J.stop i H ∧ Qd H) ∨ (J.go i H ∧ ∃ Nx : Hp → Prop, (∀ H', Nx H' → ∃ m', m' < m ∧ W (i + 1) m' H') ∧ ∀ x H', J.yld i H x H' → g x (wipe σ vs) H' fun σ2 H2 => wipe σ2 vs = wipe σ vs ∧ tt σ2 H2 fun b H3 =>
    if b = true then te σ2 H3 fun y H4 => ∃ acc, H4 D = some (.lst acc) ∧ acc.length < sizeLine ∧ Nx (upd H4 D (.lst (acc ++ [y]))) else Nx H3)
theorem fs_get {α : Type} {fs : List α} {n i : Nat} (h : fs.length = n) (hi : i < n) : ∃ y, fs[i]? = some y := ⟨fs[i], List.getElem?_eq_getElem (by omega)⟩
theorem lc_pureL {K : PySem.W.Frag} {a : Addr} {xs fs : List V} {te : TE} {s : Nat} {σ : L2.St} {H1 : Hp} {D : Addr} {Qd : Hp → Prop} (hl : SqL K H1 a xs) (nD : H1 D = none) (len : fs.length = xs.length) (small : xs.length ≤ 1000)
    (h2 : ∀ x : V, wipe ((wipe σ [s]).set s (some x)) [s] = wipe σ [s]) (ht : ∀ (i : Nat) (x y : V) (H' : Hp) (Q : VK), xs[i]? = some x → fs[i]? = some y → Same H1 H' → Q y H' → te ((wipe σ [s]).set s (some x)) H' Q) (q : Qd (upd H1 D (.lst fs))) :
    LcGoal (Itl K a) (gName s) tYes te [s] σ H1 D Qd := by
  have sm : ∀ l : List V, Same H1 (upd H1 D (.lst l)) := fun l => Same.new nD
  refine lc_list (xs := xs) (fun i H3 => i ≤ xs.length ∧ H3 = upd H1 D (.lst (fs.take i))) ⟨Nat.zero_le _, rfl⟩ (fun i H3 _ h => ?_) (fun i x H3 hx h => ?_) (fun H3 h => ?_)
  · rw [h.2]
    exact (sm _).seq hl
  · obtain ⟨hi, e⟩ := h
    subst e
    have hlt : i < xs.length := (List.getElem?_eq_some_iff.mp hx).1
    obtain ⟨y, hy⟩ := fs_get len hlt
    refine ⟨h2 x, ?_⟩
    unfold tYes
    dsimp only
    rw [if_pos rfl]
    refine ht i x y _ _ hx hy (sm _) ⟨fs.take i, upd_same, ?_, hlt, ?_⟩
    · rw [List.length_take]
      exact small1000 (by omega)
    · rw [upd_upd, take_get hy]
  · rw [h.2, ← len, List.take_length]
    exact q
theorem lc_pureT {K : PySem.W.Frag} {a : Addr} {xs fs : List V} {te : TE} {s : Nat} {σ : L2.St} {H1 : Hp} {D : Addr} {Qd : Hp → Prop} (hl : H1 a = some (.tup xs)) (nD : H1 D = none) (len : fs.length = xs.length) (small : xs.length ≤ 1000)
    (h2 : ∀ x : V, wipe ((wipe σ [s]).set s (some x)) [s] = wipe σ [s]) (ht : ∀ (i : Nat) (x y : V) (H' : Hp) (Q : VK), xs[i]? = some x → fs[i]? = some y → Same H1 H' → Q y H' → te ((wipe σ [s]).set s (some x)) H' Q) (q : Qd (upd H1 D (.lst fs))) :
    LcGoal (Itt K a) (gName s) tYes te [s] σ H1 D Qd := by
  have sm : ∀ l : List V, Same H1 (upd H1 D (.lst l)) := fun l => Same.new nD
  refine lc_tup (xs := xs) (fun i H3 => i ≤ xs.length ∧ H3 = upd H1 D (.lst (fs.take i))) ⟨Nat.zero_le _, rfl⟩ (fun i H3 _ h => ?_) (fun i x H3 hx h => ?_) (fun H3 h => ?_)
  · rw [h.2]
    exact SqT.of (sm _ _ _ hl)
  · obtain ⟨hi, e⟩ := h
    subst e
    have hlt : i < xs.length := (List.getElem?_eq_some_iff.mp hx).1
    obtain ⟨y, hy⟩ := fs_get len hlt
    refine ⟨h2 x, ?_⟩
    unfold tYes
    dsimp only
    rw [if_pos rfl]
    refine ht i x y _ _ hx hy (sm _) ⟨fs.take i, upd_same, ?_, hlt, ?_⟩
    · rw [List.length_take]
      exact small1000 (by omega)
    · rw [upd_upd, take_get hy]
  · rw [h.2, ← len, List.take_length]
    exact q
/-! ### join -/
theorem join_mk : ∀ ls : List (List Nat), Str.join (mk [44, 32]) (ls.map mk) = mk (jn ls)
  | [] => rfl
  | [p] => rfl
  | p :: q :: r => by
    show mk p ++ mk [44, 32] ++ Str.join (mk [44, 32]) ((q :: r).map mk) = mk (p ++ (44 :: 32 :: jn (q :: r)))
    rw [join_mk (q :: r), mk_app, mk_app, List.append_assoc]
    rfl
theorem jn_sum : ∀ ls : List (List Nat), ((ls.map mk).map (·.length)).sum + (ls.map mk).length * 2 ≤ (jn ls).length + 2
  | [] => by simp [jn]
  | [p] => by
    simp [jn, mk_len]
  | p :: q :: r => by
    have := jn_sum (q :: r)
    simp only [List.map_cons, List.sum_cons, List.length_cons, mk_len, jn, List.length_append] at this ⊢
    omega
end TW

namespace TW
open PySem PySem.Spec PyProof.Rows L2
/-! ### what is due of a tree: (size, levels, term, name, [of the parts]); ok: where its lists may stand -/
mutual
def DU (ok : Addr → Prop) (H : Hp) : V → Tr → Prop
  | v, .nd n ks => ∃ a b vs, v = .ref a ∧ ok b ∧ H a = some (.tup [.int (sz (.nd n ks)), .int (lv (.nd n ks)), .str (mk (tm (.nd n ks))), .str (mk n), .ref b]) ∧ H b = some (.lst vs) ∧ DUs ok H vs ks
def DUs (ok : Addr → Prop) (H : Hp) : List V → List Tr → Prop
  | [], [] => True
  | v :: vs, t :: ts => DU ok H v t ∧ DUs ok H vs ts
  | _, _ => False
end
mutual
theorem DU.move {ok ok' : Addr → Prop} {H H' : Hp} (k : Kp H H') (i : ∀ b xs, ok b → H b = some (.lst xs) → ok' b ∧ H' b = some (.lst xs)) : ∀ (v : V) (t : Tr), DU ok H v t → DU ok' H' v t
  | v, .nd n ks, h => by
    rw [DU] at h ⊢
    obtain ⟨a, b, vs, e, o, h1, h2, h3⟩ := h
    obtain ⟨o', h2'⟩ := i b vs o h2
    exact ⟨a, b, vs, e, o', k _ _ h1 (fun _ z => nomatch z), h2', DUs.move k i vs ks h3⟩
theorem DUs.move {ok ok' : Addr → Prop} {H H' : Hp} (k : Kp H H') (i : ∀ b xs, ok b → H b = some (.lst xs) → ok' b ∧ H' b = some (.lst xs)) : ∀ (vs : List V) (ts : List Tr), DUs ok H vs ts → DUs ok' H' vs ts
  | [], [], h => by rw [DUs]; trivial
  | v :: vs, t :: ts, h => by
    rw [DUs] at h ⊢
    exact ⟨DU.move k i v t h.1, DUs.move k i vs ts h.2⟩
  | [], _ :: _, h => by simp [DUs] at h
  | _ :: _, [], h => by simp [DUs] at h
end
theorem DU.same {ok : Addr → Prop} {H H' : Hp} (s : Same H H') {v : V} {t : Tr} (h : DU ok H v t) : DU ok H' v t := DU.move (Same.kp s) (fun b xs o e => ⟨o, s _ _ e⟩) v t h
theorem DUs.same {ok : Addr → Prop} {H H' : Hp} (s : Same H H') {v : List V} {t : List Tr} (h : DUs ok H v t) : DUs ok H' v t := DUs.move (Same.kp s) (fun b xs o e => ⟨o, s _ _ e⟩) v t h
theorem DUs.snoc {ok : Addr → Prop} {H : Hp} {v : V} {t : Tr} (h : DU ok H v t) : ∀ {vs : List V} {ts : List Tr}, DUs ok H vs ts → DUs ok H (vs ++ [v]) (ts ++ [t])
  | [], [], _ => by
    show DUs ok H [v] [t]
    rw [DUs, DUs]
    exact ⟨h, trivial⟩
  | x :: vs, y :: ts, g => by
    rw [DUs] at g
    show DUs ok H (x :: (vs ++ [v])) (y :: (ts ++ [t]))
    rw [DUs]
    exact ⟨g.1, DUs.snoc h g.2⟩
  | [], _ :: _, g => by simp [DUs] at g
  | _ :: _, [], g => by simp [DUs] at g
theorem DUs.length {ok : Addr → Prop} {H : Hp} : ∀ {vs : List V} {ts : List Tr}, DUs ok H vs ts → vs.length = ts.length
  | [], [], _ => rfl
  | x :: vs, y :: ts, g => by
    rw [DUs] at g
    exact congrArg Nat.succ (DUs.length g.2)
  | [], _ :: _, g => by simp [DUs] at g
  | _ :: _, [], g => by simp [DUs] at g
theorem DUs.get {ok : Addr → Prop} {H : Hp} : ∀ {vs : List V} {ts : List Tr} {i : Nat} {v : V}, DUs ok H vs ts → vs[i]? = some v → ∃ t, ts[i]? = some t ∧ DU ok H v t
  | [], [], i, v, _, e => by simp at e
  | x :: vs, y :: ts, 0, v, g, e => by
    rw [DUs] at g
    have : x = v := Option.some.inj e
    subst this
    exact ⟨y, rfl, g.1⟩
  | x :: vs, y :: ts, i + 1, v, g, e => by
    rw [DUs] at g
    exact DUs.get (i := i) g.2 e
  | [], _ :: _, _, _, g, _ => by simp [DUs] at g
  | _ :: _, [], _, _, g, _ => by simp [DUs] at g
/-- the tuple of a due tree -/
abbrev duT (t : Tr) (b : Addr) : List V := match t with
  | .nd n ks => [.int (sz (.nd n ks)), .int (lv (.nd n ks)), .str (mk (tm (.nd n ks))), .str (mk n), .ref b]
theorem DU.at {ok : Addr → Prop} {H : Hp} {v : V} {t : Tr} (h : DU ok H v t) : ∃ a b, v = .ref a ∧ H a = some (.tup (duT t b)) := by
  obtain ⟨n, ks⟩ := t
  rw [DU] at h
  obtain ⟨a, b, vs, e, o, h1, _⟩ := h
  exact ⟨a, b, e, h1⟩
theorem szs_ints : ∀ ks : List Tr, (ks.map fun t => (sz t : Int)).sum = (szs ks : Int)
  | [] => rfl
  | t :: r => by
    rw [List.map_cons, List.sum_cons, szs_ints r, szs]
    omega
theorem lvs_snoc (t : Tr) : ∀ ts : List Tr, lvs (ts ++ [t]) = max (lvs ts) (lv t)
  | [] => by
    show lvs [t] = max (lvs []) (lv t)
    simp only [lvs]
    omega
  | x :: ts => by
    show lvs (x :: (ts ++ [t])) = max (lvs (x :: ts)) (lv t)
    simp only [lvs]
    rw [lvs_snoc t ts]
    omega
def sp_told (n : Nat) : Sp := fun vs H Q _ => ∃ v t, vs = [v] ∧ LT H v t ∧ wf t = true ∧ sz t < n ∧ sz t ≤ 1000 ∧ ∀ H' v', Same H H' → DU (fun b => H b = none) H' v' t → Q v' H'
section
variable {P : Program} {w : World} {K : PySem.W.Frag} {mg : Str → Option Value} {base : Heap}
theorem ok_told (T : Tx K mg) : ∀ n : Nat, FnR P w K mg base CX0 (n + 1) (He.ga K "_law_told") (sp_told n) := by
  intro n
  induction n with
  | zero =>
    intro A outer s H us vs Q E hr e0 r h
    obtain ⟨v, t, rfl, _, _, h0, _⟩ := h
    omega
  | succ n ih =>
  have G_law_told := ih
  refine fnR0 T.d_law_told sc_law_told (fun _ _ _ _ _ _ us hl => match us, hl with | [_], _ => rfl) (fun vs H Q E h => ?_) (fun cdv A outer s H vs Q E hr h => ?_)
  · obtain ⟨v, t, rfl, _⟩ := h
    rfl
  · obtain ⟨v, ⟨nm, ks⟩, rfl, hL, hw, hz, hm, q⟩ := h
    have tl := tm_len _ hw
    obtain ⟨kw, k3, _⟩ := wf_kids hw
    have jl := tms_len ks kw
    rw [sz] at hz hm tl
    refine ⟨_, (pss_cons (ps_setLc (i := 1) (own := [("_law_one", 3)]) (g := gName 3) rfl sc_law_told.nd rfl rfl (sw_true rfl rfl rfl (by decide +kernel)) (pi_tup (pe_ix (r := rIxT K) ix_tup (pv 0) pe_int (fun _ _ => rfl))) (blkOk_by (own := [("_law_one", 3)]) (N := N_law_told) (sc := defScope s_law_told) (by decide +kernel)) (fun _ _ _ _ _ => pg_name (i := 3) sc_law_told.nd rfl (.inl rfl)) (fun _ _ _ _ _ => pts_nil) (fun _ _ _ _ _ => (pe_cr G_law_told (hr.mono (by omega)) (by rfl) T.v_law_told T.k_law_told pass0 (pa_cons (pv 3) pa_nil))))
(pss_cons (ps_set (i := 2) sc_law_told.nd rfl (.inl rfl) pe_int)
(pss_cons (ps_for PassesOwn.never rfl (pi_list (pv 1)) (pg_name (i := 3) sc_law_told.nd rfl (.inl rfl))
(pss_one (ps_if (pt_cmpR op_gt (pe_ix (r := rIxT K) ix_tup (pv 3) pe_int (fun _ _ => rfl)) (pv 2) (nomark _))
(pss_one (ps_set (i := 2) sc_law_told.nd rfl (.inl rfl) (pe_ix (r := rIxT K) ix_tup (pv 3) pe_int (fun _ _ => rfl))))
pss_nil)))
(pss_cons (ps_set (i := 4) sc_law_told.nd rfl (.inl rfl) (pe_ix (r := rIxT K) ix_tup (pv 0) pe_int (fun _ _ => rfl)))
(pss_mid (ps_if (pt_cmpR op_gt (pe_callB call_len (by rfl) T.z_len (by decide +kernel) (pa_cons (pv 1) pa_nil)) pe_int (nomark _))
(pss_one (ps_set (i := 4) sc_law_told.nd rfl (.inl rfl) (pe_op op_add_str (pe_op op_add_str (pe_op op_add_str (pv 4) pe_str) (pe_join pe_str (pe_lc (own := [("_law_one", 3)]) (g := gName 3) rfl sc_law_told.nd (pi_list (pv 1)) (blkOk_by (own := [("_law_one", 3)]) (N := N_law_told) (sc := defScope s_law_told) (by decide +kernel)) (fun _ _ _ _ _ => pg_name (i := 3) sc_law_told.nd rfl (.inl rfl)) (fun _ _ _ _ _ => pts_nil) (fun _ _ _ _ _ => (pe_ix (r := rIxT K) ix_tup (pv 3) pe_int (fun _ _ => rfl)))))) pe_str)))
pss_nil)
(pss_cons (ps_set (i := 5) sc_law_told.nd rfl (.inl rfl) (pe_op op_add pe_int (pe_callB (cr_sum rfl) (by rfl) T.z_sum (by decide +kernel) (pa_cons (pe_lc (own := [("_law_one", 3)]) (g := gName 3) rfl sc_law_told.nd (pi_list (pv 1)) (blkOk_by (own := [("_law_one", 3)]) (N := N_law_told) (sc := defScope s_law_told) (by decide +kernel)) (fun _ _ _ _ _ => pg_name (i := 3) sc_law_told.nd rfl (.inl rfl)) (fun _ _ _ _ _ => pts_nil) (fun _ _ _ _ _ => (pe_ix (r := rIxT K) ix_tup (pv 3) pe_int (fun _ _ => rfl)))) pa_nil))))
(pss_one (ps_ret (pe_tup (pa_cons (pv 5) (pa_cons (pe_op op_add pe_int (pv 2)) (pa_cons (pv 4) (pa_cons (pe_ix (r := rIxT K) ix_tup (pv 0) pe_int (fun _ _ => rfl)) (pa_cons (pv 1) pa_nil)))))))))))))), ?_⟩
    rw [LT] at hL
    obtain ⟨a, b, vs, rfl, ha, hb, hk⟩ := hL
    -- parts
    refine ⟨.ref a, rfl, a, _, 1, _, rfl, rfl, SqT.of ha, rfl, b, rfl, ⟨_, SqT.of hb⟩, fun D nD => ?_⟩
    refine lc_tup (xs := vs) (fun i H3 => ∃ ys, H3 D = some (.lst ys) ∧ Same H H3 ∧ DUs (fun b => H b = none ∧ b ≠ D) H3 ys (ks.take i)) ?_ ?_ ?_ ?_
    · exact ⟨[], upd_same, Same.new nD, by rw [List.take_zero, DUs]; trivial⟩
    · rintro i H3 _ ⟨ys, _, s3, _⟩
      exact SqT.of (s3 _ _ hb)
    · rintro i x H3 hx ⟨ys, eD, s3, hy⟩
      obtain ⟨t, et, lt⟩ := hk.get hx
      have mt : t ∈ ks := List.mem_of_getElem? et
      have zt := szs_mem mt
      refine ⟨rfl, x, rfl, x, t, rfl, LT.kp (Same.kp s3) _ _ lt, wfs_mem kw mt, by omega, by omega, fun H4 v' s4 l4 => ?_⟩
      have eD4 := s4 _ _ eD
      have il : ys.length ≤ 1000 := by
        rw [hy.length, List.length_take]
        omega
      have l4' : DU (fun b => H b = none ∧ b ≠ D) H4 v' t := DU.move Kp.refl (fun b xs o e => ⟨⟨s3.free o, fun z => by rw [z, eD] at o; cases o⟩, e⟩) _ _ l4
      have mv : ∀ b xs, (fun b => H b = none ∧ b ≠ D) b → H4 b = some (.lst xs) → (fun b => H b = none ∧ b ≠ D) b ∧ upd H4 D (.lst (ys ++ [v'])) b = some (.lst xs) := fun b xs o e => ⟨o, by rw [upd_ne o.2]; exact e⟩
      have kk : Kp H4 (upd H4 D (.lst (ys ++ [v']))) := fun b' o e nl => by
        have : b' ≠ D := fun z => by
          rw [z, eD4] at e
          cases e
          exact nl _ rfl
        rw [upd_ne this]
        exact e
      refine ⟨ys, eD4, small1000 il, ys ++ [v'], upd_same, fun b' o e => ?_, ?_⟩
      · rw [upd_ne (ne_of_none e nD)]
        exact s4 _ _ (s3 _ _ e)
      · rw [take_get et]
        exact DUs.snoc (DU.move kk mv _ _ l4') (DUs.move kk mv _ _ (DUs.same s4 hy))
    · rintro H3 ⟨ys, eD, s3, hy⟩
      rw [hk.length, List.take_length] at hy
      have yl : ys.length = ks.length := hy.length
      -- below
      refine ⟨.ref D, rfl, D, rfl, ⟨_, SqL.of eD⟩, for_list (xs := ys) (fun i σ H4 => ∃ y3, σ = [some (.ref a), some (.ref D), some (.int (lvs (ks.take i))), y3, none, none] ∧ H4 = H3) ?_ ?_ ?_ ?_⟩
      · exact ⟨none, by rw [List.take_zero]; rfl, rfl⟩
      · rintro i σ H4 _ ⟨_, _, rfl⟩
        exact SqL.of eD
      · rintro i x σ H4 hx ⟨y3, rfl, rfl⟩
        obtain ⟨t, et, du⟩ := hy.get hx
        obtain ⟨c, d, rfl, hc⟩ := du.at
        obtain ⟨tn, tk⟩ := t
        have e1 : lvs (ks.take (i + 1)) = max (lvs (ks.take i)) (lv (.nd tn tk)) := by rw [take_get et, lvs_snoc]
        refine ⟨.ref c, rfl, c, _, 1, _, rfl, rfl, SqT.of hc, rfl, _, rfl, _, _, rfl, rfl, _, rfl, ite2 (fun e => ?_) (fun e => ?_)⟩
        · have e := of_decide_eq_true e
          refine ⟨.ref c, rfl, c, _, 1, _, rfl, rfl, SqT.of hc, rfl, some (.ref c), ?_, rfl⟩
          rw [e1, show max (lvs (ks.take i)) (lv (.nd tn tk)) = lv (.nd tn tk) by omega]
          rfl
        · have e : ¬ ((lvs (ks.take i) : Int) < lv (.nd tn tk)) := fun z => e (decide_eq_true z)
          refine ⟨some (.ref c), ?_, rfl⟩
          rw [e1, show max (lvs (ks.take i)) (lv (.nd tn tk)) = lvs (ks.take i) by omega]
          rfl
      · rintro σ H4 ⟨y3, rfl, rfl⟩
        rw [yl, List.take_length]
        have ha3 := s3 _ _ ha
        -- term
        refine ⟨.ref a, rfl, a, _, 0, _, rfl, rfl, SqT.of ha3, rfl, ?_⟩
        refine ⟨fun σ' H5 => σ' = [some (.ref a), some (.ref D), some (.int (lvs ks)), y3, some (.str (mk (tm (.nd nm ks)))), none] ∧ Same H4 H5, ?_, ?_⟩
        · refine ⟨.ref D, rfl, .ref D, ys.length, rfl, .inl ⟨_, SqL.of eD, rfl⟩, _, _, rfl, rfl, _, rfl, ite2 (fun e => ?_) (fun e => ?_)⟩
          · have e := of_decide_eq_true e
            have nlen : nm.length ≤ 12000 := by
              cases ks with
              | nil =>
                rw [tm_leaf] at tl
                omega
              | cons k r =>
                rw [tm_node, List.length_append] at tl
                omega
            refine ⟨_, rfl, mk nm, mk [40], rfl, rfl, ?_, ?_⟩
            · rw [mk_len, mk_len]
              exact Nat.le_trans (show nm.length + 1 ≤ 13000 by omega) (by decide)
            refine ⟨⟨_, rfl⟩, .ref D, rfl, D, rfl, ⟨_, SqL.of eD⟩, fun F nF => ?_⟩
            refine lc_pureL (fs := ((tms ks).map mk).map V.str) (SqL.of eD) nF ?_ (by omega) (fun _ => rfl) ?_ ?_
            · rw [List.length_map, List.length_map, tms_map, List.length_map, yl]
            · intro i x y H' Q' hx hy' s' hq
              obtain ⟨t, et, du⟩ := hy.get hx
              obtain ⟨c, d, rfl, hc⟩ := du.at
              obtain ⟨tn, tk⟩ := t
              rw [tms_map, List.getElem?_map, List.getElem?_map, List.getElem?_map, et] at hy'
              have := Option.some.inj hy'
              subst this
              exact ⟨.ref c, rfl, c, _, 2, _, rfl, rfl, SqT.of (s' _ _ hc), rfl, hq⟩
            refine ⟨mk [44, 32], F, (tms ks).map mk, rfl, rfl, .inl (SqL.of upd_same), ?_, ?_⟩
            · have := jn_sum (tms ks)
              rw [mk_len]
              show _ + _ * 2 ≤ _
              omega
            rw [show Txt.join (mk [44, 32]) ((tms ks).map mk) = mk (jn (tms ks)) from (TL.join_eq _ _).trans (join_mk _)]
            refine ⟨mk (nm ++ [40]), mk (jn (tms ks)), by rw [mk_app], rfl, ?_, ?_⟩
            · rw [mk_len, mk_len, List.length_append]
              exact Nat.le_trans (show nm.length + 1 + (jn (tms ks)).length ≤ 100000 by omega) (by decide)
            refine ⟨mk (nm ++ [40] ++ jn (tms ks)), mk [41], by rw [mk_app], rfl, ?_, ?_, Same.new nF⟩
            · rw [mk_len, mk_len, List.length_append, List.length_append]
              exact Nat.le_trans (show nm.length + 1 + (jn (tms ks)).length + 1 ≤ 100000 by omega) (by decide)
            · rw [mk_app]
              cases ks with
              | nil =>
                rw [yl] at e
                exact absurd e (by decide)
              | cons k r =>
                rw [tm_node, List.append_assoc, List.append_assoc]
                rfl
          · have e : ¬ ((0 : Int) < ys.length) := fun z => e (decide_eq_true z)
            cases ks with
            | nil =>
              rw [tm_leaf]
              exact ⟨rfl, Same.refl _⟩
            | cons k r =>
              rw [yl, List.length_cons] at e
              omega
        rintro σ' H5 ⟨rfl, s5⟩
        have eD5 := s5 _ _ eD
        have hy5 := DUs.same s5 hy
        refine ⟨.ref D, rfl, D, rfl, ⟨_, SqL.of eD5⟩, fun F nF => ?_⟩
        refine lc_pureL (fs := (ks.map fun t => (sz t : Int)).map V.int) (SqL.of eD5) nF ?_ (by omega) (fun _ => rfl) ?_ ?_
        · rw [List.length_map, List.length_map, yl]
        · intro i x y H' Q' hx hy' s' hq
          obtain ⟨t, et, du⟩ := hy5.get hx
          obtain ⟨c, d, rfl, hc⟩ := du.at
          obtain ⟨tn, tk⟩ := t
          rw [List.getElem?_map, List.getElem?_map, et] at hy'
          have := Option.some.inj hy'
          subst this
          exact ⟨.ref c, rfl, c, _, 0, _, rfl, rfl, SqT.of (s' _ _ hc), rfl, hq⟩
        refine ⟨F, ks.map fun t => (sz t : Int), rfl, SqL.of upd_same, 1, _, rfl, rfl, ?_⟩
        rw [szs_ints]
        have s6 : Same H5 (upd H5 F (.lst ((ks.map fun t => (sz t : Int)).map V.int))) := Same.new nF
        have ha6 := s6 _ _ (s5 _ _ ha3)
        refine ⟨_, rfl, _, rfl, 1, _, rfl, rfl, _, rfl, .ref a, rfl, a, _, 0, _, rfl, rfl, SqT.of ha6, rfl, .ref D, rfl, szle, fun G nG => ?_⟩
        have s7 := s6.trans (Same.new (o := .tup [.int (1 + (szs ks : Int)), .int (1 + (lvs ks : Int)), .str (mk (tm (.nd nm ks))), .str (mk nm), .ref D]) nG)
        refine q _ _ (s3.trans (s5.trans s7)) ?_
        rw [DU]
        refine ⟨G, D, ys, rfl, nD, ?_, s7 _ _ eD5, DUs.move (Same.kp s7) (fun b xs o e => ⟨o.1, s7 _ _ e⟩) _ _ hy5⟩
        rw [upd_same, sz, lv]
        rfl
end
end TW

namespace TW
open PySem PySem.Spec PyProof.Rows L2
/-! ### the order of pairs (number, text) -/
abbrev NT := Int × Str
abbrev ntD (p : NT) : PyData := .tuple [.int p.1, .str p.2]
def rLtN (K : PySem.W.Frag) : R2 := fun x y H Q => ∃ p q : NT, Dp K H x (ntD p) ∧ Dp K H y (ntD q) ∧ Q (.bl (PySem.W.DatumOrd.lt p q)) H
def rLeN (K : PySem.W.Frag) : R2 := fun x y H Q => ∃ p q : NT, Dp K H x (ntD p) ∧ Dp K H y (ntD q) ∧ Q (.bl (!PySem.W.DatumOrd.lt q p)) H
def rEqN (K : PySem.W.Frag) : R2 := fun x y H Q => ∃ p q : NT, Dp K H x (ntD p) ∧ Dp K H y (ntD q) ∧ Q (.bl (decide (p = q))) H
section
variable {X : Cx}
theorem op_ltN (hu : X.A.units + 64 < cLine) : OpR X (compareOp .Lt) (rLtN X.K) := by
  intro pins s σ H x y v u Q I rx ry h
  obtain ⟨p, q, hp, hq, z⟩ := h
  have a : PySem.W.Holds s.heap v p := Dp.reads I _ x v hp rx
  have b : PySem.W.Holds s.heap u q := Dp.reads I _ y u hq ry
  exact PySem.W.lt_datum a b (Nat.lt_of_le_of_lt (Nat.add_le_add_left (show 1 ≤ 64 by decide) _) hu) ⟨.bl _, H, I, rfl, z⟩
theorem op_leN (hu : X.A.units + 64 < cLine) : OpR X (compareOp .LtE) (rLeN X.K) := by
  intro pins s σ H x y v u Q I rx ry h
  obtain ⟨p, q, hp, hq, z⟩ := h
  have a : PySem.W.Holds s.heap v p := Dp.reads I _ x v hp rx
  have b : PySem.W.Holds s.heap u q := Dp.reads I _ y u hq ry
  exact PySem.W.le_datum a b (Nat.lt_of_le_of_lt (Nat.add_le_add_left (show 1 ≤ 64 by decide) _) hu) ⟨.bl _, H, I, rfl, z⟩
theorem op_eqN (hu : X.A.units + 64 < cLine) : OpR X (compareOp .Eq) (rEqN X.K) := by
  intro pins s σ H x y v u Q I rx ry h
  obtain ⟨p, q, hp, hq, z⟩ := h
  have a : PySem.W.Holds s.heap v p := Dp.reads I _ x v hp rx
  have b : PySem.W.Holds s.heap u q := Dp.reads I _ y u hq ry
  exact PySem.W.eq_datum a b (Nat.lt_of_le_of_lt (Nat.add_le_add_left (show 1 ≤ 64 by decide) _) hu) ⟨.bl _, H, I, rfl, z⟩
end
/-! ### max(numbers, default=d) -/
def maxD : Int → List Int → Int
  | d, [] => d
  | _, x :: xs => PySem.W.maxOf x xs
def rMaxK (K : PySem.W.Frag) : List V → List V → Hp → VK → Prop := fun vs zs H Q => ∃ (a : Addr) (ns : List Int) (d : Int), vs = [.ref a] ∧ zs = [.int d] ∧ SqL K H a (ns.map V.int) ∧ Q (.int (maxD d ns)) H
theorem holdInts {h : Heap} : ∀ {ns : List Int} {us : List Value}, Vals (ns.map V.int) us → PySem.W.HoldAll h us ns := by
  intro ns us r
  exact PySem.W.HoldAll.of_ints (intsAre_of r)
theorem cr_maxK {X : Cx} {k : Nat} (hc : X.calm = true) (hr : Room k X.A) : CallRK X (.builtin "max") [Str.ofString "default"] (rMaxK X.K) := by
  intro pins s σ H xs zs us ws Q I r rz h
  obtain ⟨a, ns, d, rfl, rfl, hs, q⟩ := h
  obtain ⟨u, rfl, ru⟩ := vals1 r
  obtain ⟨z, rfl, rz'⟩ := vals1 rz
  cases ru
  obtain ⟨tk, rfl⟩ := rz'
  obtain ⟨its, rv, hl, _⟩ := I.list hs
  have hu : X.A.units + 1 + PySem.W.Datum.depth Int < cLine := by
    have := hr.units
    show X.A.units + 1 + 0 < cLine
    omega
  refine PySem.W.max_list_datum_default (xs := ns) (I.ok.hd hc) hl.isList (by rw [show its.toArray.toList = its by simp]; exact holdInts rv) hu (fun e h' tk' kp => ?_) (fun y ys i v h' tk' e hi hv kp => ?_)
  · subst e
    exact ⟨.int d, H, I.kept (t' := tk') kp, ⟨_, rfl⟩, q⟩
  · subst e
    obtain ⟨as, rd⟩ := hv
    have rd : Reads h' v (.int (PySem.W.maxOf y ys)) as := rd
    cases rd
    exact ⟨.int _, H, I.kept (t' := tk') kp, ⟨_, rfl⟩, q⟩
end TW

namespace TW
open PySem PySem.Spec PyProof.Rows L2
theorem pe_fldK {X : Cx} (K : PySem.W.Frag) {e : Expr} {ta : TE} {f : Str} {pos : Pos} (he : PE X e ta) (hb : attributeBase e f X.env (eval e X.env) = eval e X.env) (hK : X.K = K := by rfl) : PE X (.Attribute e f pos) (tFld K ta f) := by
  subst hK
  exact pe_fld he hb
/-! ### the class Tree -/
abbrev CT (K : PySem.W.Frag) : Addr := He.ga K "Tree"
abbrev mT (K : PySem.W.Frag) (m : Str) : Addr := He.ma K (He.ga K "Tree") m
structure Tc (K : PySem.W.Frag) (mg : Str → Option Value) : Prop where
  v_Tree : mg "Tree" = some (.ref (CT K))
  cl : Cls K (CT K)
  a_name : NoAttr K (CT K) "name"
  a_parts : NoAttr K (CT K) "parts"
  a_size : NoAttr K (CT K) "size"
  a_levels : NoAttr K (CT K) "levels"
  a_term : NoAttr K (CT K) "term"
  mk_ : Mk K (CT K) (mT K "__init__")
  d_init : DefAt K "__init__" "Tree.__init__" s_Tree_init (mT K "__init__")
abbrev tfs (t : Tr) (p : Addr) : List (Str × V) := match t with
  | .nd n ks => [("name", .str (mk n)), ("parts", .ref p), ("size", .int (sz (.nd n ks))), ("levels", .int (lv (.nd n ks))), ("term", .str (mk (tm (.nd n ks))))]
mutual
/-- v is an instance of the class at C that is the tree t -/
def TO (C : Addr) (H : Hp) : V → Tr → Prop
  | v, .nd n ks => ∃ a dx p vs, v = .ref a ∧ H a = some (.ins C dx (tfs (.nd n ks) p)) ∧ H p = some (.tup vs) ∧ TOs C H vs ks
def TOs (C : Addr) (H : Hp) : List V → List Tr → Prop
  | [], [] => True
  | v :: vs, t :: ts => TO C H v t ∧ TOs C H vs ts
  | _, _ => False
end
mutual
theorem TO.kp {C : Addr} {H H' : Hp} (k : Kp H H') : ∀ (v : V) (t : Tr), TO C H v t → TO C H' v t
  | v, .nd n ks, h => by
    rw [TO] at h ⊢
    obtain ⟨a, dx, p, vs, e, h1, h2, h3⟩ := h
    exact ⟨a, dx, p, vs, e, k _ _ h1 (fun _ z => nomatch z), k _ _ h2 (fun _ z => nomatch z), TOs.kp k vs ks h3⟩
theorem TOs.kp {C : Addr} {H H' : Hp} (k : Kp H H') : ∀ (vs : List V) (ts : List Tr), TOs C H vs ts → TOs C H' vs ts
  | [], [], h => by rw [TOs]; trivial
  | v :: vs, t :: ts, h => by
    rw [TOs] at h ⊢
    exact ⟨TO.kp k v t h.1, TOs.kp k vs ts h.2⟩
  | [], _ :: _, h => by simp [TOs] at h
  | _ :: _, [], h => by simp [TOs] at h
end
theorem TOs.length {C : Addr} {H : Hp} : ∀ {vs : List V} {ts : List Tr}, TOs C H vs ts → vs.length = ts.length
  | [], [], _ => rfl
  | x :: vs, y :: ts, g => by
    rw [TOs] at g
    exact congrArg Nat.succ (TOs.length g.2)
  | [], _ :: _, g => by simp [TOs] at g
  | _ :: _, [], g => by simp [TOs] at g
theorem TOs.get {C : Addr} {H : Hp} : ∀ {vs : List V} {ts : List Tr} {i : Nat} {v : V}, TOs C H vs ts → vs[i]? = some v → ∃ t, ts[i]? = some t ∧ TO C H v t
  | [], [], i, v, _, e => by simp at e
  | x :: vs, y :: ts, 0, v, g, e => by
    rw [TOs] at g
    have : x = v := Option.some.inj e
    subst this
    exact ⟨y, rfl, g.1⟩
  | x :: vs, y :: ts, i + 1, v, g, e => by
    rw [TOs] at g
    exact TOs.get (i := i) g.2 e
  | [], _ :: _, _, _, g, _ => by simp [TOs] at g
  | _ :: _, [], _, _, g, _ => by simp [TOs] at g
theorem TOs.snoc {C : Addr} {H : Hp} {v : V} {t : Tr} (h : TO C H v t) : ∀ {vs : List V} {ts : List Tr}, TOs C H vs ts → TOs C H (vs ++ [v]) (ts ++ [t])
  | [], [], _ => by
    show TOs C H [v] [t]
    rw [TOs, TOs]
    exact ⟨h, trivial⟩
  | x :: vs, y :: ts, g => by
    rw [TOs] at g
    show TOs C H (x :: (vs ++ [v])) (y :: (ts ++ [t]))
    rw [TOs]
    exact ⟨g.1, TOs.snoc h g.2⟩
  | [], _ :: _, g => by simp [TOs] at g
  | _ :: _, [], g => by simp [TOs] at g
theorem TO.at {C : Addr} {H : Hp} {v : V} {t : Tr} (h : TO C H v t) : ∃ a dx p, v = .ref a ∧ H a = some (.ins C dx (tfs t p)) := by
  obtain ⟨n, ks⟩ := t
  rw [TO] at h
  obtain ⟨a, dx, p, vs, e, h1, _⟩ := h
  exact ⟨a, dx, p, e, h1⟩
theorem maxOf_lvs : ∀ (t : Tr) (ks : List Tr), PySem.W.maxOf (lv t : Int) (ks.map fun t => (lv t : Int)) = (max (lv t) (lvs ks) : Nat) := by
  intro t ks
  have g : ∀ (ks : List Tr) (m : Nat), PySem.W.maxOf (m : Int) (ks.map fun t => (lv t : Int)) = ((max m (lvs ks) : Nat) : Int) := by
    intro ks
    induction ks with
    | nil =>
      intro m
      show (m : Int) = _
      simp only [lvs]
      omega
    | cons k r ih =>
      intro m
      show PySem.W.maxOf (if PySem.W.DatumOrd.lt (m : Int) (lv k : Int) = true then (lv k : Int) else (m : Int)) (r.map fun t => (lv t : Int)) = _
      have e : (if PySem.W.DatumOrd.lt (m : Int) (lv k : Int) = true then (lv k : Int) else (m : Int)) = ((max m (lv k) : Nat) : Int) := by
        show (if decide ((m : Int) < (lv k : Int)) = true then (lv k : Int) else (m : Int)) = _
        by_cases h : (m : Int) < (lv k : Int)
        · rw [decide_eq_true h, if_pos rfl]
          omega
        · rw [decide_eq_false h, if_neg Bool.false_ne_true]
          omega
      rw [e, ih, lvs]
      omega
  exact g ks (lv t)
theorem maxD_lvs (ks : List Tr) : maxD 0 (ks.map fun t => (lv t : Int)) = (lvs ks : Int) := by
  cases ks with
  | nil => rfl
  | cons k r =>
    show PySem.W.maxOf (lv k : Int) (r.map fun t => (lv t : Int)) = _
    rw [maxOf_lvs, lvs]
def sp_init (C : Addr) : Sp := fun vs H Q _ => ∃ (x dx p : Addr) (n : List Nat) (us : List V) (ks : List Tr), vs = [.ref x, .str (mk n), .ref p] ∧ H x = some (.ins C dx []) ∧ H p = some (.tup us) ∧ TOs C H us ks ∧ wf (.nd n ks) = true ∧ sz (.nd n ks) ≤ 1000 ∧
  ∀ H', (∀ b o, b ≠ x → H b = some o → H' b = some o) → H' x = some (.ins C dx (tfs (.nd n ks) p)) → Q .non H'
/-- the promise of the def itself, as it is called: behind the name any number of parts -/
def sp_star (C : Addr) : Sp := fun vs H Q E => ∃ ws rest, vs = ws ++ rest ∧ ws.length = ["self", "name"].length ∧ rest.length ≤ sizeLine ∧ ∀ p, H p = none → sp_init C (ws ++ [V.ref p]) (upd H p (.tup rest)) Q E
section
variable {P : Program} {w : World} {K : PySem.W.Frag} {mg : Str → Option Value} {base : Heap}
theorem ok_init (T : Tx K mg) (Z : Tc K mg) : FnR P w K mg base CX0 1 (mT K "__init__") (sp_star (CT K)) := by
  obtain ⟨fd, F⟩ := Z.d_init
  obtain ⟨oc, od, dV, kV, doc, pm, an, cdv, ct, osl, rfl, lk, hcd, hD, hK⟩ := F.ex
  rcases hD with ⟨_, rfl⟩ | ⟨e, _⟩
  case inr => exact absurd rfl e
  refine StX.fn_star (ps := ["self", "name"]) (pv := "parts") (N := N_Tree_init) (sp := sp_init (CT K)) lk hcd sc_Tree_init StX.cxUp_none ?_ ?_
  · refine StX.bind_star2 (B := fun vs => bindArgs (PySem.W.fnOf "__init__" "Tree.__init__" (defArgs s_Tree_init) (defBody s_Tree_init) (defScope s_Tree_init) Value.none kV doc pm an cdv ct) ⟨vs, []⟩) ?_ ?_
    · intro a b
      rfl
    · intro a b r rs
      rfl
  intro A outer s H vs Q E hr h
  obtain ⟨x, dx, p, n, us, ks, rfl, hx, hp, hk, hw, hz, q⟩ := h
  suffices g : ∃ t, PSs (cxOf CX0 P w K mg base N_Tree_init "Tree.__init__" (defScope s_Tree_init) (mT K "__init__") cdv A outer s H E).nox (defBody s_Tree_init) t ∧ t { nx := fun _ H' => Q .non H', rt := Q } (start N_Tree_init [.ref x, .str (mk n), .ref p]) H by
    obtain ⟨t, a, b⟩ := g
    exact ⟨t, a.nox, b⟩
  refine ⟨_, (pss_cons (ps_fld (pv 0) (pv 1) rfl)
(pss_cons (ps_fld (pv 0) (pv 2) rfl)
(pss_cons (ps_fld (pv 0) (pe_op op_add pe_int (pe_callB (cr_sum rfl) (by rfl) T.z_sum (by decide +kernel) (pa_cons (pe_lc (own := [("part", 3)]) (g := gName 3) rfl sc_Tree_init.nd (pi_tup (pv 2)) (blkOk_by (own := [("part", 3)]) (N := N_Tree_init) (sc := defScope s_Tree_init) (by decide +kernel)) (fun _ _ _ _ _ => pg_name (i := 3) sc_Tree_init.nd rfl (.inl rfl)) (fun _ _ _ _ _ => pts_nil) (fun _ _ _ _ _ => (pe_fldK K (pv 3) rfl))) pa_nil))) rfl)
(pss_cons (ps_fld (pv 0) (pe_op op_add pe_int (pe_callBK (cr_maxK rfl hr) (by rfl) T.z_max (by decide +kernel) (pa_cons (pe_lc (own := [("part", 3)]) (g := gName 3) rfl sc_Tree_init.nd (pi_tup (pv 2)) (blkOk_by (own := [("part", 3)]) (N := N_Tree_init) (sc := defScope s_Tree_init) (by decide +kernel)) (fun _ _ _ _ _ => pg_name (i := 3) sc_Tree_init.nd rfl (.inl rfl)) (fun _ _ _ _ _ => pts_nil) (fun _ _ _ _ _ => (pe_fldK K (pv 3) rfl))) pa_nil) (pk_cons pe_int pk_nil))) rfl)
(pss_cons (ps_fld (pv 0) (pv 1) rfl)
(pss_one (ps_if (pt_truth (pv 2) (by intro _; rfl))
(pss_one (ps_fld (pv 0) (pe_op op_add_str (pe_op op_add_str (pe_op op_add_str (pv 1) pe_str) (pe_join pe_str (pe_lc (own := [("part", 3)]) (g := gName 3) rfl sc_Tree_init.nd (pi_tup (pv 2)) (blkOk_by (own := [("part", 3)]) (N := N_Tree_init) (sc := defScope s_Tree_init) (by decide +kernel)) (fun _ _ _ _ _ => pg_name (i := 3) sc_Tree_init.nd rfl (.inl rfl)) (fun _ _ _ _ _ => pts_nil) (fun _ _ _ _ _ => (pe_fldK K (pv 3) rfl))))) pe_str) rfl))
pss_nil))))))), ?_⟩
  have nxp : x ≠ p := ne_of hx hp (by intro z; cases z)
  obtain ⟨kw, k3, _⟩ := wf_kids hw
  have tl := tm_len _ hw
  have jl := tms_len ks kw
  have yl := hk.length
  rw [sz] at tl hz
  have CL := Z.cl
  -- self.name, self.parts
  refine ⟨_, rfl, .ref x, rfl, x, _, dx, _, rfl, hx, CL, Z.a_name, Nat.le_of_ble_eq_true rfl, ?_⟩
  refine ⟨_, rfl, .ref x, rfl, x, _, dx, _, rfl, upd_same, CL, Z.a_parts, Nat.le_of_ble_eq_true rfl, ?_⟩
  rw [upd_upd]
  obtain ⟨f2, e2⟩ : ∃ f2 : List (Str × V), f2 = [(("name" : Str), V.str (mk n)), (("parts" : Str), V.ref p)] := ⟨_, rfl⟩
  have p2 : putF "parts" (.ref p) (putF "name" (.str (mk n)) []) = f2 := by rw [e2]; rfl
  rw [p2]
  have kx : ∀ fs, Kp H (upd H x (.ins (CT K) dx fs)) ∨ True := fun _ => .inr trivial
  have nx : ∀ (fs : List (Str × V)) b o, b ≠ x → H b = some o → upd H x (.ins (CT K) dx fs) b = some o := fun fs b o nb e => by rw [upd_ne nb]; exact e
  -- the parts are other objects than self
  have part : ∀ (H3 : Hp), (∀ b o, b ≠ x → H b = some o → H3 b = some o) → ∀ (i : Nat) v, us[i]? = some v → ∃ t a dy pp, ks[i]? = some t ∧ v = .ref a ∧ H3 a = some (.ins (CT K) dy (tfs t pp)) := by
    intro H3 k3' i v hv
    obtain ⟨t, et, ht⟩ := hk.get hv
    obtain ⟨a, dy, pp, rfl, ha⟩ := ht.at
    refine ⟨t, a, dy, pp, et, rfl, k3' _ _ (fun z => ?_) ha⟩
    rw [z, hx] at ha
    obtain ⟨tn, tk⟩ := t
    cases ha
  -- size
  have s2 := nx f2
  refine ⟨.ref p, rfl, p, rfl, ⟨_, SqT.of (s2 _ _ nxp.symm hp)⟩, fun D nD => ?_⟩
  refine lc_pureT (fs := (ks.map fun t => (sz t : Int)).map V.int) (s2 _ _ nxp.symm hp) nD (by rw [List.length_map, List.length_map, yl]) (by omega) (fun _ => rfl) ?_ ?_
  · intro i v y H' Q' hv hy s' hq
    obtain ⟨t, a, dy, pp, et, rfl, ha⟩ := part H' (fun b o nb e => s' _ _ (s2 _ _ nb e)) i v hv
    rw [List.getElem?_map, List.getElem?_map, et] at hy
    have := Option.some.inj hy
    subst this
    obtain ⟨tn, tk⟩ := t
    exact ⟨.ref a, rfl, a, _, dy, _, _, rfl, ha, CL, Z.a_size, rfl, hq⟩
  refine ⟨D, ks.map fun t => (sz t : Int), rfl, SqL.of upd_same, 1, _, rfl, rfl, ?_⟩
  rw [szs_ints]
  have s3 : ∀ b o, b ≠ x → H b = some o → upd (upd H x (.ins (CT K) dx f2)) D (.lst ((ks.map fun t => (sz t : Int)).map V.int)) b = some o := fun b o nb e => Same.new nD _ _ (s2 _ _ nb e)
  have x3 : upd (upd H x (.ins (CT K) dx f2)) D (.lst ((ks.map fun t => (sz t : Int)).map V.int)) x = some (.ins (CT K) dx f2) := Same.new nD _ _ upd_same
  generalize upd (upd H x (.ins (CT K) dx f2)) D (.lst ((ks.map fun t => (sz t : Int)).map V.int)) = H3 at s3 x3
  refine ⟨.ref x, rfl, x, _, dx, _, rfl, x3, CL, Z.a_size, by rw [e2]; exact Nat.le_of_ble_eq_true rfl, ?_⟩
  obtain ⟨f3, e3⟩ : ∃ f3 : List (Str × V), f3 = [(("name" : Str), V.str (mk n)), (("parts" : Str), V.ref p), (("size" : Str), V.int (1 + (szs ks : Int)))] := ⟨_, rfl⟩
  have p3 : putF "size" (.int (1 + (szs ks : Int))) f2 = f3 := by rw [e2, e3]; rfl
  rw [p3]
  have s4 : ∀ b o, b ≠ x → H b = some o → upd H3 x (.ins (CT K) dx f3) b = some o := fun b o nb e => by rw [upd_ne nb]; exact s3 _ _ nb e
  have x4 : upd H3 x (.ins (CT K) dx f3) x = some (.ins (CT K) dx f3) := upd_same
  generalize upd H3 x (.ins (CT K) dx f3) = H4 at s4 x4
  -- levels
  refine ⟨.ref p, rfl, p, rfl, ⟨_, SqT.of (s4 _ _ nxp.symm hp)⟩, fun D4 nD4 => ?_⟩
  refine lc_pureT (fs := (ks.map fun t => (lv t : Int)).map V.int) (s4 _ _ nxp.symm hp) nD4 (by rw [List.length_map, List.length_map, yl]) (by omega) (fun _ => rfl) ?_ ?_
  · intro i v y H' Q' hv hy s' hq
    obtain ⟨t, a, dy, pp, et, rfl, ha⟩ := part H' (fun b o nb e => s' _ _ (s4 _ _ nb e)) i v hv
    rw [List.getElem?_map, List.getElem?_map, et] at hy
    have := Option.some.inj hy
    subst this
    obtain ⟨tn, tk⟩ := t
    exact ⟨.ref a, rfl, a, _, dy, _, _, rfl, ha, CL, Z.a_levels, rfl, hq⟩
  refine ⟨D4, ks.map fun t => (lv t : Int), 0, rfl, rfl, SqL.of upd_same, 1, _, rfl, rfl, ?_⟩
  rw [maxD_lvs]
  have s5 : ∀ b o, b ≠ x → H b = some o → upd H4 D4 (.lst ((ks.map fun t => (lv t : Int)).map V.int)) b = some o := fun b o nb e => Same.new nD4 _ _ (s4 _ _ nb e)
  have x5 : upd H4 D4 (.lst ((ks.map fun t => (lv t : Int)).map V.int)) x = some (.ins (CT K) dx f3) := Same.new nD4 _ _ x4
  generalize upd H4 D4 (.lst ((ks.map fun t => (lv t : Int)).map V.int)) = H5 at s5 x5
  refine ⟨.ref x, rfl, x, _, dx, _, rfl, x5, CL, Z.a_levels, by rw [e3]; exact Nat.le_of_ble_eq_true rfl, ?_⟩
  -- term
  refine ⟨_, rfl, .ref x, rfl, x, _, dx, _, rfl, upd_same, CL, Z.a_term, by rw [e3]; exact Nat.le_of_ble_eq_true rfl, ?_⟩
  rw [upd_upd]
  obtain ⟨f5, e5⟩ : ∃ f5 : List Nat → List (Str × V), f5 = fun l => [(("name" : Str), V.str (mk n)), (("parts" : Str), V.ref p), (("size" : Str), V.int (1 + (szs ks : Int))), (("levels" : Str), V.int (1 + (lvs ks : Int))), (("term" : Str), V.str (mk l))] := ⟨_, rfl⟩
  have p5 : putF "term" (.str (mk n)) (putF "levels" (.int (1 + (lvs ks : Int))) f3) = f5 n := by rw [e3, e5]; rfl
  rw [p5]
  have p6 : ∀ l m, putF "term" (.str (mk m)) (f5 l) = f5 m := fun l m => by rw [e5]; rfl
  have f5l : ∀ l, (f5 l).length < 1000 := fun l => by rw [e5]; exact Nat.le_of_ble_eq_true rfl
  have ff : f5 (tm (.nd n ks)) = tfs (.nd n ks) p := by
    rw [e5]
    show _ = [(("name" : Str), V.str (mk n)), (("parts" : Str), V.ref p), (("size" : Str), V.int (sz (.nd n ks) : Nat)), (("levels" : Str), V.int (lv (.nd n ks) : Nat)), (("term" : Str), V.str (mk (tm (.nd n ks))))]
    rw [sz, lv]
    rfl
  have s6 : ∀ b o, b ≠ x → H b = some o → upd H5 x (.ins (CT K) dx (f5 n)) b = some o := fun b o nb e => by rw [upd_ne nb]; exact s5 _ _ nb e
  have x6 : upd H5 x (.ins (CT K) dx (f5 n)) x = some (.ins (CT K) dx (f5 n)) := upd_same
  generalize upd H5 x (.ins (CT K) dx (f5 n)) = H6 at s6 x6
  refine ⟨.ref p, rfl, !us.isEmpty, .inr (.inl ⟨us, SqT.of (s6 _ _ nxp.symm hp), rfl⟩), ite2 (fun e => ?_) (fun e => ?_)⟩
  · have nlen : n.length ≤ 12000 := by
      cases ks with
      | nil =>
        rw [tm_leaf] at tl
        omega
      | cons k r =>
        rw [tm_node, List.length_append] at tl
        omega
    refine ⟨_, rfl, mk n, mk [40], rfl, rfl, ?_, ?_⟩
    · rw [mk_len, mk_len]
      exact Nat.le_trans (show n.length + 1 ≤ 13000 by omega) (by decide)
    refine ⟨⟨_, rfl⟩, .ref p, rfl, p, rfl, ⟨_, SqT.of (s6 _ _ nxp.symm hp)⟩, fun F nF => ?_⟩
    refine lc_pureT (fs := ((tms ks).map mk).map V.str) (s6 _ _ nxp.symm hp) nF (by rw [List.length_map, List.length_map, tms_map, List.length_map, yl]) (by omega) (fun _ => rfl) ?_ ?_
    · intro i v y H' Q' hv hy s' hq
      obtain ⟨t, a, dy, pp, et, rfl, ha⟩ := part H' (fun b o nb e => s' _ _ (s6 _ _ nb e)) i v hv
      rw [tms_map, List.getElem?_map, List.getElem?_map, List.getElem?_map, et] at hy
      have := Option.some.inj hy
      subst this
      obtain ⟨tn, tk⟩ := t
      exact ⟨.ref a, rfl, a, _, dy, _, _, rfl, ha, CL, Z.a_term, rfl, hq⟩
    refine ⟨mk [44, 32], F, (tms ks).map mk, rfl, rfl, .inl (SqL.of upd_same), ?_, ?_⟩
    · have := jn_sum (tms ks)
      rw [mk_len]
      show _ + _ * 2 ≤ _
      omega
    rw [show Txt.join (mk [44, 32]) ((tms ks).map mk) = mk (jn (tms ks)) from (TL.join_eq _ _).trans (join_mk _)]
    refine ⟨mk (n ++ [40]), mk (jn (tms ks)), by rw [mk_app], rfl, ?_, ?_⟩
    · rw [mk_len, mk_len, List.length_append]
      exact Nat.le_trans (show n.length + 1 + (jn (tms ks)).length ≤ 100000 by omega) (by decide)
    refine ⟨mk (n ++ [40] ++ jn (tms ks)), mk [41], by rw [mk_app], rfl, ?_, ?_⟩
    · rw [mk_len, mk_len, List.length_append, List.length_append]
      exact Nat.le_trans (show n.length + 1 + (jn (tms ks)).length + 1 ≤ 100000 by omega) (by decide)
    have xF := Same.new (o := .lst (((tms ks).map mk).map V.str)) nF _ _ x6
    refine ⟨.ref x, rfl, x, _, dx, _, rfl, xF, CL, Z.a_term, f5l _, ?_⟩
    rw [mk_app, p6]
    have et : n ++ [40] ++ jn (tms ks) ++ [41] = tm (.nd n ks) := by
      cases ks with
      | nil =>
        rw [List.isEmpty_iff.mpr (List.length_eq_zero_iff.mp yl)] at e
        cases e
      | cons k r =>
        rw [tm_node, List.append_assoc, List.append_assoc]
        rfl
    rw [et, ff]
    exact q _ (fun b o nb e => by rw [upd_ne nb]; exact Same.new nF _ _ (s6 _ _ nb e)) upd_same
  · have e0 : ks = [] := by
      cases us with
      | nil => exact List.length_eq_zero_iff.mp yl.symm
      | cons a b => exact absurd rfl e
    subst e0
    have et : tm (.nd n []) = n := tm_leaf n
    rw [et] at ff
    rw [ff] at x6
    exact q _ s6 x6
end
end TW

namespace TW
open PySem PySem.Spec PyProof.Rows L2
/-- Tree(name, part, ..) -/
theorem mk_tree {C : Addr} {H : Hp} {Q : VK} {E : XK} {n : List Nat} {us : List V} {ks : List Tr} (hk : TOs C H us ks) (hw : wf (.nd n ks) = true) (hz : sz (.nd n ks) ≤ 1000)
    (q : ∀ H' a, Same H H' → H a = none → TO C H' (.ref a) (.nd n ks) → Q (.ref a) H') :
    ∀ x dx, H x = none → H dx = none → dx ≠ x → sp_star C (V.ref x :: (.str (mk n) :: us)) (upd (upd H dx (.own x)) x (.ins C dx [])) (fun v H2 => v = .non ∧ Q (.ref x) H2) E := by
  intro x dx nx nd ne
  have hl : us.length ≤ sizeLine := by
    rw [hk.length]
    have := len_szs ks
    rw [sz] at hz
    exact Nat.le_trans (show ks.length ≤ 1000 by omega) szle
  refine ⟨[.ref x, .str (mk n)], us, rfl, rfl, hl, fun p np => ?_⟩
  have s1 : Same H (upd (upd H dx (.own x)) x (.ins C dx [])) := fun b o e => by rw [upd_ne (ne_of_none e nx), upd_ne (ne_of_none e nd)]; exact e
  have s2 := s1.trans (Same.new (o := .tup us) np)
  have px : x ≠ p := ne_of_none upd_same np
  refine ⟨x, dx, p, n, us, ks, rfl, by rw [upd_ne px, upd_same], upd_same, TOs.kp (Same.kp s2) _ _ hk, hw, hz, fun H' k hx => ⟨rfl, ?_⟩⟩
  have s3 : Same H H' := fun b o e => k b o (ne_of_none e nx) (s2 _ _ e)
  refine q H' x s3 nx ?_
  rw [TO]
  exact ⟨x, dx, p, us, rfl, hx, k _ _ px.symm upd_same, TOs.kp (Same.kp s3) _ _ hk⟩
def sp_made (C : Addr) (n : Nat) : Sp := fun vs H Q _ => ∃ v t, vs = [v] ∧ LT H v t ∧ wf t = true ∧ sz t < n ∧ sz t ≤ 1000 ∧ ∀ H' v', Same H H' → TO C H' v' t → Q v' H'
section
variable {P : Program} {w : World} {K : PySem.W.Frag} {mg : Str → Option Value} {base : Heap}
theorem ok_made (T : Tx K mg) (Z : Tc K mg) (G_init : FnR P w K mg base CX0 1 (mT K "__init__") (sp_star (CT K))) : ∀ n : Nat, FnR P w K mg base CX0 (n + 3) (He.ga K "_law_make") (sp_made (CT K) n) := by
  intro n
  induction n with
  | zero =>
    intro A outer s H us vs Q E hr e0 r h
    obtain ⟨v, t, rfl, _, _, h0, _⟩ := h
    omega
  | succ n ih =>
  have G_law_make := ih
  refine fnR0 T.d_law_make sc_law_make (fun _ _ _ _ _ _ us hl => match us, hl with | [_], _ => rfl) (fun vs H Q E h => ?_) (fun cdv A outer s H vs Q E hr h => ?_)
  · obtain ⟨v, t, rfl, _⟩ := h
    rfl
  · obtain ⟨v, ⟨nm, ks⟩, rfl, hL, hw, hz, hm, q⟩ := h
    obtain ⟨kw, k3, _⟩ := wf_kids hw
    have hz' := hz
    have hm' := hm
    rw [sz] at hz' hm'
    refine ⟨_, (pss_cons (ps_setLc (i := 1) (own := [("_law_one", 2)]) (g := gName 2) rfl sc_law_make.nd rfl rfl (sw_true rfl rfl rfl (by decide +kernel)) (pi_tup (pe_ix (r := rIxT K) ix_tup (pv 0) pe_int (fun _ _ => rfl))) (blkOk_by (own := [("_law_one", 2)]) (N := N_law_make) (sc := defScope s_law_make) (by decide +kernel)) (fun _ _ _ _ _ => pg_name (i := 2) sc_law_make.nd rfl (.inl rfl)) (fun _ _ _ _ _ => pts_nil) (fun _ _ _ _ _ => (pe_cr G_law_make (hr.mono (by omega)) (by rfl) T.v_law_make T.k_law_make pass0 (pa_cons (pv 2) pa_nil))))
(pss_cons (ps_if (pt_cmpR op_eq (pe_callB call_len (by rfl) T.z_len (by decide +kernel) (pa_cons (pv 1) pa_nil)) pe_int (nomark _))
(pss_one (ps_ret (StX.pe_makeR Z.mk_ G_init (hr.mono (by omega)) (by rfl) Z.v_Tree pass0 (pa_cons (pe_ix (r := rIxT K) ix_tup (pv 0) pe_int (fun _ _ => rfl)) pa_nil))))
pss_nil)
(pss_cons (ps_if (pt_cmpR op_eq (pe_callB call_len (by rfl) T.z_len (by decide +kernel) (pa_cons (pv 1) pa_nil)) pe_int (nomark _))
(pss_one (ps_ret (StX.pe_makeR Z.mk_ G_init (hr.mono (by omega)) (by rfl) Z.v_Tree pass0 (pa_cons (pe_ix (r := rIxT K) ix_tup (pv 0) pe_int (fun _ _ => rfl)) (pa_cons (pe_ix (r := rIxL K) ix_list (pv 1) pe_int (fun _ _ => rfl)) pa_nil)))))
pss_nil)
(pss_cons (ps_if (pt_cmpR op_eq (pe_callB call_len (by rfl) T.z_len (by decide +kernel) (pa_cons (pv 1) pa_nil)) pe_int (nomark _))
(pss_one (ps_ret (StX.pe_makeR Z.mk_ G_init (hr.mono (by omega)) (by rfl) Z.v_Tree pass0 (pa_cons (pe_ix (r := rIxT K) ix_tup (pv 0) pe_int (fun _ _ => rfl)) (pa_cons (pe_ix (r := rIxL K) ix_list (pv 1) pe_int (fun _ _ => rfl)) (pa_cons (pe_ix (r := rIxL K) ix_list (pv 1) pe_int (fun _ _ => rfl)) pa_nil))))))
pss_nil)
(pss_one (ps_ret (StX.pe_makeR Z.mk_ G_init (hr.mono (by omega)) (by rfl) Z.v_Tree pass0 (pa_cons (pe_ix (r := rIxT K) ix_tup (pv 0) pe_int (fun _ _ => rfl)) (pa_cons (pe_ix (r := rIxL K) ix_list (pv 1) pe_int (fun _ _ => rfl)) (pa_cons (pe_ix (r := rIxL K) ix_list (pv 1) pe_int (fun _ _ => rfl)) (pa_cons (pe_ix (r := rIxL K) ix_list (pv 1) pe_int (fun _ _ => rfl)) pa_nil))))))))))), ?_⟩
    rw [LT] at hL
    obtain ⟨a, b, vs, rfl, ha, hb, hk⟩ := hL
    refine ⟨.ref a, rfl, a, _, 1, _, rfl, rfl, SqT.of ha, rfl, b, rfl, ⟨_, SqT.of hb⟩, fun D nD => ?_⟩
    refine lc_tup (xs := vs) (fun i H3 => ∃ ys, H3 D = some (.lst ys) ∧ Same H H3 ∧ TOs (CT K) H3 ys (ks.take i)) ?_ ?_ ?_ ?_
    · exact ⟨[], upd_same, Same.new nD, by rw [List.take_zero, TOs]; trivial⟩
    · rintro i H3 _ ⟨ys, _, s3, _⟩
      exact SqT.of (s3 _ _ hb)
    · rintro i x H3 hx ⟨ys, eD, s3, hy⟩
      obtain ⟨t, et, lt⟩ := hk.get hx
      have mt : t ∈ ks := List.mem_of_getElem? et
      have zt := szs_mem mt
      refine ⟨rfl, x, rfl, x, t, rfl, LT.kp (Same.kp s3) _ _ lt, wfs_mem kw mt, by omega, by omega, fun H4 v' s4 l4 => ?_⟩
      have eD4 := s4 _ _ eD
      have il : ys.length ≤ 1000 := by
        rw [hy.length, List.length_take]
        omega
      have kk : Kp H4 (upd H4 D (.lst (ys ++ [v']))) := fun b' o e nl => by
        have : b' ≠ D := fun z => by
          rw [z, eD4] at e
          cases e
          exact nl _ rfl
        rw [upd_ne this]
        exact e
      refine ⟨ys, eD4, small1000 il, ys ++ [v'], upd_same, fun b' o e => ?_, ?_⟩
      · rw [upd_ne (ne_of_none e nD)]
        exact s4 _ _ (s3 _ _ e)
      · rw [take_get et]
        exact TOs.snoc (TO.kp kk _ _ l4) (TOs.kp kk _ _ (TOs.kp (Same.kp s4) _ _ hy))
    · rintro H3 ⟨ys, eD, s3, hy⟩
      rw [hk.length, List.take_length] at hy
      have yl : ys.length = ks.length := hy.length
      have ha3 := s3 _ _ ha
      have fin : ∀ us, us = ys → ∀ x dx, H3 x = none → H3 dx = none → dx ≠ x → sp_star (CT K) (V.ref x :: (.str (mk nm) :: us)) (upd (upd H3 dx (.own x)) x (.ins (CT K) dx [])) (fun v H2 => v = .non ∧ Q (.ref x) H2) E0 := by
        intro us e
        subst e
        exact mk_tree hy hw hm fun H' a' s4 _ to => q H' _ (s3.trans s4) to
      refine ⟨.ref D, rfl, .ref D, ys.length, rfl, .inl ⟨_, SqL.of eD, rfl⟩, rfl, _, rfl, ite2 (fun e => ?_) (fun e => ?_)⟩
      · have e0 : (ys.length : Int) = 0 := V.int.inj (of_decide_eq_true e)
        refine ⟨.ref a, rfl, a, _, 0, _, rfl, rfl, SqT.of ha3, rfl, ?_⟩
        exact fin [] (List.length_eq_zero_iff.mp (by omega)).symm
      have e0 : (ys.length : Int) ≠ 0 := fun z => e (decide_eq_true (congrArg V.int z))
      refine ⟨.ref D, rfl, .ref D, ys.length, rfl, .inl ⟨_, SqL.of eD, rfl⟩, rfl, _, rfl, ite2 (fun e => ?_) (fun e => ?_)⟩
      · have e1 : (ys.length : Int) = 1 := V.int.inj (of_decide_eq_true e)
        match ys, e1 with
        | [y1], _ =>
          refine ⟨.ref a, rfl, a, _, 0, _, rfl, rfl, SqT.of ha3, rfl, .ref D, rfl, D, _, 0, _, rfl, rfl, SqL.of eD, rfl, ?_⟩
          exact fin [y1] rfl
      have e1 : (ys.length : Int) ≠ 1 := fun z => e (decide_eq_true (congrArg V.int z))
      refine ⟨.ref D, rfl, .ref D, ys.length, rfl, .inl ⟨_, SqL.of eD, rfl⟩, rfl, _, rfl, ite2 (fun e => ?_) (fun e => ?_)⟩
      · have e2 : (ys.length : Int) = 2 := V.int.inj (of_decide_eq_true e)
        match ys, e2 with
        | [y1, y2], _ =>
          refine ⟨.ref a, rfl, a, _, 0, _, rfl, rfl, SqT.of ha3, rfl, .ref D, rfl, D, _, 0, _, rfl, rfl, SqL.of eD, rfl, .ref D, rfl, D, _, 1, _, rfl, rfl, SqL.of eD, rfl, ?_⟩
          exact fin [y1, y2] rfl
      have e2 : (ys.length : Int) ≠ 2 := fun z => e (decide_eq_true (congrArg V.int z))
      have e3 : ys.length = 3 := by omega
      match ys, e3 with
      | [y1, y2, y3], _ =>
        refine ⟨.ref a, rfl, a, _, 0, _, rfl, rfl, SqT.of ha3, rfl, .ref D, rfl, D, _, 0, _, rfl, rfl, SqL.of eD, rfl, .ref D, rfl, D, _, 1, _, rfl, rfl, SqL.of eD, rfl, .ref D, rfl, D, _, 2, _, rfl, rfl, SqL.of eD, rfl, ?_⟩
        exact fin [y1, y2, y3] rfl
end
end TW

namespace TW
open PySem PySem.Spec PyProof.Rows L2
/-! ### a def's call at one state -/
section
variable {P : Program} {w : World} {K : PySem.W.Frag} {mg : Str → Option Value} {base : Heap}
/-- as the rule for a def, but at the state s alone: what is wanted may speak of s -/
theorem run_here {CX : CXT} {k : Nat} {f : Addr} {x q : Str} {st : Stmt} {N ps : List Str} {A : Around} {outer : List Env} {s : Shared} {H : Hp} {us : List Value} {vs : List V} {Q : VK} {E : XK}
    (D : DefAt K x q st f) (S : FnScope N ps (defScope st)) (hb : BindsWell x q st ps) (hr : Room (k + 1) A) (e0 : Env0 P w K mg base A outer s H) (r : Vals vs us) (hl : vs.length = ps.length)
    (body : ∀ cdv : Value, Room k (A.deeper (envOfC q (defScope st) s.heap.objs.size f cdv)) → ∃ t, PSs (cxOf CX P w K mg base N q (defScope st) f cdv A outer s H E) (defBody st) t ∧ t { nx := fun _ H' => Q .non H', rt := Q } (start N vs) H) :
    codeAny (model P w) A (.call (.ref f) ⟨us, []⟩) (CR CX outer P w H s Q E) s := by
  obtain ⟨fd, F⟩ := D
  have BT : BindsTo s fd ⟨us, []⟩ (ps.zip us) := F.bindsA hb s us (r.length.symm.trans hl)
  obtain ⟨oc, od, dV, kV, doc, pm, an, cdv, ct, osl, rfl, lk, hcd, _, _⟩ := F.ex
  have KX : K.In s.heap := e0.mod.kin.keeps fun b o e => (e0.bs b o e).1
  have NL : s.heap.NoLimit := e0.mod.nolimit.keeps fun b o e => (e0.bs b o e).1
  refine codeAny_call_function hr.depth (KX _ _ lk) rfl S.co S.gen rfl (PySem.W.codeRec_of KX hcd) (BT _ _ _ _ ?_)
  have kinds : ∀ y ∈ ps.zip us, (defScope st).names.lookup y.1 = some .local ∨ ((defScope st).names.lookup y.1 = some .cell ∧ ((cellsFrom (s.heap.objs.size + 1) (defScope st).names []).lookup y.1).isSome = true) := fun y hy => by
    rcases S.par y.1 (List.of_mem_zip hy).1 with z | z
    · exact .inl z
    · exact .inr ⟨z, PySem.W.cellsFrom_some _ _ _ (.inl z)⟩
  refine wpAny_newFunctionEnv_cells S.kind kinds fun env he s1 x => ?_
  subst he
  refine ⟨NL.keeps x.toInCall.keep, codeAny_func ?_⟩
  obtain ⟨t, ht, hq⟩ := body cdv (hr.deeper _)
  have I : Inv (cxOf CX P w K mg base N q (defScope st) f cdv A outer s H E) [] (start N vs) H s1 := inv_start S hr.hd e0 hl r x
  refine wpAny_mono (ht.run [] s1 _ _ _ I hq) (fun fl s' hs => ?_) fun e s' hs => hs
  have fin : ∀ {σ' : L2.St} {H' : Hp} {v : V} {u : Value}, Inv (cxOf CX P w K mg base N q (defScope st) f cdv A outer s H E) [] σ' H' s' → RelV v u → Q v H' → CE outer P w H s Q u s' := fun {σ' H' v u} J rv z => ⟨v, H', J.os, J.bare, J.base, J.hok, rv, z⟩
  cases fl with
  | ret u =>
    obtain ⟨v, σ', H', J, rv, z⟩ := hs
    exact fin J rv z
  | next =>
    obtain ⟨σ', H', J, z⟩ := hs
    exact fin (v := V.non) (u := Value.none) J rfl z
  | brk =>
    obtain ⟨_, _, _, z⟩ := hs
    exact False.elim z
  | cont =>
    obtain ⟨_, _, _, z⟩ := hs
    exact False.elim z
end
/-! ### iter(a tuple) as a value -/
def TIt (p it : Addr) : HO := .ext fun h => h.IsTupleIter it p 0
def rIterT (K : PySem.W.Frag) (n : Nat) : List V → Hp → VK → Prop := fun xs H Q => ∃ (p : Addr) (zs : List V), xs = [.ref p] ∧ SqT K H p zs ∧ ∀ it, H it = none → n ≤ it → Q (.ref it) (upd H it (TIt p it))
theorem tit_ok {P : Program} {w : World} {H : Hp} {h : Heap} {p it : Addr} (e : h.IsTupleIter it p 0) : ObjOk P w H h it (TIt p it) := by
  refine ⟨e, ?_, fun h1 h2 q k => Heap.IsTupleIter.at q k⟩
  obtain ⟨o, ho, _⟩ := e
  exact ⟨o, ho⟩
theorem call_iterT {X : Cx} : CallR X (.builtin "iter") (rIterT X.K X.s_0.heap.objs.size) := by
  intro pins s σ H xs us Q I r h
  obtain ⟨p, zs, rfl, hq, q⟩ := h
  obtain ⟨u, rfl, ru⟩ := vals1 r
  cases ru
  obtain ⟨its, rv, pt, hz⟩ := I.tuple hq
  refine Calls.call_function_entry (by decide +kernel) (by decide +kernel) PySem.W.kdk_entry_iter (PySem.W.kdk_args_iter _) ?_
  unfold Builtin.«iter»
  refine wpAny_bind (m := someArgs "iter" 1 2 _) (wpAny_of_eq (a := [Value.ref p]) (by first | rfl | kernel_rfl!) ?_)
  show wpAny _ _ (pyIter (.ref p) >>= _) _ _ _
  refine wpAny_bind (wpAny_pyIter_tuple (show s.heap.IsTuple p its.toArray from pt) ?_)
  refine wpAny_pure ⟨_, rfl, ?_⟩
  exact ⟨.ref s.heap.objs.size, _, I.laid (t' := s.toks) (fun b u e => Heap.get?_push_of_some _ e) (Nat.le_refl _) (tit_ok ⟨_, Heap.get?_push_size _ rfl, rfl, rfl⟩), rfl, q _ (I.hok.fresh (Nat.le_refl _)) I.sz⟩
/-! ### for x in a tree -/
structure Ti (K : PySem.W.Frag) : Prop where
  at_ : PySem.W.findIn K (.ref (CT K)) "__iter__" = some (some (.ref (mT K "__iter__")))
  fn : PySem.W.isFn K (.ref (mT K "__iter__")) = true
  d_ : DefAt K "__iter__" "Tree.__iter__" s_Tree_iter (mT K "__iter__")
def iTree (K : PySem.W.Frag) (te : TE) : TI := fun σ H R => te σ H fun x H1 => ∃ a dx fs p xs, x = .ref a ∧ H1 a = some (.ins (CT K) dx fs) ∧ fs.lookup ("parts" : Str) = some (V.ref p) ∧ H1 p = some (.tup xs) ∧ R (Itt K p) H1
theorem pi_tree {X : Cx} {tg e : Expr} {te : TE} {k : Nat} (T : Tx X.K X.mg) (Z : Tc X.K X.mg) (I3 : Ti X.K) (hr : Room (k + 1) X.A) (he : PE X e te) : PI X tg e (iTree X.K te) := by
  refine ⟨fun pins s σ H R I h => ?_⟩
  refine thn (he.run pins s σ H _ I h) fun v s1 z => ?_
  obtain ⟨x, H1, I1, r1, a, dx, fs, p, xs, ex, ha, hl, hp, q⟩ := z
  subst ex
  cases r1
  obtain ⟨m, F⟩ := I1.fr
  obtain ⟨mA, O, _⟩ := ins_get I1.hok ha
  obtain ⟨od, J, _⟩ := O.look
  refine PySem.W.owit_iter F I1.ok.mod.kin J I3.at_ I3.fn ?_
  have run := run_here (P := X.prog) (w := X.w) (K := X.K) (mg := X.mg) (base := X.base) (CX := CX0) (k := k) (A := X.A) (outer := X.stack) (s := s1) (H := H1) (us := [.ref a]) (vs := [.ref a]) (N := N_Tree_iter) (ps := ["self"])
    (Q := fun v H' => ∃ it, v = .ref it ∧ H1 it = none ∧ s1.heap.objs.size ≤ it ∧ H' = upd H1 it (TIt p it)) (E := E0) I3.d_ sc_Tree_iter (fun _ _ _ _ _ _ us hl => match us, hl with | [_], _ => rfl) hr I1.env0 (.cons rfl .nil) rfl ?_
  · refine wpAny_call (codeAny_mono run fun r s' hq => ?_)
    cases r with
    | error er => exact False.elim hq
    | ok fl =>
      cases fl with
      | ret u =>
        obtain ⟨v, H', I2, rv, it, ev, ni, hs, eH⟩ := I1.after hq
        subst ev eH
        cases rv
        have ei : upd H1 it (TIt p it) it = some (TIt p it) := upd_same
        have st : s'.heap.IsTupleIter it p 0 := (I2.hok it _ ei).1
        show wpAny _ _ (specialOf (.ref it) "__next__") _ _ _
        refine wpAny_specialOf st.typeIs slot_tupleiter_next.lookup ?_
        have I3' := ItX.inv_drop I2 (show upd H1 it (TIt p it) it = some (.ext _) from upd_same)
        have fp := ItX.inv_fp I2 ei (Nat.le_trans I1.sz hs)
        rw [ItX.dropH_upd ni] at I3' fp
        refine ⟨it, [it], _, _, H1, rfl, I3', turn_tuple p it, st, fun b hb => ?_, q⟩
        have e : b = it := by simpa using hb
        rw [e]
        exact fp
      | next => exact False.elim hq
      | brk => exact False.elim hq
      | cont => exact False.elim hq
  · intro cdv hr2
    suffices g : ∃ t, PSs (cxOf CX0 X.prog X.w X.K X.mg X.base N_Tree_iter "Tree.__iter__" (defScope s_Tree_iter) (mT X.K "__iter__") cdv X.A X.stack s1 H1 E0).nox (defBody s_Tree_iter) t ∧ t { nx := fun _ H' => ∃ it, V.non = .ref it ∧ H1 it = none ∧ s1.heap.objs.size ≤ it ∧ H' = upd H1 it (TIt p it), rt := fun v H' => ∃ it, v = .ref it ∧ H1 it = none ∧ s1.heap.objs.size ≤ it ∧ H' = upd H1 it (TIt p it) } (start N_Tree_iter [.ref a]) H1 by
      obtain ⟨t, u, z⟩ := g
      exact ⟨t, u.nox, z⟩
    obtain ⟨K, hK⟩ : ∃ K, K = X.K := ⟨_, rfl⟩
    rw [← hK] at T Z ha ⊢
    refine ⟨_, (pss_one (ps_ret (pe_callB call_iterT (by rfl) T.z_iter (by decide +kernel) (pa_cons (pe_fldK K (pv 0) rfl) pa_nil)))), ?_⟩
    refine ⟨.ref a, rfl, a, _, dx, fs, _, rfl, ha, Z.cl, Z.a_parts, hl, p, xs, rfl, SqT.of hp, fun it ni hn => ⟨it, rfl, ni, hn, rfl⟩⟩
end TW

namespace TW
open PySem PySem.Spec PyProof.Rows L2
/-! ### the codes of a term are those of ASCII -/
theorem capC_lt {c : Nat} (h : capC c = true) : c < 128 := by
  obtain ⟨_, h2⟩ := Bool.and_eq_true_iff.mp h
  have := Nat.le_of_ble_eq_true h2
  omega
theorem alnC_lt {c : Nat} (h : alnC c = true) : c < 128 := by
  rcases Bool.or_eq_true_iff.mp h with h | h
  · rcases Bool.or_eq_true_iff.mp h with h | h
    · exact capC_lt h
    · have := Nat.le_of_ble_eq_true (Bool.and_eq_true_iff.mp h).2
      omega
  · have := Nat.le_of_ble_eq_true (Bool.and_eq_true_iff.mp h).2
    omega
theorem name_ascii {n : List Nat} (h : bigN n = true ∨ leafN n = true) : ∀ c ∈ n, c < 128 := by
  rcases h with h | h
  · obtain ⟨c, l, rfl, hc, hl, _⟩ := bigN_cons h
    intro x hx
    rcases List.mem_cons.mp hx with e | e
    · rw [e]
      exact capC_lt hc
    · exact alnC_lt (List.all_eq_true.mp hl x e)
  · match n, h with
    | [c], h =>
      intro x hx
      rcases List.mem_cons.mp hx with e | e
      · rw [e]
        rcases Bool.or_eq_true_iff.mp h with z | z
        · have := eq_of_beq z
          omega
        · have := Nat.le_of_ble_eq_true (Bool.and_eq_true_iff.mp z).2
          omega
      · cases e
theorem jn_ascii : ∀ {ls : List (List Nat)}, (∀ l ∈ ls, ∀ c ∈ l, c < 128) → ∀ c ∈ jn ls, c < 128
  | [], _, c, hc => by cases hc
  | [p], h, c, hc => h p List.mem_cons_self c hc
  | p :: q :: r, h, c, hc => by
    rw [jn] at hc
    rcases List.mem_append.mp hc with z | z
    · exact h p List.mem_cons_self c z
    · rcases List.mem_cons.mp z with z | z
      · omega
      rcases List.mem_cons.mp z with z | z
      · omega
      · exact jn_ascii (ls := q :: r) (fun l hl => h l (List.mem_cons_of_mem _ hl)) c z
mutual
theorem tm_ascii : ∀ t : Tr, wf t = true → ∀ c ∈ tm t, c < 128
  | .nd n ks, h => by
    obtain ⟨kw, _, hn⟩ := wf_kids h
    have an := name_ascii (n := n) (hn.elim .inl fun z => .inr z.1)
    have ak := tms_ascii ks kw
    cases ks with
    | nil =>
      rw [tm_leaf]
      exact an
    | cons k r =>
      rw [tm_node]
      intro c hc
      rcases List.mem_append.mp hc with z | z
      · exact an c z
      rcases List.mem_cons.mp z with z | z
      · omega
      rcases List.mem_append.mp z with z | z
      · exact jn_ascii ak c z
      rcases List.mem_cons.mp z with z | z
      · omega
      · cases z
theorem tms_ascii : ∀ ks : List Tr, wfs ks = true → ∀ l ∈ tms ks, ∀ c ∈ l, c < 128
  | [], _ => by
    intro l hl
    rw [tms] at hl
    cases hl
  | k :: r, h => by
    rw [wfs] at h
    obtain ⟨h1, h2⟩ := Bool.and_eq_true_iff.mp h
    intro l hl
    rw [tms] at hl
    rcases List.mem_cons.mp hl with e | e
    · rw [e]
      exact tm_ascii k h1
    · exact tms_ascii r h2 l e
end
theorem strOk_of {l : List Nat} (h : ∀ c ∈ l, c < 128) : PyData.strOk (mk l) = true := by
  show l.toArray.all (· < 0x110000) = true
  rw [List.all_toArray]
  exact List.all_eq_true.mpr fun c hc => decide_eq_true (by have := h c hc; omega)
theorem dpStrs {K : PySem.W.Frag} {H : Hp} : ∀ ls : List (List Nat), DpAll K H ((ls.map mk).map V.str) ((ls.map mk).map PyData.str)
  | [] => .nil
  | n :: r => .cons (.str (mk n)) (dpStrs r)
theorem layStrs : ∀ ls : List (List Nat), (∀ l ∈ ls, ∀ c ∈ l, c < 128) → PyData.canLayAll0 ((ls.map mk).map PyData.str) = true
  | [], _ => rfl
  | n :: r, h => by
    show (PyData.canLay0 (.str (mk n)) && PyData.canLayAll0 ((r.map mk).map PyData.str)) = true
    rw [layStrs r fun l hl => h l (List.mem_cons_of_mem _ hl), Bool.and_true]
    exact strOk_of (h n List.mem_cons_self)
theorem depthStrs : ∀ ls : List (List Nat), PyData.depthAll ((ls.map mk).map PyData.str) = 0
  | [] => rfl
  | n :: r => by
    show max (PyData.depth (.str (mk n))) (PyData.depthAll ((r.map mk).map PyData.str)) = 0
    rw [depthStrs r]
    rfl
theorem shapedStrs {ls : List (List Nat)} (h : ∀ l ∈ ls, ∀ c ∈ l, c < 128) : SeqAt.shaped (.list ((ls.map mk).map PyData.str)) = true := by
  show (PyData.canLayAll0 ((ls.map mk).map PyData.str) && decide (PyData.depthAll ((ls.map mk).map PyData.str) + 1 ≤ 64)) = true
  rw [layStrs ls h, depthStrs]
  rfl
theorem eqvStrs (ls : List (List Nat)) : PyData.eqv (.list ((ls.map mk).map PyData.str)) (.list ((ls.map mk).map PyData.str)) = true := by
  show PyData.eqvAll ((ls.map mk).map PyData.str) ((ls.map mk).map PyData.str) = true
  induction ls with
  | nil => rfl
  | cons n r ih =>
    show ((mk n == mk n) && PyData.eqvAll ((r.map mk).map PyData.str) ((r.map mk).map PyData.str)) = true
    rw [ih, beq_self_eq_true]
    rfl
/-! ### the property whole; isinstance -/
abbrev gW (K : PySem.W.Frag) : Addr := match PySem.W.recIn K (mT K "whole") "property" with
  | some (.ref g :: _) => g
  | _ => 0
structure Tw (K : PySem.W.Frag) : Prop where
  p_whole : PropOf K (CT K) "whole" (mT K "whole") (gW K)
  d_whole : DefAt K "whole" "Tree.whole" s_Tree_whole (gW K)
  ic : PySem.W.findIn K (.ref (CT K)) "__class__" = some (some (.builtin "object.__class__"))
  ig : PySem.W.specialIn K (.builtin "object.__class__") "__get__" = some (some (.builtin "getset_descriptor.__get__"))
  it : PySem.W.takesIn K (.builtin "object.__class__") = some true
  im : PySem.W.mroIn K (CT K) (.type "object") = some true
theorem kit_same {K : PySem.W.Frag} (t : Value) : PySem.W.kitOne K t t = some true := by
  unfold PySem.W.kitOne
  rw [if_pos (beq_self_eq_true t)]
def sp_whole (C : Addr) : Sp := fun vs H Q _ => ∃ (a : Addr) (t : Tr), vs = [.ref a] ∧ TO C H (.ref a) t ∧ Q (.bl (!decide (95 ∈ tm t))) H
def sp_is : Sp := fun vs H Q _ => ∃ (i j : Int), vs = [.int i, .int j] ∧ Q (.bl (decide (i = j))) H
def sp_good (C : Addr) (n : Nat) : Sp := fun vs H Q _ => ∃ (v d : V) (t : Tr) (ok : Addr → Prop), vs = [v, d] ∧ TO C H v t ∧ DU ok H d t ∧ wf t = true ∧ sz t < n ∧ sz t ≤ 1000 ∧ ∀ H', Same H H' → Q (.bl true) H'
section
variable {P : Program} {w : World} {K : PySem.W.Frag} {mg : Str → Option Value} {base : Heap}
/-- a def by its body, with its function object -/
theorem fnO0 {x q : Str} {st : Stmt} {f : Addr} {N ps : List Str} {k : Nat} {sp : Sp} (D : DefAt K x q st f) (S : FnScope N ps (defScope st)) (hb : BindsWell x q st ps)
    (len : ∀ vs H Q E, sp vs H Q E → vs.length = ps.length)
    (body : ∀ (cdv : Value) (A : Around) (outer : List Env) (s : Shared) (H : Hp) (vs : List V) (Q : VK) (E : XK), Room k (A.deeper (envOfC q (defScope st) s.heap.objs.size f cdv)) → sp vs H Q E →
      ∃ t, PSs (cxOf CX0 P w K mg base N q (defScope st) f cdv A outer s H E).nox (defBody st) t ∧ t { nx := fun _ H' => Q .non H', rt := Q } (start N vs) H) :
    ∃ fd, FnOk P w K mg base CX0 (k + 1) f fd ps sp ∧ Binds K fd ps [] := by
  obtain ⟨fd, F⟩ := D
  refine ⟨fd, F.ok S len fun cdv A outer s H vs Q E hr h => ?_, F.bindsN hb⟩
  obtain ⟨t, a, b⟩ := body cdv A outer s H vs Q E hr h
  exact ⟨t, a.nox, b⟩
theorem ok_whole (T : Tx K mg) (Z : Tc K mg) (W : Tw K) : ∃ fd, FnOk P w K mg base CX0 1 (gW K) fd ["self"] (sp_whole (CT K)) ∧ Binds K fd ["self"] [] := by
  refine fnO0 W.d_whole sc_Tree_whole (fun _ _ _ _ _ _ us hl => match us, hl with | [_], _ => rfl) (fun vs H Q E h => ?_) (fun cdv A outer s H vs Q E hr h => ?_)
  · obtain ⟨a, t, rfl, _⟩ := h
    rfl
  · obtain ⟨a, t, rfl, ht, q⟩ := h
    refine ⟨_, (pss_one (ps_ret (pe_cmpR op_notIn_sign pe_str (pe_fldK K (pv 0) rfl) (by rfl)))), ?_⟩
    obtain ⟨a', dx, p, e, ha⟩ := ht.at
    cases e
    obtain ⟨n, ks⟩ := t
    exact ⟨.ref a, rfl, a, _, dx, _, _, rfl, ha, Z.cl, Z.a_term, rfl, 95, mk (tm (.nd n ks)), rfl, rfl, q⟩
theorem ok_is (T : Tx K mg) : FnR P w K mg base CX0 1 (He.ga K "_law_is") sp_is := by
  refine fnR0 T.d_law_is sc_law_is (fun _ _ _ _ _ _ us hl => match us, hl with | [_, _], _ => rfl) (fun vs H Q E h => ?_) (fun cdv A outer s H vs Q E hr h => ?_)
  · obtain ⟨i, j, rfl, _⟩ := h
    rfl
  · obtain ⟨i, j, rfl, q⟩ := h
    refine ⟨_, (pss_cons (ps_if (PW.pt (pw_or (pt_not (pt_val (pe_callB call_isi (by rfl) T.z_isinstance (by decide +kernel) (pa_cons (pv 0) (pa_cons (pe_bltn (v := .ty "int") (by rfl) T.z_int (by decide +kernel) rfl) pa_nil))))) (pw_or1 (pt_val (pe_callB call_isi (by rfl) T.z_isinstance (by decide +kernel) (pa_cons (pv 0) (pa_cons (pe_bltn (v := .ty "bool") (by rfl) T.z_bool (by decide +kernel) rfl) pa_nil)))))))
(pss_one (ps_ret pe_bl))
pss_nil)
(pss_one (ps_ret (pe_cmpR op_eq (pv 0) (pv 1) (nomark _))))), ?_⟩
    refine ⟨.int i, rfl, .int i, .ty "int", _, _, _, rfl, .ty "int", .base (.int i), kit_ty (r := true) (by decide +kernel), true, rfl, ?_⟩
    refine iteF ?_
    refine ⟨.int i, rfl, .int i, .ty "bool", _, _, _, rfl, .ty "bool", .base (.int i), kit_ty (r := false) (by decide +kernel), false, rfl, ?_⟩
    refine iteF ?_
    refine ⟨.int i, rfl, .int j, rfl, rfl, ?_⟩
    have e : decide (V.int i = V.int j) = decide (i = j) := by
      by_cases z : i = j
      · rw [z, decide_eq_true rfl, decide_eq_true rfl]
      · rw [decide_eq_false z, decide_eq_false fun y => z (V.int.inj y)]
    rw [e]
    exact q
theorem ok_good (T : Tx K mg) (Z : Tc K mg) (I3 : Ti K) (W : Tw K) (G_law_is : FnR P w K mg base CX0 1 (He.ga K "_law_is") sp_is) : ∀ n : Nat, FnR P w K mg base CX0 (n + 3) (He.ga K "_law_good") (sp_good (CT K) n) := by
  obtain ⟨fdW, G_whole, B_whole⟩ := ok_whole (P := P) (w := w) (base := base) T Z W
  intro n
  induction n with
  | zero =>
    intro A outer s H us vs Q E hr e0 r h
    obtain ⟨v, d, t, ok, rfl, _, _, _, h0, _⟩ := h
    omega
  | succ n ih =>
  have G_law_good := ih
  refine fnR0 T.d_law_good sc_law_good (fun _ _ _ _ _ _ us hl => match us, hl with | [_, _], _ => rfl) (fun vs H Q E h => ?_) (fun cdv A outer s H vs Q E hr h => ?_)
  · obtain ⟨v, d, t, ok, rfl, _⟩ := h
    rfl
  · obtain ⟨v, d, ⟨nm, ks⟩, ok, rfl, ht, hd, hw, hz, hm, q⟩ := h
    have ht0 := ht
    rw [TO] at ht
    obtain ⟨a, dx, p, vs, rfl, ha, hp, hk⟩ := ht
    rw [DU] at hd
    obtain ⟨c, b, ds, rfl, ob, hc, hb, hds⟩ := hd
    have kl := hk.length
    have dl := hds.length
    obtain ⟨kw, k3, _⟩ := wf_kids hw
    have asc := tms_ascii ks kw
    have hz' := hz
    have hm' := hm
    rw [sz] at hz' hm'
    refine ⟨_, (pss_cons (ps_if (PW.pt (pw_or (pt_not (pt_val (pe_callB call_isi (by rfl) T.z_isinstance (by decide +kernel) (pa_cons (pv 0) (pa_cons (pe_glob (v := .ref (CT K)) (by rfl) Z.v_Tree rfl) pa_nil))))) (pw_or1 (pt_not (pt_val (pe_callB call_isi (by rfl) T.z_isinstance (by decide +kernel) (pa_cons (pe_fldK K (pv 0) rfl) (pa_cons (pe_bltn (v := .ty "tuple") (by rfl) T.z_tuple (by decide +kernel) rfl) pa_nil))))))))
(pss_one (ps_ret pe_bl))
pss_nil)
(pss_cons (ps_if (PW.pt (pw_or (pt_cmpR op_ne (pe_fldK K (pv 0) rfl) (pe_ix (r := rIxT K) ix_tup (pv 1) pe_int (fun _ _ => rfl)) (nomark _)) (pw_or1 (pt_cmpR op_ne (pe_fldK K (pv 0) rfl) (pe_ix (r := rIxT K) ix_tup (pv 1) pe_int (fun _ _ => rfl)) (nomark _)))))
(pss_one (ps_ret pe_bl))
pss_nil)
(pss_cons (ps_if (PW.pt (pw_or (pt_not (pt_val (pe_cr G_law_is (hr.mono (by omega)) (by rfl) T.v_law_is T.k_law_is pass0 (pa_cons (pe_fldK K (pv 0) rfl) (pa_cons (pe_ix (r := rIxT K) ix_tup (pv 1) pe_int (fun _ _ => rfl)) pa_nil))))) (pw_or1 (pt_not (pt_val (pe_cr G_law_is (hr.mono (by omega)) (by rfl) T.v_law_is T.k_law_is pass0 (pa_cons (pe_fldK K (pv 0) rfl) (pa_cons (pe_ix (r := rIxT K) ix_tup (pv 1) pe_int (fun _ _ => rfl)) pa_nil))))))))
(pss_one (ps_ret pe_bl))
pss_nil)
(pss_cons (ps_if (PW.pt (pw_or (pt_not (pt_val (pe_callB call_isi (by rfl) T.z_isinstance (by decide +kernel) (pa_cons (pe_prop (pv 0) Z.cl W.p_whole G_whole (hr.mono (by omega)) B_whole .nil pass0 rfl) (pa_cons (pe_bltn (v := .ty "bool") (by rfl) T.z_bool (by decide +kernel) rfl) pa_nil))))) (pw_or1 (pt_cmpR op_ne (pe_prop (pv 0) Z.cl W.p_whole G_whole (hr.mono (by omega)) B_whole .nil pass0 rfl) (pe_cmpR op_notIn_sign pe_str (pe_ix (r := rIxT K) ix_tup (pv 1) pe_int (fun _ _ => rfl)) (by rfl)) (nomark _)))))
(pss_one (ps_ret pe_bl))
pss_nil)
(pss_cons (ps_if (pt_cmpR (op_neD hr.units) (pe_lc (own := [("_law_one", 3)]) (g := gName 3) rfl sc_law_good.nd (pi_tree T Z I3 hr (pv 0)) (blkOk_by (own := [("_law_one", 3)]) (N := N_law_good) (sc := defScope s_law_good) (by decide +kernel)) (fun _ _ _ _ _ => pg_name (i := 3) sc_law_good.nd rfl (.inl rfl)) (fun _ _ _ _ _ => pts_nil) (fun _ _ _ _ _ => (pe_fldK K (pv 3) rfl))) (pe_lc (own := [("_law_one", 3)]) (g := gName 3) rfl sc_law_good.nd (pi_list (pe_ix (r := rIxT K) ix_tup (pv 1) pe_int (fun _ _ => rfl))) (blkOk_by (own := [("_law_one", 3)]) (N := N_law_good) (sc := defScope s_law_good) (by decide +kernel)) (fun _ _ _ _ _ => pg_name (i := 3) sc_law_good.nd rfl (.inl rfl)) (fun _ _ _ _ _ => pts_nil) (fun _ _ _ _ _ => (pe_ix (r := rIxT K) ix_tup (pv 3) pe_int (fun _ _ => rfl)))) (nomark _))
(pss_one (ps_ret pe_bl))
pss_nil)
(pss_cons (ps_if (pt_cmpR op_ne (pe_callB call_len (by rfl) T.z_len (by decide +kernel) (pa_cons (pe_fldK K (pv 0) rfl) pa_nil)) (pe_callB call_len (by rfl) T.z_len (by decide +kernel) (pa_cons (pe_ix (r := rIxT K) ix_tup (pv 1) pe_int (fun _ _ => rfl)) pa_nil)) (nomark _))
(pss_one (ps_ret pe_bl))
pss_nil)
(pss_cons (ps_for PassesOwn.never rfl (pi_range1 (by rfl) T.z_range (pa_cons (pe_callB call_len (by rfl) T.z_len (by decide +kernel) (pa_cons (pe_ix (r := rIxT K) ix_tup (pv 1) pe_int (fun _ _ => rfl)) pa_nil)) pa_nil)) (pg_name (i := 2) sc_law_good.nd rfl (.inl rfl))
(pss_one (ps_if (pt_not (pt_val (pe_cr G_law_good (hr.mono (by omega)) (by rfl) T.v_law_good T.k_law_good pass0 (pa_cons (pe_ix (r := rIxT K) ix_tup (pe_fldK K (pv 0) rfl) (pv 2) (fun _ _ => rfl)) (pa_cons (pe_ix (r := rIxL K) ix_list (pe_ix (r := rIxT K) ix_tup (pv 1) pe_int (fun _ _ => rfl)) (pv 2) (fun _ _ => rfl)) pa_nil)))))
(pss_one (ps_ret pe_bl))
pss_nil)))
(pss_one (ps_ret pe_bl))))))))), ?_⟩
    have ins : TyX K H (.ref a) (.ref (CT K)) := .base (.ins ha Z.cl W.ic W.ig W.it W.im)
    -- isinstance(.., Tree), isinstance(.parts, tuple)
    refine ⟨.ref a, rfl, .ref a, .ref (CT K), _, _, _, rfl, .own _, ins, kit_same _, true, rfl, ?_⟩
    refine iteF ?_
    refine ⟨.ref a, rfl, a, _, dx, _, _, rfl, ha, Z.cl, Z.a_parts, rfl, .ref p, .ty "tuple", _, _, _, rfl, .ty "tuple", .base (.tup hp), kit_ty (r := true) (by decide +kernel), true, rfl, ?_⟩
    refine iteF ?_
    -- name, term
    refine ⟨.ref a, rfl, a, _, dx, _, _, rfl, ha, Z.cl, Z.a_name, rfl, .ref c, rfl, c, _, 3, _, rfl, rfl, SqT.of hc, rfl, rfl, _, rfl, iteNS rfl ?_⟩
    refine ⟨.ref a, rfl, a, _, dx, _, _, rfl, ha, Z.cl, Z.a_term, rfl, .ref c, rfl, c, _, 2, _, rfl, rfl, SqT.of hc, rfl, rfl, _, rfl, iteNS rfl ?_⟩
    -- size, levels
    refine ⟨.ref a, rfl, a, _, dx, _, _, rfl, ha, Z.cl, Z.a_size, rfl, .ref c, rfl, c, _, 0, _, rfl, rfl, SqT.of hc, rfl, _, _, rfl, _, rfl, iteNS rfl ?_⟩
    refine ⟨.ref a, rfl, a, _, dx, _, _, rfl, ha, Z.cl, Z.a_levels, rfl, .ref c, rfl, c, _, 1, _, rfl, rfl, SqT.of hc, rfl, _, _, rfl, _, rfl, iteNS rfl ?_⟩
    -- whole
    refine ⟨.ref a, rfl, a, dx, _, rfl, ha, a, .nd nm ks, rfl, ht0, .bl _, .ty "bool", _, _, _, rfl, .ty "bool", .base (.bl _), kit_ty (r := true) (by decide +kernel), true, rfl, ?_⟩
    refine iteF ?_
    refine ⟨.ref a, rfl, a, dx, _, rfl, ha, a, .nd nm ks, rfl, ht0, .ref c, rfl, c, _, 2, _, rfl, rfl, SqT.of hc, rfl, 95, mk (tm (.nd nm ks)), rfl, rfl, rfl, _, rfl, iteNS rfl ?_⟩
    -- the parts' terms
    refine ⟨.ref a, rfl, a, dx, _, p, vs, rfl, ha, rfl, hp, fun D nD => ?_⟩
    refine lc_pureT (fs := ((tms ks).map mk).map V.str) hp nD (by rw [List.length_map, List.length_map, tms_map, List.length_map, kl]) (by omega) (fun _ => rfl) ?_ ?_
    · intro i x y H' Q' hx hy s' hq
      obtain ⟨t, et, to⟩ := hk.get hx
      obtain ⟨f, dy, pp, rfl, hf⟩ := to.at
      obtain ⟨tn, tk⟩ := t
      rw [tms_map, List.getElem?_map, List.getElem?_map, List.getElem?_map, et] at hy
      have := Option.some.inj hy
      subst this
      exact ⟨.ref f, rfl, f, _, dy, _, _, rfl, s' _ _ hf, Z.cl, Z.a_term, rfl, hq⟩
    have s1 : Same H (upd H D (.lst (((tms ks).map mk).map V.str))) := Same.new nD
    refine ⟨.ref c, rfl, c, _, 4, _, rfl, rfl, SqT.of (s1 _ _ hc), rfl, b, rfl, ⟨_, SqL.of (s1 _ _ hb)⟩, fun D2 nD2 => ?_⟩
    refine lc_pureL (fs := ((tms ks).map mk).map V.str) (SqL.of (s1 _ _ hb)) nD2 (by rw [List.length_map, List.length_map, tms_map, List.length_map, dl]) (by omega) (fun _ => rfl) ?_ ?_
    · intro i x y H' Q' hx hy s' hq
      obtain ⟨t, et, du⟩ := hds.get hx
      obtain ⟨f, g, rfl, hf⟩ := du.at
      obtain ⟨tn, tk⟩ := t
      rw [tms_map, List.getElem?_map, List.getElem?_map, List.getElem?_map, et] at hy
      have := Option.some.inj hy
      subst this
      exact ⟨.ref f, rfl, f, _, 2, _, rfl, rfl, SqT.of (s' _ _ (s1 _ _ hf)), rfl, hq⟩
    have s2 := s1.trans (Same.new (o := .lst (((tms ks).map mk).map V.str)) nD2)
    refine ⟨_, _, .lst (SqL.of (Same.new nD2 _ _ upd_same)) (dpStrs _), .lst (SqL.of upd_same) (dpStrs _), shapedStrs asc, shapedStrs asc, _, rfl, ?_⟩
    rw [eqvStrs]
    refine iteF ?_
    generalize upd (upd H D (.lst (((tms ks).map mk).map V.str))) D2 (.lst (((tms ks).map mk).map V.str)) = H2 at s2
    have ha2 := s2 _ _ ha
    have hp2 := s2 _ _ hp
    have hc2 := s2 _ _ hc
    have hb2 := s2 _ _ hb
    -- lengths
    refine ⟨.ref a, rfl, a, _, dx, _, _, rfl, ha2, Z.cl, Z.a_parts, rfl, .ref p, vs.length, rfl, .inr ⟨_, SqT.of hp2, rfl⟩, .ref c, rfl, c, _, 4, _, rfl, rfl, SqT.of hc2, rfl, .ref b, ds.length, rfl, .inl ⟨_, SqL.of hb2, rfl⟩, rfl, _, rfl, ?_⟩
    rw [kl, dl]
    refine iteNS rfl ?_
    -- each part
    refine ⟨.ref c, rfl, c, _, 4, _, rfl, rfl, SqT.of hc2, rfl, .ref b, ds.length, rfl, .inl ⟨_, SqL.of hb2, rfl⟩, ds.length, rfl, by omega, by omega, for_range (lo := 0) (n := ((ds.length : Int)).toNat) (fun i σ H3 => ∃ y2, σ = [some (.ref a), some (.ref c), y2, none] ∧ Same H H3) ?_ ?_ ?_⟩
    · exact ⟨none, rfl, s2⟩
    · rintro i σ H3 hi ⟨y2, rfl, s3⟩
      have hi' : i < ks.length := by omega
      have e0 : ((0 : Int) + (i : Nat)) = (i : Nat) := by omega
      have gv : vs[i]? = some vs[i] := List.getElem?_eq_getElem (by omega)
      have gd : ds[i]? = some ds[i] := List.getElem?_eq_getElem (by omega)
      obtain ⟨t, et, to⟩ := hk.get gv
      obtain ⟨t2, et2, du⟩ := hds.get gd
      have : t2 = t := Option.some.inj (et2.symm.trans et)
      subst this
      have mt : t2 ∈ ks := List.mem_of_getElem? et
      have zt := szs_mem mt
      refine ⟨.ref a, rfl, a, _, dx, _, _, rfl, s3 _ _ ha, Z.cl, Z.a_parts, rfl, _, rfl, p, _, _, _, rfl, rfl, SqT.of (s3 _ _ hp), (by rw [e0]; exact atI_nat gv), .ref c, rfl, c, _, 4, _, rfl, rfl, SqT.of (s3 _ _ hc), rfl, _, rfl, b, _, _, _, rfl, rfl, SqL.of (s3 _ _ hb), (by rw [e0]; exact atI_nat gd), ?_⟩
      refine ⟨_, _, t2, ok, rfl, TO.kp (Same.kp s3) _ _ to, DU.same s3 du, wfs_mem kw mt, by omega, by omega, fun H4 s4 => ⟨true, rfl, iteF ?_⟩⟩
      exact ⟨_, rfl, s3.trans s4⟩
    · rintro σ H3 ⟨y2, rfl, s3⟩
      exact q H3 s3
end
end TW

namespace TW
open PySem PySem.Spec PyProof.Rows L2
/-! ### a term tells its size -/
def sep (c : Nat) : Bool := c == 40 || c == 44
theorem sep_aln : ∀ c, alnC c = true → sep c = false := by
  intro c h
  unfold sep
  unfold alnC capC at h
  simp only [Bool.or_eq_true, Bool.and_eq_true, Nat.ble_eq] at h
  have h1 : c ≠ 40 := by omega
  have h2 : c ≠ 44 := by omega
  simp [h1, h2]
theorem aln_cap {c : Nat} (h : capC c = true) : alnC c = true := by
  unfold alnC
  rw [h]
  rfl
theorem sep_zero : ∀ {l : List Nat}, (∀ c ∈ l, sep c = false) → l.countP sep = 0
  | [], _ => rfl
  | c :: r, h => by
    rw [List.countP_cons, sep_zero fun x hx => h x (List.mem_cons_of_mem _ hx), h c List.mem_cons_self]
    rfl
theorem big_aln {n : List Nat} (h : bigN n = true) : ∀ c ∈ n, alnC c = true := by
  cases n with
  | nil => cases h
  | cons c r =>
    obtain ⟨h1, h2⟩ := Bool.and_eq_true_iff.mp (show (capC c && r.all alnC && Nat.ble (r.length + 1) 8) = true from h)
    obtain ⟨h3, h4⟩ := Bool.and_eq_true_iff.mp h1
    intro x hx
    rcases List.mem_cons.mp hx with rfl | hx
    · exact aln_cap h3
    · exact List.all_eq_true.mp h4 x hx
theorem leaf_sep {n : List Nat} (h : leafN n = true) : n.countP sep = 0 := by
  match n, h with
  | [c], h =>
    have h' : (c == 95 || digC c) = true := h
    unfold digC at h'
    simp only [Bool.or_eq_true, Bool.and_eq_true, Nat.ble_eq, beq_iff_eq] at h'
    refine sep_zero fun x hx => ?_
    rw [List.mem_singleton.mp hx]
    unfold sep
    have h1 : c ≠ 40 := by omega
    have h2 : c ≠ 44 := by omega
    simp [h1, h2]
theorem name_sep {n : List Nat} {b : Bool} (h : (bigN n || (leafN n && b)) = true) : n.countP sep = 0 := by
  rcases Bool.or_eq_true_iff.mp h with z | z
  · exact sep_zero fun c hc => sep_aln c (big_aln z c hc)
  · exact leaf_sep (Bool.and_eq_true_iff.mp z).1
mutual
theorem tm_cnt : ∀ t : Tr, wf t = true → (tm t).countP sep + 1 = sz t
  | .nd n ks, h => by
    rw [wf] at h
    obtain ⟨h1, h2⟩ := Bool.and_eq_true_iff.mp h
    obtain ⟨h3, h4⟩ := Bool.and_eq_true_iff.mp h2
    have hn := name_sep h1
    cases ks with
    | nil => rw [tm_leaf, sz, szs, hn]
    | cons k r =>
      have ih := tms_cnt (k :: r) h4 (List.cons_ne_nil _ _)
      rw [tm_node, sz, List.countP_append, List.countP_cons, List.countP_append, hn, show [41].countP sep = 0 from rfl, show sep 40 = true from rfl]
      simp only [if_true]
      omega
theorem tms_cnt : ∀ ks : List Tr, wfs ks = true → ks ≠ [] → (jn (tms ks)).countP sep + 1 = szs ks
  | [], _, n => absurd rfl n
  | k :: r, h, _ => by
    rw [wfs] at h
    obtain ⟨h1, h2⟩ := Bool.and_eq_true_iff.mp h
    have a := tm_cnt k h1
    have b := tms_cnt r h2
    cases r with
    | nil =>
      rw [tms, tms, jn, szs, szs, a]
      rfl
    | cons k2 r2 =>
      have b := b (List.cons_ne_nil _ _)
      rw [tms, szs]
      rw [tms] at b ⊢
      rw [jn, List.countP_append, List.countP_cons, List.countP_cons, show sep 44 = true from rfl, show sep 32 = false from rfl]
      simp only [if_true, Bool.false_eq_true, if_false]
      omega
end
end TW

namespace TW
/-! ## reading terms: plain Lean, no program in sight -/
/-! ### names -/
/-- what may stand behind a part -/
def endR (s : List Nat) : Prop := s.head? = none ∨ s.head? = some 41 ∨ s.head? = some 44
theorem tw_stop {p : Nat → Bool} : ∀ {n s : List Nat}, (∀ c ∈ n, p c = true) → (∀ c, s.head? = some c → p c = false) → (n ++ s).takeWhile p = n
  | [], s, _, h => by
    cases s with
    | nil => rfl
    | cons c r =>
      show List.takeWhile p (c :: r) = []
      rw [List.takeWhile_cons, h c rfl]
      rfl
  | c :: r, s, hn, h => by
    show List.takeWhile p (c :: (r ++ s)) = c :: r
    rw [List.takeWhile_cons, hn c List.mem_cons_self, tw_stop (fun x hx => hn x (List.mem_cons_of_mem _ hx)) h]
    rfl
theorem tw_all {p : Nat → Bool} : ∀ (s : List Nat), ∀ c ∈ s.takeWhile p, p c = true
  | [], c, h => by cases h
  | x :: r, c, h => by
    rw [List.takeWhile_cons] at h
    cases e : p x with
    | false => rw [e] at h; cases h
    | true =>
      rw [e] at h
      rcases List.mem_cons.mp h with z | z
      · rw [z]; exact e
      · exact tw_all r c z
theorem tw_pre {p : Nat → Bool} : ∀ (s : List Nat), s = s.takeWhile p ++ s.drop (s.takeWhile p).length
  | [] => rfl
  | x :: r => by
    rw [List.takeWhile_cons]
    cases e : p x with
    | false => rfl
    | true => exact congrArg (x :: ·) (tw_pre r)
theorem endR_aln {s : List Nat} (h : endR s) : ∀ c, s.head? = some c → alnC c = false := by
  intro c e
  rcases h with z | z | z
  · rw [z] at e; cases e
  · rw [z] at e; cases e; rfl
  · rw [z] at e; cases e; rfl
theorem name_cases {n : List Nat} {ks : List Tr} (h : wf (.nd n ks) = true) : bigN n = true ∨ (leafN n = true ∧ ks = []) := by
  rw [wf] at h
  rcases Bool.or_eq_true_iff.mp (Bool.and_eq_true_iff.mp h).1 with z | z
  · exact .inl z
  · obtain ⟨a, b⟩ := Bool.and_eq_true_iff.mp z
    exact .inr ⟨a, List.isEmpty_iff.mp b⟩
theorem leaf_cases {n : List Nat} (h : leafN n = true) : n = [95] ∨ ∃ c, n = [c] ∧ digC c = true := by
  match n, h with
  | [c], h =>
    rcases Bool.or_eq_true_iff.mp (show (c == 95 || digC c) = true from h) with z | z
    · rw [beq_iff_eq.mp z]; exact .inl rfl
    · exact .inr ⟨c, rfl, z⟩
theorem dig_aln {c : Nat} (h : digC c = true) : alnC c = true := by
  unfold digC at h
  unfold alnC
  rw [h, Bool.or_true]
theorem big_ne {n : List Nat} (h : bigN n = true) : n ≠ [] := by
  rintro rfl
  cases h
/-! ### the program's machine -/
/-- the name at the beginning of s, [] if there is none -/
def nmOf (s : List Nat) : List Nat :=
  if s.head? = some 95 then [95] else if (bigN (s.takeWhile alnC) || leafN (s.takeWhile alnC)) = true then s.takeWhile alnC else []
structure Ms where
  stk : List (List Nat × List Tr)
  done : Option Tr
  pos : Nat
def stepM (l : List Nat) : Ms → Option Ms
  | ⟨stk, none, at_⟩ => if nmOf (l.drop at_) = [] then none else if bigN (nmOf (l.drop at_)) = true ∧ (l.drop (at_ + (nmOf (l.drop at_)).length)).head? = some 40 then some ⟨(nmOf (l.drop at_), []) :: stk, none, at_ + (nmOf (l.drop at_)).length + 1⟩
      else some ⟨stk, some (.nd (nmOf (l.drop at_)) []), at_ + (nmOf (l.drop at_)).length⟩
  | ⟨[], some d, at_⟩ => none
  | ⟨(n, ps) :: r, some d, at_⟩ => if (l.drop at_).head? = some 41 then some ⟨r, some (.nd n (ps ++ [d])), at_ + 1⟩
      else if (l.drop at_).take 2 = [44, 32] ∧ ps.length + 1 < 3 then some ⟨(n, ps ++ [d]) :: r, none, at_ + 2⟩ else none
theorem stepM_n (l : List Nat) (stk : List (List Nat × List Tr)) (i : Nat) : stepM l ⟨stk, none, i⟩ = if nmOf (l.drop i) = [] then none else if bigN (nmOf (l.drop i)) = true ∧ (l.drop (i + (nmOf (l.drop i)).length)).head? = some 40 then
    some ⟨(nmOf (l.drop i), []) :: stk, none, i + (nmOf (l.drop i)).length + 1⟩ else some ⟨stk, some (.nd (nmOf (l.drop i)) []), i + (nmOf (l.drop i)).length⟩ := by
  cases stk <;> rfl
theorem stepM_s (l : List Nat) (n : List Nat) (ps : List Tr) (r : List (List Nat × List Tr)) (d : Tr) (i : Nat) : stepM l ⟨(n, ps) :: r, some d, i⟩ = if (l.drop i).head? = some 41 then some ⟨r, some (.nd n (ps ++ [d])), i + 1⟩
    else if (l.drop i).take 2 = [44, 32] ∧ ps.length + 1 < 3 then some ⟨(n, ps ++ [d]) :: r, none, i + 2⟩ else none := rfl
def itM (l : List Nat) (s : Ms) : Nat → Option Ms
  | 0 => some s
  | n + 1 => (itM l s n).bind (stepM l)
def Rch (l : List Nat) (s s' : Ms) : Prop := ∃ n, itM l s n = some s'
theorem itM_add (l : List Nat) (s s' : Ms) (n : Nat) (h : itM l s n = some s') : ∀ m, itM l s (n + m) = itM l s' m
  | 0 => h
  | m + 1 => by
    show (itM l s (n + m)).bind (stepM l) = (itM l s' m).bind (stepM l)
    rw [itM_add l s s' n h m]
theorem Rch.refl {l : List Nat} {s : Ms} : Rch l s s := ⟨0, rfl⟩
theorem Rch.trans {l : List Nat} {s s1 s2 : Ms} (a : Rch l s s1) (b : Rch l s1 s2) : Rch l s s2 := by
  obtain ⟨n, hn⟩ := a
  obtain ⟨m, hm⟩ := b
  exact ⟨n + m, (itM_add l s s1 n hn m).trans hm⟩
theorem Rch.step {l : List Nat} {s s1 : Ms} (h : stepM l s = some s1) : Rch l s s1 := ⟨1, h⟩
theorem itM_dead {l : List Nat} {s s' : Ms} {n : Nat} (h : itM l s n = some s') (d : stepM l s' = none) : ∀ m, itM l s (n + 1 + m) = none
  | 0 => by
    show (itM l s n).bind (stepM l) = none
    rw [h]
    exact d
  | m + 1 => by
    show (itM l s (n + 1 + m)).bind (stepM l) = none
    rw [itM_dead h d m]
    rfl
/-- where it is stuck is told -/
theorem Rch.stuck {l : List Nat} {s s1 s2 : Ms} (a : Rch l s s1) (b : Rch l s s2) (h1 : stepM l s1 = none) (h2 : stepM l s2 = none) : s1 = s2 := by
  obtain ⟨n, hn⟩ := a
  obtain ⟨m, hm⟩ := b
  rcases Nat.lt_trichotomy n m with z | z | z
  · have := itM_dead hn h1 (m - (n + 1))
    rw [show n + 1 + (m - (n + 1)) = m by omega, hm] at this
    cases this
  · subst z
    rw [hn] at hm
    exact Option.some.inj hm
  · have := itM_dead hm h2 (n - (m + 1))
    rw [show m + 1 + (n - (m + 1)) = n by omega, hn] at this
    cases this
/-! ### it reads what is a term -/
theorem nmOf_wf {n s : List Nat} (h : bigN n = true ∨ leafN n = true) (hs : ∀ c, s.head? = some c → alnC c = false) : nmOf (n ++ s) = n := by
  have key : (∀ c ∈ n, alnC c = true) → n ≠ [] → n.head? ≠ some 95 → nmOf (n ++ s) = n := fun ha hne h95 => by
    unfold nmOf
    have e1 : (n ++ s).head? = n.head? := by
      cases n with
      | nil => exact absurd rfl hne
      | cons c r => rfl
    rw [e1, if_neg h95, tw_stop ha hs]
    have : (bigN n || leafN n) = true := by
      rcases h with z | z
      · rw [z]; rfl
      · rw [z, Bool.or_true]
    rw [if_pos this]
  rcases h with z | z
  · refine key (big_aln z) (big_ne z) ?_
    intro e
    cases n with
    | nil => cases e
    | cons c r =>
      have e' : c = 95 := Option.some.inj e
      have := big_aln z c List.mem_cons_self
      rw [e'] at this
      cases this
  · rcases leaf_cases z with e | ⟨c, e, hd⟩
    · rw [e]
      rfl
    · subst e
      refine key (fun x hx => by rw [List.mem_singleton.mp hx]; exact dig_aln hd) (List.cons_ne_nil _ _) ?_
      intro e
      have e' : c = 95 := Option.some.inj e
      rw [e'] at hd
      cases hd
theorem drop_app {l a b : List Nat} {i : Nat} (h : l.drop i = a ++ b) : l.drop (i + a.length) = b := by
  rw [← List.drop_drop, h, List.drop_left]
theorem take2 {a b : Nat} {s : List Nat} : (a :: b :: s).take 2 = [a, b] := rfl
mutual
theorem reads : ∀ (t : Tr), wf t = true → ∀ (l : List Nat) (stk : List (List Nat × List Tr)) (i : Nat) (s : List Nat), l.drop i = tm t ++ s → endR s → Rch l ⟨stk, none, i⟩ ⟨stk, some t, i + (tm t).length⟩
  | .nd n ks, hw, l, stk, i, s, hl, hs => by
    have hc := name_cases hw
    have hw' := hw
    rw [wf] at hw'
    obtain ⟨h3, h4⟩ := Bool.and_eq_true_iff.mp (Bool.and_eq_true_iff.mp hw').2
    cases ks with
    | nil =>
      rw [tm_leaf] at hl ⊢
      have hn : nmOf (l.drop i) = n := by
        rw [hl]
        exact nmOf_wf (hc.imp id fun z => z.1) (endR_aln hs)
      have ne : n ≠ [] := by
        rcases hc with z | z
        · exact big_ne z
        · intro e
          rw [e] at z
          cases z.1
      refine Rch.step ?_
      rw [stepM_n, hn, if_neg ne, if_neg]
      rintro ⟨_, h⟩
      rw [drop_app hl] at h
      rcases hs with z | z | z <;> rw [z] at h <;> cases h
    | cons k r =>
      have hb : bigN n = true := by
        rcases hc with z | z
        · exact z
        · cases z.2
      rw [tm_node] at hl ⊢
      have hl' : l.drop i = n ++ (40 :: (jn (tms (k :: r)) ++ 41 :: s)) := by
        rw [hl]
        simp
      have hn : nmOf (l.drop i) = n := by
        rw [hl']
        exact nmOf_wf (.inl hb) fun c e => by cases e; rfl
      have d1 := drop_app hl'
      have st : Rch l ⟨stk, none, i⟩ ⟨(n, []) :: stk, none, i + n.length + 1⟩ := by
        refine Rch.step ?_
        rw [stepM_n, hn, if_neg (big_ne hb), if_pos ⟨hb, by rw [d1]; rfl⟩]
      have d2 : l.drop (i + n.length + 1) = jn (tms (k :: r)) ++ 41 :: s := by
        rw [← List.drop_drop, d1]
        rfl
      have fin := readsL (k :: r) h4 l n [] stk (i + n.length + 1) s d2 (by have := Nat.le_of_ble_eq_true h3; simpa using this) (List.cons_ne_nil _ _)
      rw [List.nil_append] at fin
      have e : i + (n ++ 40 :: (jn (tms (k :: r)) ++ [41])).length = i + n.length + 1 + (jn (tms (k :: r))).length + 1 := by
        simp
        omega
      rw [e]
      exact st.trans fin
theorem readsL : ∀ (ks : List Tr), wfs ks = true → ∀ (l n : List Nat) (ps : List Tr) (stk : List (List Nat × List Tr)) (i : Nat) (s : List Nat), l.drop i = jn (tms ks) ++ 41 :: s → ps.length + ks.length ≤ 3 → ks ≠ [] →
    Rch l ⟨(n, ps) :: stk, none, i⟩ ⟨stk, some (.nd n (ps ++ ks)), i + (jn (tms ks)).length + 1⟩
  | [], _, _, _, _, _, _, _, _, _, ne => absurd rfl ne
  | k :: r, hw, l, n, ps, stk, i, s, hl, h3, _ => by
    rw [wfs] at hw
    obtain ⟨h1, h2⟩ := Bool.and_eq_true_iff.mp hw
    have rr := readsL r h2
    cases r with
    | nil =>
      rw [tms, tms, jn] at hl ⊢
      have a := reads k h1 l ((n, ps) :: stk) i (41 :: s) hl (.inr (.inl rfl))
      refine a.trans (Rch.step ?_)
      rw [stepM_s, drop_app hl, if_pos (show (41 :: s).head? = some 41 from rfl)]
    | cons k2 r2 =>
      have e : jn (tms (k :: k2 :: r2)) = tm k ++ 44 :: 32 :: jn (tms (k2 :: r2)) := by rw [tms, tms, jn]
      rw [e] at hl ⊢
      have hl' : l.drop i = tm k ++ (44 :: 32 :: (jn (tms (k2 :: r2)) ++ 41 :: s)) := by
        rw [hl]
        simp
      have a := reads k h1 l ((n, ps) :: stk) i _ hl' (.inr (.inr rfl))
      have d1 := drop_app hl'
      have d2 : l.drop (i + (tm k).length + 2) = jn (tms (k2 :: r2)) ++ 41 :: s := by
        rw [← List.drop_drop, d1]
        rfl
      have b : Rch l ⟨(n, ps) :: stk, some k, i + (tm k).length⟩ ⟨(n, ps ++ [k]) :: stk, none, i + (tm k).length + 2⟩ := by
        refine Rch.step ?_
        have h4 : ps.length + (r2.length + 1 + 1) ≤ 3 := h3
        rw [stepM_s, d1, if_neg (show ¬ (44 :: 32 :: (jn (tms (k2 :: r2)) ++ 41 :: s)).head? = some 41 from fun z => nomatch (show some 44 = some 41 from z)), if_pos ⟨rfl, by omega⟩]
      have c := rr l n (ps ++ [k]) stk (i + (tm k).length + 2) s d2 (by
        rw [List.length_append]
        have : ps.length + (r2.length + 1 + 1) ≤ 3 := h3
        show ps.length + 1 + (r2.length + 1) ≤ 3
        omega) (List.cons_ne_nil _ _)
      rw [List.append_assoc] at c
      have e2 : i + (tm k ++ 44 :: 32 :: jn (tms (k2 :: r2))).length + 1 = i + (tm k).length + 2 + (jn (tms (k2 :: r2))).length + 1 := by
        simp
        omega
      rw [e2]
      exact (a.trans b).trans c
end
/-- stuck anywhere else: no term -/
theorem no_term {l : List Nat} {s : Ms} (h : Rch l ⟨[], none, 0⟩ s) (hs : stepM l s = none) (ne : ∀ t, s ≠ ⟨[], some t, l.length⟩) : ∀ t, wf t = true → l ≠ tm t := fun t hw e => by
  have a := reads t hw l [] 0 [] (by rw [List.append_nil]; exact e) (.inl rfl)
  rw [Nat.zero_add, ← e] at a
  exact ne t (Rch.stuck h a hs rfl)
/-! ### what it has read -/
def cxt : List (List Nat × List Tr) → List Nat
  | [] => []
  | (n, ps) :: r => cxt r ++ (n ++ 40 :: (ps.flatMap fun p => tm p ++ [44, 32]))
theorem jn_snoc (d : Tr) : ∀ ps : List Tr, (ps.flatMap fun p => tm p ++ [44, 32]) ++ tm d = jn (tms (ps ++ [d]))
  | [] => by
    show [] ++ tm d = jn (tms [d])
    rw [tms, tms, jn]
    rfl
  | p :: r => by
    have ih := jn_snoc d r
    rw [List.flatMap_cons, List.append_assoc, ih]
    show _ = jn (tms (p :: (r ++ [d])))
    rw [tms]
    cases e : r ++ [d] with
    | nil => cases r <;> cases e
    | cons k q =>
      rw [tms, jn]
      simp
structure SOk (l : List Nat) (s : Ms) : Prop where
  frames : ∀ f ∈ s.stk, bigN f.1 = true ∧ wfs f.2 = true ∧ f.2.length ≤ 2
  dwf : ∀ d, s.done = some d → wf d = true
  pre : l.take s.pos = cxt s.stk ++ (match s.done with | some d => tm d | none => [])
  le : s.pos ≤ l.length
/-- the room that terms take -/
theorem bigN_pos {n : List Nat} (h : bigN n = true) : 0 < n.length := by
  cases n with
  | nil => cases h
  | cons c r => exact Nat.succ_pos _
mutual
theorem tm_room : ∀ t : Tr, wf t = true → 3 * sz t ≤ (tm t).length + 2
  | .nd n ks, hw => by
    have hc := name_cases hw
    have hw' := hw
    rw [wf] at hw'
    obtain ⟨h3, h4⟩ := Bool.and_eq_true_iff.mp (Bool.and_eq_true_iff.mp hw').2
    have hn : 0 < n.length := by
      rcases hc with z | z
      · exact bigN_pos z
      · rw [leafN_len z.1]
        decide
    cases ks with
    | nil =>
      rw [tm_leaf, sz, szs]
      omega
    | cons k r =>
      have ih := tms_room (k :: r) h4 (List.cons_ne_nil _ _)
      rw [tm_node, sz, List.length_append, List.length_cons, List.length_append]
      show _ ≤ n.length + ((jn (tms (k :: r))).length + 1 + 1) + 2
      omega
theorem tms_room : ∀ ks : List Tr, wfs ks = true → ks ≠ [] → 3 * szs ks ≤ (jn (tms ks)).length + 2
  | [], _, n => absurd rfl n
  | k :: r, h, _ => by
    rw [wfs] at h
    obtain ⟨h1, h2⟩ := Bool.and_eq_true_iff.mp h
    have a := tm_room k h1
    have b := tms_room r h2
    cases r with
    | nil =>
      rw [tms, tms, jn, szs, szs]
      omega
    | cons k2 r2 =>
      have b := b (List.cons_ne_nil _ _)
      rw [tms, szs]
      rw [tms] at b ⊢
      rw [jn, List.length_append, List.length_cons, List.length_cons]
      omega
end
theorem SOk.start (l : List Nat) : SOk l ⟨[], none, 0⟩ := ⟨(fun f h => nomatch h), (fun d h => nomatch h), rfl, Nat.zero_le _⟩
theorem SOk.room {l : List Nat} {stk : List (List Nat × List Tr)} {d : Tr} {i : Nat} (h : SOk l ⟨stk, some d, i⟩) : 3 * sz d ≤ l.length + 2 := by
  have a := tm_room d (h.dwf d rfl)
  have b := congrArg List.length h.pre
  have c := h.le
  rw [List.length_take, List.length_append] at b
  show 3 * sz d ≤ l.length + 2
  dsimp only at b c
  omega
theorem SOk.fin {l : List Nat} {d : Tr} {i : Nat} (h : SOk l ⟨[], some d, i⟩) (hi : l.length ≤ i) : l = tm d := by
  have b := h.pre
  dsimp only at b
  rw [List.take_of_length_le hi] at b
  exact b
theorem nmOf_pre (s : List Nat) (h : nmOf s ≠ []) : (bigN (nmOf s) = true ∨ leafN (nmOf s) = true) ∧ ∃ r, s = nmOf s ++ r := by
  unfold nmOf at h ⊢
  by_cases e : s.head? = some 95
  · rw [if_pos e]
    refine ⟨.inr rfl, ?_⟩
    cases s with
    | nil => cases e
    | cons c r =>
      have e' : c = 95 := Option.some.inj e
      rw [e']
      exact ⟨r, rfl⟩
  · rw [if_neg e] at h ⊢
    by_cases z : (bigN (s.takeWhile alnC) || leafN (s.takeWhile alnC)) = true
    · rw [if_pos z]
      exact ⟨Bool.or_eq_true_iff.mp z, _, tw_pre s⟩
    · rw [if_neg z] at h
      exact absurd rfl h
theorem take_more {l a r : List Nat} {i : Nat} (h : l.drop i = a ++ r) : l.take (i + a.length) = l.take i ++ a := by
  rw [List.take_add, h, List.take_left]
theorem le_more {l a r : List Nat} {i : Nat} (h : l.drop i = a ++ r) (hi : i ≤ l.length) : i + a.length ≤ l.length := by
  have := congrArg List.length h
  rw [List.length_drop, List.length_append] at this
  omega
theorem head_cons {s : List Nat} {c : Nat} (h : s.head? = some c) : ∃ r, s = [c] ++ r := by
  cases s with
  | nil => cases h
  | cons x r =>
    rw [show x = c from Option.some.inj h]
    exact ⟨r, rfl⟩
theorem take2_cons {s : List Nat} {a b : Nat} (h : s.take 2 = [a, b]) : ∃ r, s = [a, b] ++ r := ⟨s.drop 2, by rw [← h, List.take_append_drop]⟩
/-- the state stays right, and the place grows -/
theorem SOk.step {l : List Nat} {s s' : Ms} (h : SOk l s) (e : stepM l s = some s') : SOk l s' ∧ s.pos < s'.pos := by
  obtain ⟨stk, done, i⟩ := s
  cases done with
  | none =>
    rw [stepM_n] at e
    by_cases h0 : nmOf (l.drop i) = []
    · rw [if_pos h0] at e
      cases e
    · rw [if_neg h0] at e
      obtain ⟨hn, r, hr⟩ := nmOf_pre _ h0
      generalize hnm : nmOf (l.drop i) = nm at h0 hn hr e
      have pos : 0 < nm.length := List.length_pos_iff.mpr h0
      have pre := h.pre
      dsimp only at pre
      rw [List.append_nil] at pre
      by_cases hb : bigN nm = true ∧ (l.drop (i + nm.length)).head? = some 40
      · rw [if_pos hb] at e
        cases e
        obtain ⟨r2, h2⟩ := head_cons hb.2
        refine ⟨⟨fun f hf => ?_, (fun d hd => nomatch hd), ?_, ?_⟩, show i < _ by dsimp only; omega⟩
        · rcases List.mem_cons.mp hf with rfl | hf
          · exact ⟨hb.1, by rw [wfs], Nat.zero_le _⟩
          · exact h.frames f hf
        · show l.take (i + nm.length + 1) = cxt ((nm, []) :: stk) ++ []
          rw [show i + nm.length + 1 = i + nm.length + [40].length from rfl, take_more h2, take_more hr, pre, cxt]
          simp
        · exact le_more h2 (le_more hr h.le)
      · rw [if_neg hb] at e
        cases e
        refine ⟨⟨h.frames, fun d hd => ?_, ?_, le_more hr h.le⟩, show i < _ by dsimp only; omega⟩
        · have : Tr.nd nm [] = d := Option.some.inj hd
          rw [← this, wf, wfs]
          rcases hn with z | z
          · rw [z]; rfl
          · rw [z]
            show ((bigN nm || true) && true) = true
            rw [Bool.or_true]
            rfl
        · show l.take (i + nm.length) = cxt stk ++ tm (.nd nm [])
          rw [take_more hr, pre, tm_leaf]
  | some d =>
    cases stk with
    | nil => cases e
    | cons f r =>
      obtain ⟨n, ps⟩ := f
      rw [stepM_s] at e
      have hd := h.dwf d rfl
      obtain ⟨f1, f2, f3⟩ := h.frames (n, ps) List.mem_cons_self
      have pre : l.take i = cxt ((n, ps) :: r) ++ tm d := h.pre
      have pre2 : l.take i = cxt r ++ (n ++ 40 :: jn (tms (ps ++ [d]))) := by
        rw [pre, cxt, ← jn_snoc]
        simp
      by_cases h1 : (l.drop i).head? = some 41
      · rw [if_pos h1] at e
        cases e
        obtain ⟨r2, h2⟩ := head_cons h1
        refine ⟨⟨fun f hf => h.frames f (List.mem_cons_of_mem _ hf), fun d' hd' => ?_, ?_, le_more h2 h.le⟩, show i < i + 1 by omega⟩
        · have : Tr.nd n (ps ++ [d]) = d' := Option.some.inj hd'
          rw [← this]
          refine bigN_wf f1 ?_ (wfs_snoc hd f2)
          rw [List.length_append]
          show ps.length + 1 ≤ 3
          dsimp only at f3
          omega
        · show l.take (i + [41].length) = cxt r ++ tm (.nd n (ps ++ [d]))
          rw [take_more h2, pre2]
          cases e : ps ++ [d] with
          | nil => cases ps <;> cases e
          | cons k q =>
            rw [tm_node]
            simp
      · rw [if_neg h1] at e
        by_cases h2 : (l.drop i).take 2 = [44, 32] ∧ ps.length + 1 < 3
        · rw [if_pos h2] at e
          cases e
          obtain ⟨r2, h3⟩ := take2_cons h2.1
          refine ⟨⟨fun f hf => ?_, (fun d' hd' => nomatch hd'), ?_, le_more h3 h.le⟩, show i < i + 2 by omega⟩
          · rcases List.mem_cons.mp hf with rfl | hf
            · refine ⟨f1, wfs_snoc hd f2, ?_⟩
              show (ps ++ [d]).length ≤ 2
              rw [List.length_append]
              show ps.length + 1 ≤ 2
              omega
            · exact h.frames f (List.mem_cons_of_mem _ hf)
          · show l.take (i + [44, 32].length) = cxt ((n, ps ++ [d]) :: r) ++ []
            rw [take_more h3, pre, cxt, cxt, List.flatMap_append]
            simp
        · rw [if_neg h2] at e
          cases e
end TW

namespace TW
/-! ## the law's reader: plain Lean -/
def nsep (c : Nat) : Bool := !(c == 32 || c == 40 || c == 41 || c == 44)
def lps (g : List Nat → Option (Tr × List Nat)) : Nat → List Tr → List Nat → Option (List Tr × List Nat)
  | 0, _, _ => none
  | k + 1, ps, s => match g s with
    | none => none
    | some (t, s') => if s'.head? = some 41 then some (ps ++ [t], s'.tail) else if s'.take 2 = [44, 32] then lps g k (ps ++ [t]) (s'.drop 2) else none
def lr : Nat → List Nat → Option (Tr × List Nat)
  | 0, _ => none
  | f + 1, s => if leafN (s.takeWhile nsep) = true then some (.nd (s.takeWhile nsep) [], s.drop (s.takeWhile nsep).length)
    else if bigN (s.takeWhile nsep) = false then none
    else if (s.drop (s.takeWhile nsep).length).head? ≠ some 40 then some (.nd (s.takeWhile nsep) [], s.drop (s.takeWhile nsep).length)
    else (lps (lr f) 3 [] (s.drop (s.takeWhile nsep).length).tail).map fun x => (.nd (s.takeWhile nsep) x.1, x.2)
theorem big_leaf {n : List Nat} (h : bigN n = true) : leafN n = false := by
  match n, h with
  | [], h => cases h
  | [c], h =>
    have z : capC c = true := by
      obtain ⟨h1, _⟩ := Bool.and_eq_true_iff.mp (show (capC c && [].all alnC && Nat.ble ([].length + 1) 8) = true from h)
      exact (Bool.and_eq_true_iff.mp h1).1
    unfold capC at z
    simp only [Bool.and_eq_true, Nat.ble_eq] at z
    show (c == 95 || digC c) = false
    have h1 : c ≠ 95 := by omega
    unfold digC
    have h2 : Nat.ble c 57 = false := by
      cases e : Nat.ble c 57 with
      | false => rfl
      | true =>
        have := Nat.le_of_ble_eq_true e
        omega
    rw [h2]
    simp [h1]
  | _ :: _ :: _, _ => rfl
theorem nsep_aln {c : Nat} (h : alnC c = true) : nsep c = true := by
  unfold alnC capC at h
  simp only [Bool.or_eq_true, Bool.and_eq_true, Nat.ble_eq] at h
  have h1 : c ≠ 32 := by omega
  have h2 : c ≠ 40 := by omega
  have h3 : c ≠ 41 := by omega
  have h4 : c ≠ 44 := by omega
  unfold nsep
  simp [h1, h2, h3, h4]
theorem name_nsep {n : List Nat} (h : bigN n = true ∨ leafN n = true) : ∀ c ∈ n, nsep c = true := by
  intro c hc
  rcases h with z | z
  · exact nsep_aln (big_aln z c hc)
  · rcases leaf_cases z with e | ⟨x, e, hd⟩
    · rw [e] at hc
      rw [List.mem_singleton.mp hc]
      rfl
    · rw [e] at hc
      rw [List.mem_singleton.mp hc]
      exact nsep_aln (dig_aln hd)
theorem endR_nsep {s : List Nat} (h : endR s) : ∀ c, s.head? = some c → nsep c = false := by
  intro c e
  rcases h with z | z | z
  · rw [z] at e; cases e
  · rw [z] at e; cases e; rfl
  · rw [z] at e; cases e; rfl
abbrev pc (l : List Nat) : Nat := l.countP (· == 40)
theorem pc_mid (a b : List Nat) : pc (a ++ b) = pc a + pc b := List.countP_append
mutual
theorem lr_tm : ∀ (t : Tr), wf t = true → ∀ (f : Nat) (s : List Nat), pc (tm t) < f → endR s → lr f (tm t ++ s) = some (t, s)
  | .nd n ks, hw, 0, s, hf, hs => absurd hf (Nat.not_lt_zero _)
  | .nd n ks, hw, f + 1, s, hf, hs => by
    have hc := name_cases hw
    have hw' := hw
    rw [wf] at hw'
    obtain ⟨h3, h4⟩ := Bool.and_eq_true_iff.mp (Bool.and_eq_true_iff.mp hw').2
    have hc' : bigN n = true ∨ leafN n = true := hc.imp id fun z => z.1
    cases ks with
    | nil =>
      rw [tm_leaf]
      rw [lr, tw_stop (name_nsep hc') (endR_nsep hs), List.drop_left]
      by_cases hl : leafN n = true
      · rw [if_pos hl]
      · rw [if_neg hl]
        have hb : bigN n = true := by
          rcases hc' with z | z
          · exact z
          · exact absurd z hl
        rw [if_neg (by rw [hb]; decide), if_pos]
        intro z
        rcases hs with y | y | y <;> rw [y] at z <;> cases z
    | cons k r =>
      have hb : bigN n = true := by
        rcases hc with z | z
        · exact z
        · cases z.2
      rw [tm_node] at hf ⊢
      have e1 : n ++ 40 :: (jn (tms (k :: r)) ++ [41]) ++ s = n ++ (40 :: (jn (tms (k :: r)) ++ 41 :: s)) := by simp
      have e2 : pc (jn (tms (k :: r))) < f := by
        rw [pc_mid, pc, pc, List.countP_cons, List.countP_append] at hf
        have e40 : ((40 == 40) = true) := rfl
        rw [if_pos e40] at hf
        show List.countP _ _ < f
        omega
      rw [e1, lr, tw_stop (name_nsep (.inl hb)) (fun c e => by cases e; rfl), List.drop_left, if_neg (by rw [big_leaf hb]; decide), if_neg (by rw [hb]; decide), if_neg (fun z => z rfl)]
      show Option.map _ (lps (lr f) 3 [] (jn (tms (k :: r)) ++ 41 :: s)) = _
      rw [lps_tm (k :: r) h4 f 3 [] s e2 (by have := Nat.le_of_ble_eq_true h3; exact this) (List.cons_ne_nil _ _)]
      rfl
theorem lps_tm : ∀ (ks : List Tr), wfs ks = true → ∀ (f m : Nat) (ps : List Tr) (s : List Nat), pc (jn (tms ks)) < f → ks.length ≤ m → ks ≠ [] → lps (lr f) m ps (jn (tms ks) ++ 41 :: s) = some (ps ++ ks, s)
  | [], _, _, _, _, _, _, _, ne => absurd rfl ne
  | k :: r, hw, f, 0, ps, s, hf, hm, _ => absurd hm (Nat.not_succ_le_zero _)
  | k :: r, hw, f, m + 1, ps, s, hf, hm, _ => by
    rw [wfs] at hw
    obtain ⟨h1, h2⟩ := Bool.and_eq_true_iff.mp hw
    have rr := lps_tm r h2 f m
    cases r with
    | nil =>
      rw [tms, tms, jn] at hf ⊢
      rw [lps, lr_tm k h1 f (41 :: s) hf (.inr (.inl rfl))]
      show (if (41 :: s).head? = some 41 then _ else _) = _
      rw [if_pos (show (41 :: s).head? = some 41 from rfl)]
      rfl
    | cons k2 r2 =>
      have e : jn (tms (k :: k2 :: r2)) = tm k ++ 44 :: 32 :: jn (tms (k2 :: r2)) := by rw [tms, tms, jn]
      rw [e] at hf ⊢
      have e1 : tm k ++ 44 :: 32 :: jn (tms (k2 :: r2)) ++ 41 :: s = tm k ++ (44 :: 32 :: (jn (tms (k2 :: r2)) ++ 41 :: s)) := by simp
      have e2 : pc (tm k) < f ∧ pc (jn (tms (k2 :: r2))) < f := by
        rw [pc_mid, pc, pc, List.countP_cons, List.countP_cons] at hf
        constructor
        · show List.countP _ _ < f
          omega
        · show List.countP _ _ < f
          omega
      rw [e1, lps, lr_tm k h1 f _ e2.1 (.inr (.inr rfl))]
      show (if (44 :: 32 :: (jn (tms (k2 :: r2)) ++ 41 :: s)).head? = some 41 then _ else _) = _
      rw [if_neg (show ¬ (44 :: 32 :: (jn (tms (k2 :: r2)) ++ 41 :: s)).head? = some 41 from fun z => nomatch (show some 44 = some 41 from z))]
      rw [if_pos (show (44 :: 32 :: (jn (tms (k2 :: r2)) ++ 41 :: s)).take 2 = [44, 32] from rfl)]
      show lps (lr f) m (ps ++ [k]) (jn (tms (k2 :: r2)) ++ 41 :: s) = _
      rw [rr (ps ++ [k]) s e2.2 (Nat.le_of_succ_le_succ hm) (List.cons_ne_nil _ _), List.append_assoc]
      rfl
end
theorem lps_ok {g : List Nat → Option (Tr × List Nat)} (hg : ∀ s t s', g s = some (t, s') → wf t = true ∧ s = tm t ++ s') : ∀ (m : Nat) (ps : List Tr) (s : List Nat) (qs : List Tr) (s' : List Nat), lps g m ps s = some (qs, s') →
    ∃ ks, ks ≠ [] ∧ qs = ps ++ ks ∧ wfs ks = true ∧ s = jn (tms ks) ++ 41 :: s' ∧ ks.length ≤ m
  | 0, _, _, _, _, h => by cases h
  | m + 1, ps, s, qs, s', h => by
    rw [lps] at h
    cases e : g s with
    | none => rw [e] at h; cases h
    | some x =>
      obtain ⟨t, s1⟩ := x
      rw [e] at h
      obtain ⟨hw, hs⟩ := hg s t s1 e
      replace h : (if s1.head? = some 41 then some (ps ++ [t], s1.tail) else if s1.take 2 = [44, 32] then lps g m (ps ++ [t]) (s1.drop 2) else none) = some (qs, s') := h
      by_cases h1 : s1.head? = some 41
      · rw [if_pos h1] at h
        cases h
        obtain ⟨r, hr⟩ := head_cons h1
        refine ⟨[t], List.cons_ne_nil _ _, rfl, by rw [wfs, wfs, hw]; rfl, ?_, Nat.succ_le_succ (Nat.zero_le _)⟩
        rw [hs, hr, tms, tms, jn]
        rfl
      · rw [if_neg h1] at h
        by_cases h2 : s1.take 2 = [44, 32]
        · rw [if_pos h2] at h
          obtain ⟨ks, k1, k2, k3, k4, k5⟩ := lps_ok hg m (ps ++ [t]) (s1.drop 2) qs s' h
          refine ⟨t :: ks, List.cons_ne_nil _ _, by rw [k2, List.append_assoc]; rfl, by rw [wfs, hw, k3]; rfl, ?_, Nat.succ_le_succ k5⟩
          have e1 : s1 = 44 :: 32 :: s1.drop 2 := by
            obtain ⟨r, hr⟩ := take2_cons h2
            rw [hr]
            rfl
          cases ks with
          | nil => exact absurd rfl k1
          | cons k r =>
            rw [tms, hs, e1, k4]
            conv => rhs; rw [tms, jn]
            simp [tms]
        · rw [if_neg h2] at h
          cases h
theorem lr_ok : ∀ (f : Nat) (s : List Nat) (t : Tr) (s' : List Nat), lr f s = some (t, s') → wf t = true ∧ s = tm t ++ s'
  | 0, _, _, _, h => by cases h
  | f + 1, s, t, s', h => by
    rw [lr] at h
    have pre := tw_pre (p := nsep) s
    generalize s.takeWhile nsep = n at h pre
    generalize s.drop n.length = r at h pre
    by_cases h1 : leafN n = true
    · rw [if_pos h1] at h
      cases h
      refine ⟨Grew.leaf_ h1, ?_⟩
      rw [tm_leaf]
      exact pre
    · rw [if_neg h1] at h
      by_cases h2 : bigN n = false
      · rw [if_pos h2] at h
        cases h
      · rw [if_neg h2] at h
        have hb : bigN n = true := by
          cases z : bigN n with
          | true => rfl
          | false => exact absurd z h2
        by_cases h3 : r.head? ≠ some 40
        · rw [if_pos h3] at h
          cases h
          refine ⟨bigN_wf hb (Nat.zero_le _) (by rw [wfs]), ?_⟩
          rw [tm_leaf]
          exact pre
        · rw [if_neg h3] at h
          cases e : lps (lr f) 3 [] r.tail with
          | none => rw [e] at h; cases h
          | some x =>
            obtain ⟨qs, s1⟩ := x
            rw [e] at h
            cases h
            obtain ⟨ks, k1, k2, k3, k4, k5⟩ := lps_ok (lr_ok f) 3 [] r.tail qs s1 e
            rw [List.nil_append] at k2
            subst k2
            refine ⟨bigN_wf hb k5 k3, ?_⟩
            obtain ⟨r2, hr⟩ := head_cons (Classical.byContradiction fun z => h3 z)
            rw [hr] at k4 pre
            cases qs with
            | nil => exact absurd rfl k1
            | cons k q =>
              rw [tm_node, pre, show ([40] ++ r2 : List Nat) = 40 :: r2 from rfl, show r2 = jn (tms (k :: q)) ++ 41 :: s1 from k4]
              simp
/-- a term has one tree -/
theorem tm_inj {t u : Tr} (ht : wf t = true) (hu : wf u = true) (e : tm t = tm u) : t = u := by
  have a := lr_tm t ht (pc (tm t) + 1) [] (Nat.lt_succ_self _) (.inl rfl)
  have b := lr_tm u hu (pc (tm u) + 1) [] (Nat.lt_succ_self _) (.inl rfl)
  rw [e, b] at a
  exact (congrArg Prod.fst (Option.some.inj a)).symm
end TW

namespace TW
open PySem PySem.Spec PyProof.Rows L2
/-! ### for in a generator's body -/
section
variable {M : Model} {A : Around} {R : GenEnd} {Y : Protocol} {n : Nat} {s₀ : Shared} {c : Code} {fs : List Frame} {s : Shared} {env : Env} {K : Flow → Sem PySem.Fin} {J : Value → Sem PySem.Fin} {gd : Bool → Bool} {lv : List Value → List Value}
theorem sg_for {tg iter : Expr} {body : List Stmt} {pos : Pos} (hs : ∀ x, foldedSetIterable iter env x = pure x)
    (h : wpAny M (A.over c fs) (eval iter env) (fun v s1 => wpAny M (A.over c fs) (pyIter v) (fun itv s2 => ∀ p, Seg M A R Y n s₀ (.forLoop tg itv body [] env) (M.den (.forLoop tg itv body [] env))
      (.ret (fun r => ((match r with | .ok f => (.pure f : Sem Flow) | .error e => .raise e).onRaise (cameBack env)).wrap K J gd lv) none (gd false) (lv []) c p [] :: fs) s2)
      (fun x s' => Seg M A R Y n s₀ c (J x) fs s') s1) (fun x s' => Seg M A R Y n s₀ c (J x) fs s') s) :
    Seg M A R Y n s₀ c ((exec (.For tg iter body [] pos) env).wrap K J gd lv) fs s := by
  rw [exec_For]
  refine seg_bind_wrap (wpAny_standAt ?_)
  refine seg_bind_wrap (wpAny_mono h (fun v s1 h1 => ?_) fun _ _ z => z)
  refine seg_bind_wrap (wpAny_of_eq (hs v) ?_)
  refine seg_bind_wrap (wpAny_standAt ?_)
  refine seg_bind_wrap (wpAny_holding (wpAny_mono h1 (fun itv s2 h2 => ?_) fun _ _ z => z))
  exact seg_call h2
end
section
variable {prog : Program} {w : World} {A : Around} {R : GenEnd} {Y : Protocol} {n : Nat} {s₀ : Shared} {fs : List Frame} {s : Shared} {env : Env}
/-- what is done with an exception in the loop's code -/
abbrev lotGoes (env : Env) (x : Value) : Sem PySem.Fin := (do noteFrame x env; theTreesLotGoes x : Sem Unit).wrap (fun _ => .raise x) .raise id id
theorem sg_turn {tg : Expr} {it : Value} {body : List Stmt}
    (h : wpAny (model prog w) (A.over (.forLoop tg it body [] env) fs) (pyNext it) (fun r s1 => match r with
      | none => Seg (model prog w) A R Y n s₀ (.forLoop tg it body [] env) (.pure (.again (.block [] env))) fs s1
      | some v => wpAny (model prog w) (A.over (.forLoop tg it body [] env) fs) (letOwnedTupleGo tg it v) (fun _ s2 => wpAny (model prog w) (A.over (.forLoop tg it body [] env) fs) (assign tg env v) (fun _ s3 =>
          Seg (model prog w) A R Y n s₀ (.forLoop tg it body [] env) ((execs body env).wrap (fun f => match f with
            | .next | .cont => .pure (.again (.forLoop tg it body [] env))
            | .brk => .pure (.done .next)
            | .ret v => .pure (.done (.ret v))) (lotGoes env) id id) fs s3)
          (fun x s' => Seg (model prog w) A R Y n s₀ (.forLoop tg it body [] env) (lotGoes env x) fs s') s2) (fun x s' => Seg (model prog w) A R Y n s₀ (.forLoop tg it body [] env) (lotGoes env x) fs s') s1)
      (fun x s' => Seg (model prog w) A R Y n s₀ (.forLoop tg it body [] env) (lotGoes env x) fs s') s) :
    Seg (model prog w) A R Y n s₀ (.forLoop tg it body [] env) ((model prog w).den (.forLoop tg it body [] env)) fs s := by
  show Seg _ A R Y n s₀ _ ((forTurn tg it body [] env).onRaise (fun x => do noteFrame x env; theTreesLotGoes x)) fs s
  have eH : ∀ e : Value, (do noteFrame e env; theTreesLotGoes e : Sem Unit).bind (fun _ => (.raise e : Sem PySem.Fin)) = lotGoes env e := fun e => Sem.bind_eq_wrap _ _
  rw [Sem.onRaise_eq_wrap]
  unfold forTurn
  refine seg_bind_wrap (wpAny_standAt ?_)
  refine seg_bind_wrap (wpAny_onRaise (wpAny_mono h (fun r s1 h1 => ?_) fun x s' hx => wpAny_standAt (by rw [eH]; exact hx)))
  cases r with
  | none => exact h1
  | some v =>
    refine seg_bind_wrap (wpAny_mono h1 (fun _ s2 h2 => ?_) fun x s' hx => by rw [eH]; exact hx)
    refine seg_bind_wrap (wpAny_mono h2 (fun _ s3 h3 => ?_) fun x s' hx => by rw [eH]; exact hx)
    rw [Sem.bind_eq_wrap', Sem.wrap_wrap]
    refine Eq.mpr (congrArg (fun t => Seg (model prog w) A R Y n s₀ (.forLoop tg it body [] env) t fs s3) (Sem.wrap_congr (execs body env) (fun g => id (id g)) (fun l => id (id l)) (K' := fun f => match f with
            | .next | .cont => .pure (.again (.forLoop tg it body [] env))
            | .brk => .pure (.done .next)
            | .ret v => .pure (.done (.ret v))) (H' := lotGoes env) (fun f => ?_) (fun e => ?_))) h3
    · cases f <;> rfl
    · exact eH e
theorem sg_block (h : Seg (model prog w) A R Y n s₀ (.block [] env) (.pure (.done .next)) fs s) : Seg (model prog w) A R Y n s₀ (.block [] env) ((model prog w).den (.block [] env)) fs s := h
end
section
variable {X : Cx}
def tGFor (wi : TI) (g : TG) (tb : TGn) : TGn := fun D ys σ H => wi σ H fun J H1 => ∃ W : Nat → Nat → List V → L2.St → Hp → Prop, (∃ m, W 0 m ys σ H1) ∧ ∀ i m ys σ H, W i m ys σ H →
  (J.stop i H ∧ D.nx ys σ H) ∨ (J.go i H ∧ ∃ N : List V → L2.St → Hp → Prop, (∀ ys' σ' H', N ys' σ' H' → ∃ m', m' < m ∧ W (i + 1) m' ys' σ' H') ∧ ∀ x H', J.yld i H x H' → g x σ H' fun σ2 H2 => tb { D with nx := N, ct := N, bk := D.nx } ys σ2 H2)
theorem gs_for {tg iter : Expr} {body : List Stmt} {pos : Pos} {wi : TI} {g : TG} {tb : TGn} (hp : PassesOwn (model X.prog X.w) X.A X.env X.xe) (hc : X.calm = true) (hi : PI X tg iter wi) (hg : PG X tg g) (hb : GSs X body tb)
    (hs : ∀ x, foldedSetIterable iter X.env x = pure x := by intro _; rfl) : GS X (.For tg iter body [] pos) (tGFor wi g tb) := by
  refine ⟨fun A S ip R n ys s₀ c fs K J gd lv s σ H D gc hn k hI ht => ?_⟩
  obtain ⟨acc, cc, r, I⟩ := hI
  refine sg_for hs ?_
  rw [gc.over]
  refine wpAny_mono (hi.run _ s σ H _ I ht) (fun v s1 h1 => wpAny_mono h1 (fun itv s2 h2 => ?_) fun x s' hx => k.exc n s₀ x s' hx) fun x s' hx => k.exc n s₀ x s' hx
  obtain ⟨it, fp, tn, Jt, H2, e, I2, T, st2, f2, W, ⟨m0, w0⟩, turn⟩ := h2
  subst e
  intro p
  have gl := fun (kk : Result → Sem PySem.Fin) => gc_loop (k := kk) (c' := .forLoop tg (.ref it) body [] X.env) (l := lv []) (kp := []) (p := p) gc rfl rfl
  -- the iterator's objects are none of the consumer's, none that are pinned
  have fpS : ∀ b ∈ fp, b ≠ S := fun b hb z => by
    have := (f2 b hb).2.2.2.2.2 (S, lstObj acc cc) (List.mem_append_right _ List.mem_cons_self)
    exact this z.symm
  have stat : ∀ {acc' : Array Value} {cc' : Nat} {H' : Hp}, (∀ b ∈ fp, H' b = none) → ∀ b ∈ fp, FpOk X ((S, lstObj acc' cc') :: ip) H' b := fun {acc' cc' H'} hn b hb => by
    obtain ⟨_, q1, q2, q3, q4, q5⟩ := f2 b hb
    refine ⟨hn b hb, q1, q2, q3, q4, fun z hz => ?_⟩
    rcases List.mem_append.mp hz with hz | hz
    · exact q5 z (List.mem_append_left _ hz)
    rcases List.mem_cons.mp hz with hz | hz
    · rw [hz]
      exact (fpS b hb).symm
    · exact q5 z (List.mem_append_right _ (List.mem_cons_of_mem _ hz))
  have ipS : ∀ (h : Heap), ∀ z ∈ ip ++ pinsAt fp h, z.1 ≠ S := fun h z hz => by
    rcases List.mem_append.mp hz with hz | hz
    · exact gc.ip z hz
    · exact fpS _ (of_pinsAt hz).1
  have ee : ∀ (n : Nat) (s₀ : Shared) (x : Value) (s' : Shared), X.xe x s' → Seg (model X.prog X.w) A R (GY X S) n s₀ (.forLoop tg (.ref it) body [] X.env) (lotGoes X.env x)
      (.ret (fun r => ((match r with | .ok f => (.pure f : Sem Flow) | .error e => .raise e).onRaise (cameBack X.env)).wrap K J gd lv) none (gd false) (lv []) c p [] :: fs) s' := fun n s₀ x s' hx => by
    refine seg_wrap ?_
    rw [(gl _).over]
    refine wpAny_bind (wpAny_mono (hp x s' hx) (fun _ s'' hcb => wpAny_theTreesLotGoes ?_) fun y s'' hcb => ?_)
    · exact seg_leaf (.error x) (seg_cameBack gc k hcb)
    · exact seg_leaf (.error y) (seg_cameBack gc k hcb)
  have loop : ∀ (m i n : Nat) (ys : List V) (s₀ s : Shared) (σ : L2.St) (H : Hp), n + ys.length = sizeLine → W i m ys σ H → GI X S ip ys σ H s → tn i s.heap → (∀ b ∈ fp, H b = none) →
      Seg (model X.prog X.w) A R (GY X S) n s₀ (.forLoop tg (.ref it) body [] X.env) ((model X.prog X.w).den (.forLoop tg (.ref it) body [] X.env))
        (.ret (fun r => ((match r with | .ok f => (.pure f : Sem Flow) | .error e => .raise e).onRaise (cameBack X.env)).wrap K J gd lv) none (gd false) (lv []) c p [] :: fs) s := by
    intro m
    induction m using Nat.strongRecOn with
    | ind m ih =>
      intro i n ys s₀ s σ H hn w hI st fr
      obtain ⟨acc3, cc3, r3, I3⟩ := hI
      refine sg_turn ?_
      rw [(gl _).over]
      rcases turn i m ys σ H w with ⟨stop, qn⟩ | ⟨go, N, hN, step⟩
      · refine wpAny_mono (T.done X rfl rfl rfl hc i _ s σ H X.xe I3 (stat fr) st stop) (fun r s4 z => ?_) fun x s' hx => ee n s₀ x s' hx
        obtain ⟨hr, I4⟩ := z
        subst hr
        exact seg_again rfl (sg_block (seg_leaf (.ok .next) (k.ok n ys s₀ s4 .next hn ⟨σ, H, ⟨acc3, cc3, r3, I4⟩, qn⟩)))
      · refine wpAny_mono (T.item X rfl rfl rfl hc i _ s σ H X.xe I3 (stat fr) st go) (fun r s4 z => ?_) fun x s' hx => ee n s₀ x s' hx
        obtain ⟨u, hr, h4⟩ := z
        subst hr
        refine wpAny_mono h4 (fun _ s5 z => ?_) fun x s' hx => ee n s₀ x s' hx
        obtain ⟨x, H5, I5, r5, y5, st5, fr5⟩ := z
        have I5' := I5.pinned (stat fr5) (T.obj _ _ st5)
        refine wpAny_mono (hg.run _ s5 σ H5 x u _ I5' r5 (step x H5 y5)) (fun _ s6 z => ?_) fun x s' hx => ee n s₀ x s' hx
        obtain ⟨σ6, H6, I6, q6⟩ := z
        have back : ∀ {ys7 : List V} {σ7 : L2.St} {H7 : Hp} {s7 : Shared}, GI X S (ip ++ pinsAt fp s5.heap) ys7 σ7 H7 s7 → GI X S ip ys7 σ7 H7 s7 ∧ tn (i + 1) s7.heap ∧ ∀ b ∈ fp, H7 b = none := fun {ys7 σ7 H7 s7} g7 => by
          obtain ⟨acc7, cc7, r7, I7⟩ := g7
          have I7 : Inv X (((S, lstObj acc7 cc7) :: ip) ++ pinsAt fp s5.heap) σ7 H7 s7 := I7
          refine ⟨⟨acc7, cc7, r7, I7.unpinned⟩, T.keep _ _ _ st5 fun b hb o e => (I7.pin (b, o) (List.mem_append_right _ (List.mem_append_right _ (mem_pinsAt hb e)))).1, fun b hb => ?_⟩
          obtain ⟨o, e, d⟩ := T.obj _ _ st5 b hb
          exact (I7.pin (b, o) (List.mem_append_right _ (List.mem_append_right _ (mem_pinsAt hb e)))).2.1
        refine hb.run A S (ip ++ pinsAt fp s5.heap) R n ys s₀ _ _ _ _ id id s6 σ6 H6 { D with nx := N, ct := N, bk := D.nx } { gl _ with ip := ipS s5.heap } hn ⟨fun n' ys' s₀' s7 f hn' hs => ?_, fun n' s₀' x s7 hx => ee n' s₀' x s7 hx⟩ ⟨acc3, cc3, r3, I6⟩ q6
        cases f with
        | next =>
          obtain ⟨σ7, H7, g7, n7⟩ := hs
          obtain ⟨b1, b2, b3⟩ := back g7
          obtain ⟨m', hm, w7⟩ := hN ys' σ7 H7 n7
          exact seg_again rfl (ih m' hm (i + 1) n' ys' s₀' s7 σ7 H7 hn' w7 b1 b2 b3)
        | cont =>
          obtain ⟨σ7, H7, g7, n7⟩ := hs
          obtain ⟨b1, b2, b3⟩ := back g7
          obtain ⟨m', hm, w7⟩ := hN ys' σ7 H7 n7
          exact seg_again rfl (ih m' hm (i + 1) n' ys' s₀' s7 σ7 H7 hn' w7 b1 b2 b3)
        | brk =>
          obtain ⟨σ7, H7, g7, n7⟩ := hs
          exact seg_leaf (.ok .next) (k.ok n' ys' s₀' s7 .next hn' ⟨σ7, H7, (back g7).1, n7⟩)
        | ret v =>
          obtain ⟨v7, σ7, H7, g7, r7, n7⟩ := hs
          exact seg_leaf (.ok (.ret v)) (k.ok n' ys' s₀' s7 (.ret v) hn' ⟨v7, σ7, H7, (back g7).1, r7, n7⟩)
  exact loop m0 0 n ys s₀ s2 σ H2 hn w0 ⟨acc, cc, r, I2⟩ st2 fun b hb => (f2 b hb).1
end
end TW

namespace TW
open PySem PySem.Spec PyProof.Rows L2
/-! ### two lists item by item -/
inductive All2 {α β : Type} (R : α → β → Prop) : List α → List β → Prop
  | nil : All2 R [] []
  | cons {a : α} {b : β} {as : List α} {bs : List β} : R a b → All2 R as bs → All2 R (a :: as) (b :: bs)
theorem All2.imp {α β : Type} {R R' : α → β → Prop} (h : ∀ a b, R a b → R' a b) : ∀ {as : List α} {bs : List β}, All2 R as bs → All2 R' as bs
  | _, _, .nil => .nil
  | _, _, .cons r t => .cons (h _ _ r) (All2.imp h t)
theorem All2.app {α β : Type} {R : α → β → Prop} : ∀ {as cs : List α} {bs ds : List β}, All2 R as bs → All2 R cs ds → All2 R (as ++ cs) (bs ++ ds)
  | _, _, _, _, .nil, h => h
  | _, _, _, _, .cons r t, h => .cons r (All2.app t h)
theorem All2.len {α β : Type} {R : α → β → Prop} : ∀ {as : List α} {bs : List β}, All2 R as bs → as.length = bs.length
  | _, _, .nil => rfl
  | _, _, .cons _ t => congrArg Nat.succ (All2.len t)
theorem All2.get {α β : Type} {R : α → β → Prop} : ∀ {as : List α} {bs : List β} {i : Nat} {a : α}, All2 R as bs → as[i]? = some a → ∃ b, bs[i]? = some b ∧ R a b
  | _, _, _, _, .nil, e => by simp at e
  | _, _, 0, _, .cons r _, e => by
    have := Option.some.inj e
    subst this
    exact ⟨_, rfl, r⟩
  | _, _, i + 1, _, .cons _ t, e => All2.get (i := i) t e
theorem All2.last {α β : Type} {R : α → β → Prop} : ∀ {as : List α} {bs : List β} {b : β}, All2 R as (bs ++ [b]) → ∃ as' a, as = as' ++ [a] ∧ All2 R as' bs ∧ R a b
  | _, [], _, .cons r .nil => ⟨[], _, rfl, .nil, r⟩
  | _, x :: bs, b, .cons r t => by
    obtain ⟨as', a, e, h1, h2⟩ := All2.last (bs := bs) t
    exact ⟨_ :: as', a, by rw [e]; rfl, .cons r h1, h2⟩
/-! ### the places of a tree -/
mutual
def wk : Tr → List Nat → List (List Nat × Tr)
  | .nd n ks, p => (p, .nd n ks) :: wks ks p 0
def wks : List Tr → List Nat → Nat → List (List Nat × Tr)
  | [], _, _ => []
  | t :: r, p, i => wk t (p ++ [i]) ++ wks r p (i + 1)
end
/-- the parts with their paths -/
def kd : List Tr → List Nat → Nat → List (List Nat × Tr)
  | [], _, _ => []
  | t :: r, p, i => (p ++ [i], t) :: kd r p (i + 1)
theorem wks_kd : ∀ (ks : List Tr) (p : List Nat) (i : Nat), wks ks p i = (kd ks p i).flatMap fun x => wk x.2 x.1
  | [], _, _ => rfl
  | t :: r, p, i => by rw [wks, wks_kd r p (i + 1)]; rfl
theorem kd_len : ∀ (ks : List Tr) (p : List Nat) (i : Nat), (kd ks p i).length = ks.length
  | [], _, _ => rfl
  | t :: r, p, i => congrArg Nat.succ (kd_len r p (i + 1))
theorem kd_get : ∀ (ks : List Tr) (p : List Nat) (i j : Nat) (t : Tr), ks[j]? = some t → (kd ks p i)[j]? = some (p ++ [i + j], t)
  | [], _, _, j, t, h => by simp at h
  | x :: r, p, i, 0, t, h => by
    have := Option.some.inj h
    subst this
    rfl
  | x :: r, p, i, j + 1, t, h => by
    have := kd_get r p (i + 1) j t h
    rw [show i + 1 + j = i + (j + 1) by omega] at this
    exact this
theorem wks_snoc (t : Tr) (p : List Nat) : ∀ (ks : List Tr) (i : Nat), wks (ks ++ [t]) p i = wks ks p i ++ wk t (p ++ [i + ks.length])
  | [], i => by
    show wks [t] p i = wks [] p i ++ wk t (p ++ [i + 0])
    rw [wks, wks, wks, List.append_nil]
    rfl
  | x :: r, i => by
    show wks (x :: (r ++ [t])) p i = wks (x :: r) p i ++ wk t (p ++ [i + (r.length + 1)])
    rw [wks, wks, wks_snoc t p r (i + 1), List.append_assoc, show i + 1 + r.length = i + (r.length + 1) by omega]
mutual
theorem wk_len : ∀ (t : Tr) (p : List Nat), (wk t p).length = sz t
  | .nd n ks, p => by
    rw [wk, sz, List.length_cons, wks_len ks p 0]
    omega
theorem wks_len : ∀ (ks : List Tr) (p : List Nat) (i : Nat), (wks ks p i).length = szs ks
  | [], _, _ => rfl
  | t :: r, p, i => by rw [wks, szs, List.length_append, wk_len t, wks_len r]
end
/-! ### paths as tuples -/
abbrev pathV (p : List Nat) : List V := p.map fun (n : Nat) => V.int (n : Int)
theorem rd_path {K : PySem.W.Frag} {σ : L2.St} {H : Hp} {Q : VK} {i j : Nat} {q : Addr} {p : List Nat} {k : Int} {kn : Nat} (hi : σ[i]? = some (some (.ref q))) (hj : σ[j]? = some (some (.int k))) (ek : k = (kn : Int)) (hq : H q = some (.tup (pathV p))) (hl : p.length ≤ 1000)
    (c : ∀ H' q', Same H H' → H' q' = some (.tup (pathV (p ++ [kn]))) → Q (.ref q') H') : tOp (rCatA K) (tVar i) (tTup (tCons (tVar j) tNil)) σ H Q := by
  subst ek
  refine ⟨.ref q, hi, .int kn, hj, szle, fun z nz => ?_⟩
  have s1 : Same H (upd H z (.tup [.int kn])) := Same.new nz
  refine ⟨q, z, pathV p, [.int kn], rfl, rfl, SqT.of (s1 _ _ hq), SqT.of upd_same, ?_, fun e => ?_, fun _ e => absurd e (List.cons_ne_nil _ _), fun _ _ y ny => ?_⟩
  · rw [List.length_map]
    exact Nat.le_trans (show p.length + 1 ≤ 1001 by omega) (by decide)
  · have e0 : p = [] := List.map_eq_nil_iff.mp e
    subst e0
    exact c _ z s1 upd_same
  · refine c _ y (s1.trans (Same.new ny)) ?_
    rw [upd_same, show pathV (p ++ [kn]) = pathV p ++ [.int kn] from List.map_append]
/-! ### the law's own walk -/
def WD (ok : Addr → Prop) (H : Hp) (v : V) (x : List Nat × Tr) : Prop := ∃ a q d, v = .ref a ∧ H a = some (.tup [.ref q, d]) ∧ H q = some (.tup (pathV x.1)) ∧ DU ok H d x.2
theorem WD.same {ok : Addr → Prop} {H H' : Hp} (s : Same H H') {v : V} {x : List Nat × Tr} (h : WD ok H v x) : WD ok H' v x := by
  obtain ⟨a, q, d, e, h1, h2, h3⟩ := h
  exact ⟨a, q, d, e, s _ _ h1, s _ _ h2, DU.same s h3⟩
end TW

namespace TW
open PySem PySem.Spec PyProof.Rows L2
theorem Kp.lst {H : Hp} {g : Addr} {xs ys : List V} (e : H g = some (.lst xs)) : Kp H (upd H g (.lst ys)) := fun b o h n => by
  have : b ≠ g := fun z => by
    rw [z, e] at h
    cases h
    exact n _ rfl
  rw [upd_ne this]
  exact h
def WO (C : Addr) (H : Hp) (v : V) (x : List Nat × Tr) : Prop := ∃ a q d, v = .ref a ∧ H a = some (.tup [.ref q, d]) ∧ H q = some (.tup (pathV x.1)) ∧ TO C H d x.2
theorem WO.kp {C : Addr} {H H' : Hp} (k : Kp H H') {v : V} {x : List Nat × Tr} (h : WO C H v x) : WO C H' v x := by
  obtain ⟨a, q, d, e, h1, h2, h3⟩ := h
  exact ⟨a, q, d, e, k _ _ h1 (fun _ z => nomatch z), k _ _ h2 (fun _ z => nomatch z), TO.kp k _ _ h3⟩
theorem All2.kp {C : Addr} {H H' : Hp} (k : Kp H H') {vs : List V} {xs : List (List Nat × Tr)} (h : All2 (WO C H) vs xs) : All2 (WO C H') vs xs := h.imp fun _ _ z => z.kp k
abbrev wkAll (W : List (List Nat × Tr)) : List (List Nat × Tr) := W.reverse.flatMap fun x => wk x.2 x.1
theorem wkAll_pop (W : List (List Nat × Tr)) (p : List Nat) (n : List Nat) (ks : List Tr) : wkAll (W ++ [(p, .nd n ks)]) = (p, .nd n ks) :: wkAll (W ++ (kd ks p 0).reverse) := by
  unfold wkAll
  rw [List.reverse_append, List.reverse_append, List.reverse_reverse, List.flatMap_append, List.flatMap_append, ← wks_kd]
  show wk (.nd n ks) p ++ [] ++ _ = _
  rw [wk, List.append_nil]
  rfl
abbrev szA (W : List (List Nat × Tr)) : Nat := szs (W.map (·.2))
theorem szA_app (W V : List (List Nat × Tr)) : szA (W ++ V) = szA W + szA V := by
  unfold szA
  rw [List.map_append, szs_app]
theorem kd_snd : ∀ (ks : List Tr) (p : List Nat) (i : Nat), (kd ks p i).map (·.2) = ks
  | [], _, _ => rfl
  | t :: r, p, i => congrArg (t :: ·) (kd_snd r p (i + 1))
theorem kd_rev (ks : List Tr) (p : List Nat) : szA (kd ks p 0).reverse = szs ks := by
  unfold szA
  rw [List.map_reverse, szs_rev, kd_snd]
theorem kd_mem : ∀ {ks : List Tr} {p : List Nat} {i : Nat} {x : List Nat × Tr}, x ∈ kd ks p i → x.2 ∈ ks ∧ x.1.length = p.length + 1
  | [], _, _, _, h => by cases h
  | t :: r, p, i, x, h => by
    rcases List.mem_cons.mp (show x ∈ (p ++ [i], t) :: kd r p (i + 1) from h) with e | e
    · rw [e]
      exact ⟨List.mem_cons_self, by simp⟩
    · obtain ⟨a, b⟩ := kd_mem e
      exact ⟨List.mem_cons_of_mem _ a, b⟩
def sp_walked (C : Addr) : Sp := fun vs H Q _ => ∃ v t, vs = [v] ∧ TO C H v t ∧ sz t ≤ 900 ∧ ∀ H' a us, Same H H' → H a = none → H' a = some (.lst us) → All2 (WO C H') us (wk t []) → Q (.ref a) H'
section
variable {P : Program} {w : World} {K : PySem.W.Frag} {mg : Str → Option Value} {base : Heap}
theorem ok_walked (T : Tx K mg) (Z : Tc K mg) : FnR P w K mg base CX0 1 (He.ga K "walked") (sp_walked (CT K)) := by
  refine fnR0 T.d_walked sc_walked (fun _ _ _ _ _ _ us hl => match us, hl with | [_], _ => rfl) (fun vs H Q E h => ?_) (fun cdv A outer s H vs Q E hr h => ?_)
  · obtain ⟨v, t, rfl, _⟩ := h
    rfl
  · obtain ⟨v, t, rfl, ht, hz, c⟩ := h
    refine ⟨_, (pss_cons (ps_set (i := 1) sc_walked.nd rfl (.inl rfl) (pe_lst pa_nil))
(pss_cons (ps_set (i := 2) sc_walked.nd rfl (.inl rfl) (pe_lst (pa_cons (pe_tup (pa_cons (pe_tup pa_nil) (pa_cons (pv 0) pa_nil))) pa_nil)))
(pss_cons (ps_while PassesOwn.never (pt_truth (pv 2) (by intro _; rfl))
(pss_cons (ps_asg (pe_bm0 PySem.F.plainAttrs_list PySem.F.slot_list_pop PySem.F.type_list_pop mt_pop (pv 2)) (pg_tup (by rfl) (pgs_cons (pg_name (i := 3) sc_walked.nd rfl (.inl rfl)) (pgs_cons (pg_name (i := 4) sc_walked.nd rfl (.inl rfl)) pgs_nil))))
(pss_cons (ps_expr (pe_bm PySem.F.plainAttrs_list PySem.F.slot_list_append PySem.F.type_list_append mt_append (pv 1) (pa_cons (pe_tup (pa_cons (pv 3) (pa_cons (pv 4) pa_nil))) pa_nil)))
(pss_one (ps_for PassesOwn.never rfl (pi_range3 (by rfl) T.z_range (pa_cons (pe_op op_sub (pe_callB call_len (by rfl) T.z_len (by decide +kernel) (pa_cons (pe_fldK K (pv 4) rfl) pa_nil)) pe_int) (pa_cons (pe_un un_neg pe_int) (pa_cons (pe_un un_neg pe_int) pa_nil)))) (pg_name (i := 5) sc_walked.nd rfl (.inl rfl))
(pss_one (ps_expr (pe_bm PySem.F.plainAttrs_list PySem.F.slot_list_append PySem.F.type_list_append mt_append (pv 2) (pa_cons (pe_tup (pa_cons (pe_op op_catA (pv 3) (pe_tup (pa_cons (pv 5) pa_nil))) (pa_cons (pe_ix (r := rIxT K) ix_tup (pe_fldK K (pv 4) rfl) (pv 5) (fun _ _ => rfl)) pa_nil))) pa_nil)))))))))
(pss_one (ps_ret (pv 1)))))), ?_⟩
    refine ⟨szle, fun f nf => ⟨szle, fun e ne => ⟨v, rfl, szle, fun x nx => ⟨szle, fun g ng => ?_⟩⟩⟩⟩
    have s1 : Same H (upd H f (.lst [])) := Same.new nf
    have s2 := s1.trans (Same.new (o := .tup []) ne)
    have s3 := s2.trans (Same.new (o := .tup [.ref e, v]) nx)
    have s4 := s3.trans (Same.new (o := .lst [.ref x]) ng)
    have f4 := Same.new (o := .lst [.ref x]) ng _ _ (Same.new (o := .tup [.ref e, v]) nx _ _ (Same.new (o := .tup []) ne _ _ (upd_same (H := H) (a := f) (o := .lst []))))
    have e4 := Same.new (o := .lst [.ref x]) ng _ _ (Same.new (o := .tup [.ref e, v]) nx _ _ (upd_same (H := upd H f (.lst [])) (a := e) (o := .tup [])))
    have x4 := Same.new (o := .lst [.ref x]) ng _ _ (upd_same (H := upd (upd H f (.lst [])) e (.tup [])) (a := x) (o := .tup [.ref e, v]))
    have g4 : (upd (upd (upd (upd H f (.lst [])) e (.tup [])) x (.tup [.ref e, v])) g (.lst [.ref x])) g = some (.lst [.ref x]) := upd_same
    have ng0 : H g = none := s3.free ng
    have fg : f ≠ g := ne_of_none (Same.new (o := .tup [.ref e, v]) nx _ _ (Same.new (o := .tup []) ne _ _ (upd_same (H := H) (a := f) (o := .lst [])))) ng
    generalize upd (upd (upd (upd H f (.lst [])) e (.tup [])) x (.tup [.ref e, v])) g (.lst [.ref x]) = H4 at s4 f4 e4 x4 g4
    refine ⟨fun m σ H5 => ∃ (F W : List (List Nat × Tr)) (vf vw : List V) (y3 y4 y5 : Option V), σ = [some v, some (.ref f), some (.ref g), y3, y4, y5] ∧ Same H H5 ∧ H5 f = some (.lst vf) ∧ H5 g = some (.lst vw) ∧ All2 (WO (CT K) H5) vf F ∧ All2 (WO (CT K) H5) vw W ∧
      F ++ wkAll W = wk t [] ∧ m = szA W ∧ (∀ z ∈ W, z.1.length + sz z.2 ≤ 900), ⟨_, [], [([], t)], [], [.ref x], none, none, none, rfl, s4, f4, g4, .nil, .cons ⟨x, e, v, rfl, x4, e4, TO.kp (Same.kp s4) _ _ ht⟩ .nil, ?_, rfl, ?_⟩, ?_⟩
    · show wk t [] ++ [] = _
      rw [List.append_nil]
    · intro z hz'
      rcases List.mem_cons.mp hz' with e' | e'
      · rw [e']
        show 0 + sz t ≤ 900
        omega
      · cases e'
    rintro m σ H5 ⟨F, W, vf, vw, y3, y4, y5, rfl, s5, f5, g5, hf, hw, eq, rfl, hb⟩
    have total : F.length + szA W ≤ 900 := by
      have := congrArg List.length eq
      rw [List.length_append, wk_len] at this
      have l : ∀ l : List (List Nat × Tr), (l.flatMap fun x => wk x.2 x.1).length = szA l := by
        intro l
        induction l with
        | nil => rfl
        | cons a b ih =>
          rw [List.flatMap_cons, List.length_append, wk_len, ih]
          rfl
      rw [l] at this
      have r : szA W.reverse = szA W := by
        unfold szA
        rw [List.map_reverse, szs_rev]
      rw [r] at this
      omega
    refine ⟨.ref g, rfl, !vw.isEmpty, .inl ⟨vw, SqL.of g5, rfl⟩, ite2 (fun ee => ?_) (fun ee => ?_)⟩
    · -- one more place
      obtain ⟨W', z, rfl⟩ : ∃ W' z, W = W' ++ [z] := by
        rcases List.eq_nil_or_concat W with e' | ⟨l, a, e'⟩
        · subst e'
          cases hw
          cases ee
        · exact ⟨l, a, by rw [e', List.concat_eq_append]⟩
      obtain ⟨vw', vz, rfl, hw', hz'⟩ := hw.last
      obtain ⟨p, n, ks⟩ := z
      have bz := hb (p, .nd n ks) (List.mem_append_right _ List.mem_cons_self)
      have bz : p.length + sz (.nd n ks) ≤ 900 := bz
      have bz0 := bz
      rw [sz] at bz0
      obtain ⟨a, q, d, rfl, ha, hq, hd⟩ := hz'
      refine ⟨_, fun _ _ h => h, .ref g, rfl, .inl ⟨rfl, _, SqL.of g5⟩, g, _, .ref a, rfl, rfl, g5, ?_, ?_⟩
      · rw [List.length_append, List.length_singleton, Nat.add_sub_cancel, List.getElem?_append_right (Nat.le_refl _), Nat.sub_self]
        rfl
      rw [List.dropLast_concat]
      have k6 : Kp H5 (upd H5 g (.lst vw')) := Kp.lst g5
      have s6 : Same H (upd H5 g (.lst vw')) := fun b o h => by rw [upd_ne (ne_of_none h ng0)]; exact s5 _ _ h
      have f6 : upd H5 g (.lst vw') f = some (.lst vf) := by rw [upd_ne fg]; exact f5
      have g6 : upd H5 g (.lst vw') g = some (.lst vw') := upd_same
      have ha6 := k6 _ _ ha (fun _ y => nomatch y)
      have hq6 := k6 _ _ hq (fun _ y => nomatch y)
      have hd6 := TO.kp k6 _ _ hd
      have hf6 := hf.kp k6
      have hw6 := hw'.kp k6
      generalize upd H5 g (.lst vw') = H6 at k6 s6 f6 g6 ha6 hq6 hd6 hf6 hw6
      refine ⟨a, _, rfl, SqT.of ha6, rfl, .ref q, [d], rfl, d, [], rfl, rfl, ?_⟩
      -- found.append((path, node))
      refine ⟨.ref f, rfl, .inl ⟨rfl, _, SqL.of f6⟩, .ref q, rfl, d, rfl, szle, fun y ny => ?_⟩
      have s7 : Same H6 (upd H6 y (.tup [.ref q, d])) := Same.new ny
      have f7 := s7 _ _ f6
      refine ⟨f, vf, .ref y, rfl, rfl, f7, small1000 (by rw [hf.len]; omega), ?_⟩
      have k8 : Kp (upd H6 y (.tup [.ref q, d])) (upd (upd H6 y (.tup [.ref q, d])) f (.lst (vf ++ [.ref y]))) := Kp.lst f7
      have k68 := (Same.kp s7).trans k8
      have s8 : Same H (upd (upd H6 y (.tup [.ref q, d])) f (.lst (vf ++ [.ref y]))) := fun b o h => by rw [upd_ne (ne_of_none h nf)]; exact s7 _ _ (s6 _ _ h)
      have f8 : upd (upd H6 y (.tup [.ref q, d])) f (.lst (vf ++ [.ref y])) f = some (.lst (vf ++ [.ref y])) := upd_same
      have g8 : upd (upd H6 y (.tup [.ref q, d])) f (.lst (vf ++ [.ref y])) g = some (.lst vw') := by rw [upd_ne fg.symm]; exact s7 _ _ g6
      have y8 := k8 _ _ (upd_same (H := H6) (a := y) (o := .tup [.ref q, d])) (fun _ z => nomatch z)
      have hq8 := k68 _ _ hq6 (fun _ z => nomatch z)
      have hd8 := TO.kp k68 _ _ hd6
      have hf8 := hf6.kp k68
      have hw8 := hw6.kp k68
      generalize upd (upd H6 y (.tup [.ref q, d])) f (.lst (vf ++ [.ref y])) = H8 at s8 f8 g8 y8 hq8 hd8 hf8 hw8
      have hF8 : All2 (WO (CT K) H8) (vf ++ [.ref y]) (F ++ [(p, .nd n ks)]) := All2.app hf8 (.cons ⟨y, q, d, rfl, y8, hq8, hd8⟩ .nil)
      have hd9 := hd8
      rw [TO] at hd9
      obtain ⟨an, dx, pp, us, rfl, han, hpp, hus⟩ := hd9
      have ul := hus.length
      have kz := len_szs ks
      -- the parts wait
      refine ⟨.ref an, rfl, an, _, dx, _, _, rfl, han, Z.cl, Z.a_parts, rfl, .ref pp, us.length, rfl, .inr ⟨_, SqT.of hpp, rfl⟩, _, _, rfl, rfl, 1, rfl, 1, rfl, (us.length : Int) - 1, -1, -1, us.length, rfl, ?_, ?_⟩
      · have := RgC.neg (i := (us.length : Int) - 1) (j := -1) (by omega) (by omega) (by decide) (by decide)
        rw [show ((us.length : Int) - 1 - -1).toNat = us.length by omega] at this
        exact this
      refine for_rangeC (lo := (us.length : Int) - 1) (c := -1) (n := us.length) (fun i σ H9 => ∃ (vw9 : List V) (y5 : Option V), σ = [some v, some (.ref f), some (.ref g), some (.ref q), some (.ref an), y5] ∧ Same H H9 ∧ H9 f = some (.lst (vf ++ [.ref y])) ∧ H9 g = some (.lst vw9) ∧ Kp H8 H9 ∧
        All2 (WO (CT K) H9) vw9 (W' ++ (kd ks p 0).reverse.take i)) ?_ ?_ ?_
      · exact ⟨vw', y5, rfl, s8, f8, g8, Kp.refl, by rw [List.take_zero, List.append_nil]; exact hw8⟩
      · rintro i σ H9 hi ⟨vw9, y5', rfl, s9, f9, g9, k9, hw9⟩
        have ei : ((us.length : Int) - 1 + (i : Nat) * (-1)) = ((us.length - 1 - i : Nat) : Int) := by omega
        have gu : us[us.length - 1 - i]? = some us[us.length - 1 - i] := List.getElem?_eq_getElem (by omega)
        obtain ⟨tj, ej, toj⟩ := hus.get gu
        have kg := kd_get ks p 0 (us.length - 1 - i) tj ej
        have kr : (kd ks p 0).reverse[i]? = some (p ++ [us.length - 1 - i], tj) := by
          rw [List.getElem?_reverse (by rw [kd_len]; omega), kd_len, ← ul, kg, Nat.zero_add]
        refine ⟨.ref g, rfl, .inl ⟨rfl, _, SqL.of g9⟩, ?_⟩
        refine rd_path (kn := us.length - 1 - i) rfl rfl ei (k9 _ _ hq8 (fun _ z => nomatch z)) (by omega) fun H10 q10 s10 h10 => ?_
        have k10 := k9.trans (Same.kp s10)
        have han10 := k10 _ _ han (fun _ z => nomatch z)
        have hpp10 := k10 _ _ hpp (fun _ z => nomatch z)
        refine ⟨.ref an, rfl, an, _, dx, _, _, rfl, han10, Z.cl, Z.a_parts, rfl, _, rfl, pp, _, _, _, rfl, rfl, SqT.of hpp10, (by rw [ei]; exact atI_nat gu), szle, fun r nr => ?_⟩
        have s11 : Same H10 (upd H10 r (.tup [.ref q10, us[us.length - 1 - i]])) := Same.new nr
        have g11 := s11 _ _ (s10 _ _ g9)
        refine ⟨g, vw9, .ref r, rfl, rfl, g11, small1000 ?_, ?_⟩
        · rw [hw9.len, List.length_append, List.length_take, List.length_reverse, kd_len]
          have := len_szs (W'.map (·.2))
          rw [List.length_map] at this
          have t2 := szA_app W' [(p, .nd n ks)]
          have := len_szs ks
          have e2 : szA [(p, Tr.nd n ks)] = 1 + szs ks := by
            unfold szA
            simp only [List.map_cons, List.map_nil, szs, sz]
            omega
          have : szA W' = szs (W'.map (·.2)) := rfl
          omega
        have k12 : Kp (upd H10 r (.tup [.ref q10, us[us.length - 1 - i]])) (upd (upd H10 r (.tup [.ref q10, us[us.length - 1 - i]])) g (.lst (vw9 ++ [.ref r]))) := Kp.lst g11
        have kA := (Same.kp s10).trans ((Same.kp s11).trans k12)
        refine ⟨vw9 ++ [.ref r], _, rfl, fun b o h => ?_, ?_, upd_same, k9.trans kA, ?_⟩
        · rw [upd_ne (ne_of_none h ng0)]
          exact s11 _ _ (s10 _ _ (s9 _ _ h))
        · rw [upd_ne fg]
          exact s11 _ _ (s10 _ _ f9)
        · rw [take_get kr, ← List.append_assoc]
          refine All2.app (hw9.kp kA) (.cons ⟨r, q10, _, rfl, k12 _ _ upd_same (fun _ z => nomatch z), k12 _ _ (s11 _ _ h10) (fun _ z => nomatch z), TO.kp (k9.trans kA) _ _ toj⟩ .nil)
      · rintro σ H9 ⟨vw9, y5', rfl, s9, f9, g9, k9, hw9⟩
        rw [ul, ← kd_len ks p 0, ← List.length_reverse, List.take_length] at hw9
        have e1 := wkAll_pop W' p n ks
        refine ⟨_, ?_, F ++ [(p, .nd n ks)], W' ++ (kd ks p 0).reverse, vf ++ [.ref y], vw9, _, _, _, rfl, s9, f9, g9, hF8.kp k9, hw9, ?_, rfl, ?_⟩
        · rw [szA_app, szA_app, kd_rev]
          have e2 : szA [(p, Tr.nd n ks)] = 1 + szs ks := by
            unfold szA
            simp only [List.map_cons, List.map_nil, szs, sz]
            omega
          omega
        · rw [← eq, e1, List.append_assoc]
          rfl
        · intro z hz'
          rcases List.mem_append.mp hz' with h | h
          · exact hb z (List.mem_append_left _ h)
          · obtain ⟨m1, m2⟩ := kd_mem (List.mem_reverse.mp h)
            have := szs_mem m1
            omega
    · -- nothing waits
      have e0 : W = [] := by
        cases vw with
        | nil => exact List.length_eq_zero_iff.mp hw.len.symm
        | cons a b => exact absurd rfl ee
      subst e0
      rw [show wkAll [] = [] from rfl, List.append_nil] at eq
      subst eq
      exact ⟨.ref f, rfl, c H5 f vf s5 nf f5 hf⟩
end
end TW

/-! an own error over an own class over ValueError: super().__init__(text), then one field -/
namespace PySem
namespace TWX
open PySem.W PySem.Calls PyProof.Rows PySem.HandSPX
def eA (f : Str) (p1 p2 : Pos) : Arguments := { posonlyargs := [], args := [{ arg := "self", annotation := none, pos := p1 }, { arg := f, annotation := none, pos := p2 }], vararg := none, kwonlyargs := [], kw_defaults := [], kwarg := none, defaults := [] }
def eB (f msg : Str) (j : Nat) (p0 p1 p2 p3 p4 p5 q1 q2 q3 q4 : Pos) : List Stmt :=
  [.Expr (.Call (.Attribute (.Call (.Name "super" p0) [] [] p1) "__init__" p2) [.Constant (.str msg) j p3] [] p4) p5, .Assign [.Attribute (.Name "self" q1) f q2] (.Name f q3) q4]
def eS (f : Str) : Scope := { kind := .function, names := [(PySem.Str.ofString "self", .local), (f, .local), (PySem.Str.ofString "__class__", .free), (PySem.Str.ofString "super", .globalImplicit)], isGenerator := false, isCoroutine := false, more := [] }
/-- the field's name is none of the def's other names -/
structure Fld (f : Str) : Prop where
  l1 : (eS f).names.lookup f = some .local
  l2 : (eS f).names.lookup ("super" : Str) = some .globalImplicit
  l3 : (eS f).names.lookup ("__class__" : Str) = some .free
  ns : f ≠ "self"
  nd : (f == ("__debug__" : Str)) = false
  bd : ∀ (p1 p2 : Pos) (q : Str) (bo : List Stmt) (doc pm : Value) (an : Option Addr) (cdv ct : Value) (cc : Addr) (a b : Value), bindArgs (ksFn "__init__" q (eA f p1 p2) bo (eS f) .none .none doc pm an cdv ct cc) ⟨[a, b], []⟩ = pure [(("self" : Str), a), (f, b)]
/-- what the written part says of the class at C, of its __init__ at fI, of the program -/
structure Err (prog : Program) (K : Frag) (mg : Str → Option Value) (C fI : Addr) (q f msg : Str) : Prop where
  cls : ∃ nm q N bs bm sn sub ab col dd k0 k1 k2 k3 k5, K.lookup C = some (excClassObj nm q C N bs bm true sn sub ab col dd k0 k1 k2 k3 k5 "ValueError.__new__") ∧ refsVE bm = true
  sa : findIn K (.ref C) "__setattr__" = some (some (.builtin "object.__setattr__"))
  no : findIn K (.ref C) f = some none
  iC : findIn K (.ref C) "__init__" = some (some (.ref fI))
  tC : typeIn K (.ref fI) = some (.type "function")
  kC : keepIn K (.ref C) = true
  exC : subIn K (.ref C) (.type "BaseException") = some true
  veC : subIn K (.ref C) (.type "ValueError") = some true
  tyC : typeIn K (.ref C) = some (.type "type")
  sup : ks_superIn K C C "__init__" = some (some (.builtin "ValueError.__init__"))
  me : mroIn K C (.ref C) = some true
  opq : nsIn K cStatics "thirdparty.any" = some none
  nosup : mg "super" = none
  top : (prog.main.scope.names.lookup ("super" : Str)).isSome = false
  fn : ∃ (oc : Value) (od : Option Addr) (doc pm : Value) (an : Option Addr) (ct : Value) (osl : Array (Option Value)) (cda cc : Addr) (j : Nat) (p1 p2 o0 o1 o2 o3 o4 o5 q1 q2 q3 q4 : Pos),
    K.lookup fI = some ⟨oc, od, .func (ksFn "__init__" q (eA f p1 p2) (eB f msg j o0 o1 o2 o3 o4 o5 q1 q2 q3 q4) (eS f) .none .none doc pm an (.ref cda) ct cc), osl⟩ ∧ codeIn K (.ref cda) q = true ∧
    (∃ cl cld csl, K.lookup cc = some ⟨cl, cld, .cell (some (.ref C)), csl⟩) ∧ ∃ ccl cdd vs ccs file tf, K.lookup cda = some ⟨ccl, cdd, .fields vs, ccs⟩ ∧ vs[2]? = some (.str file tf) ∧ ((prog.main.file : Str) == file) = true ∧ (o2.endLine == o4.line) = true
/-- what __init__ leaves of a fresh exception at x -/
structure End (h h' : Heap) (x C dx t1 : Addr) (f : Str) (v : Value) : Prop where
  keep : ∀ b o, b ≠ x → h.get? b = some o → h'.get? b = some o
  obj : h'.get? x = some { cls := .ref C, dict := some dx, data := .fields #[.ref t1, .none, .none, .none, .bool false, .none] }
  dbig : h.objs.size ≤ dx
  dne : dx ≠ x
  ns : h'.Ns1 dx (fun y => if y = f then some v else none)
structure Made (h h' : Heap) (e C d : Addr) (f : Str) (v : Value) : Prop where
  keep : ∀ b o, h.get? b = some o → h'.get? b = some o
  new : h.objs.size ≤ e
  obj : ∃ oe vs, h'.get? e = some oe ∧ oe.cls = .ref C ∧ oe.dict = some d ∧ oe.data = .fields vs ∧ vs[1]? = some .none
  dbig : h.objs.size ≤ d
  dne : d ≠ e
  ns : h'.Ns1 d (fun y => if y = f then some v else none)
theorem mc_line {o : Expr} {name : Str} {apos pos : Pos} {e : Expr} {env : Env} (hl : (apos.endLine == pos.line) = true) (hs : starEach [e] env = [(false, eval e env)]) :
    eval (.Call (.Attribute o name apos) [e] [] pos) env = (do
      let ov ← attributeBase o name env (eval o env)
      standAt apos.atName
      let (f, first) ← holding [ov] (getMethod ov name (do return (← importBound o env).getD true))
      callWith pos f first (backTo pos (starEach [e] env)) []) := by
  show (do
    let ov ← attributeBase o name env (eval o env)
    standAt apos.atName
    methodCall o name apos pos env ov 1 (backTo pos (starEach [e] env)) []) = _
  unfold methodCall methodCallPos
  rw [hl, hs]
  rfl
section
variable {prog : Program} {w : World} {A : Around} {E : Value → Shared → Prop} {R : Result → Shared → Prop} {s : Shared} {K : Frag} {mg : Str → Option Value} {base : Heap} {C fI : Addr} {q f msg : Str}
/-- super().__init__ called, bound -/
theorem call_mw {h : Heap} {g : Array GenState} {d : Drawn} {t : Nat} {os : OsState} {nm q : Str} {N u x t0 : Addr} {bs bm : List Value} {hdct : Bool} {sn : List Str} {sub : List Value} {ab : Bool} {col : Option Bool} {dd : Option Addr} {k0 k1 k2 k3 k5 : Option Value} {rest : List Value} {Q : Value → Shared → Prop}
    (hC : h.get? C = some (excClassObj nm q C N bs bm hdct sn sub ab col dd k0 k1 k2 k3 k5 "ValueError.__new__")) (hx : h.get? x = some (excO C t0)) (hu : h.get? u = some (kxs_mw "ValueError.__init__" x)) (hz : rest.length ≤ sizeLine)
    (hq : ∀ h' t1, (∀ b o, b ≠ x → h.get? b = some o → h'.get? b = some o) → h'.get? x = some (excO C t1) → Q .none ⟨h', g, d, t, os⟩) : wpAny (model prog w) A (call (.ref u) rest) Q E ⟨h, g, d, t, os⟩ := by
  refine wpAny_call (codeAny_of_tree ?_)
  show wpAny _ A.in1 (callAny (.ref u) ⟨rest, []⟩) _ _ _
  simp only [callAny]
  refine wpAny_bind (wpAny_load hu ?_)
  simp only [kxs_mw, show (Value.type "method-wrapper" == Value.type "method" || Value.type "method-wrapper" == Value.type "builtin_function_or_method" || Value.type "method-wrapper" == Value.type "method-wrapper") = true by decide, if_true]
  refine KFB.if_so (by decide) ?_
  refine wpAny_bind (check_bound_init F.excBase_ValueError.toExcCallFacts hC hx rfl ?_)
  refine wpAny_bind (wpAny_pure (wpAny_pure ?_))
  refine ⟨plainId_quiet F.excBase_ValueError.init.plain _, codeAny_builtin F.excBase_ValueError.initEntry ?_⟩
  exact exc_init_tree (cls := .ref C) (t0 := t0) (dv := none) (c2 := .none) (c3 := .none) (b4 := .bool false) hx hz fun h' k e' _ => hq h' _ k e'
theorem err_init (T : Err prog K mg C fI q f msg) (G : Fld f) (MB : L2.Mod K mg base) (bk : ∀ b o, base.get? b = some o → s.heap.get? b = some o) {x t0 : Addr} {v : Value} (hx : s.heap.get? x = some (excO C t0)) (hnx : base.get? x = none) (hroom : A.depth < recursionLimit)
    (hq : ∀ h' tk dx t1, End s.heap h' x C dx t1 f v → R (.ok (.ret .none)) { s with heap := h', toks := tk }) :
    codeAny (model prog w) A (.call (.ref fI) ⟨[.ref x, v], []⟩) R s := by
  obtain ⟨oc, od, doc, pm, an, ct, osl, cda, cc, j, p1, p2, o0, o1, o2, o3, o4, o5, q1, q2, q3, q4, ho, hcd, ⟨cl, cld, csl, hcell⟩, ccl, cdd, vs, ccs, file, tf, hcode, hvs, hfile, hline⟩ := T.fn
  obtain ⟨nm, q', N, bs, bm, sn, sub, ab, col, dd, k0, k1, k2, k3, k5, hC, hbm⟩ := T.cls
  have hcl : clsIn K C = some { name := nm, bases := bs, mro := .ref C :: bm, ns := N, qualname := q', hasDict := true, slotNames := sn, subclasses := sub, abstract := ab, collection := col, hasDel := false } := by unfold clsIn; rw [hC] <;> rfl
  have X : K.In s.heap := MB.kin.keeps bk
  refine ks_codeAny_call_defAt (fd := ksFn "__init__" q (eA f p1 p2) (eB f msg j o0 o1 o2 o3 o4 o5 q1 q2 q3 q4) (eS f) .none .none doc pm an (.ref cda) ct cc) (body := eB f msg j o0 o1 o2 o3 o4 o5 q1 q2 q3 q4) (binds := [(("self" : Str), .ref x), (f, v)])
    hroom (X _ _ ho) rfl (MB.nolimit.keeps bk) (codeRec_of X hcd) rfl (BindsTo.of_eq (G.bd ..)) ?_ ?_ (fun h₁ hn k => ?_) rfl rfl rfl
  · intro y hy
    rcases List.mem_cons.mp hy with rfl | hy
    · intro z; cases z
    rcases List.mem_cons.mp hy with rfl | hy
    · intro z; cases z
    rcases List.mem_cons.mp hy with rfl | hy
    · intro z; cases z
    rcases List.mem_cons.mp hy with rfl | hy
    · intro z; cases z
    cases hy
  · intro y hy
    rcases List.mem_cons.mp hy with rfl | hy
    · rfl
    rcases List.mem_cons.mp hy with rfl | hy
    · exact G.l1
    cases hy
  have m1 : List.lookup ("self" : Str) ([("self", Value.ref x), (f, v)] : List (Str × Value)).reverse = some (.ref x) := by
    show List.lookup ("self" : Str) ([(f, v), ("self", .ref x)] : List (Str × Value)) = _
    have : (("self" : Str) == f) = false := by simpa using (Ne.symm G.ns)
    simp [List.lookup, this]
  have m2 : List.lookup f ([("self", Value.ref x), (f, v)] : List (Str × Value)).reverse = some v := by
    show List.lookup f ([(f, v), ("self", .ref x)] : List (Str × Value)) = _
    simp [List.lookup]
  obtain ⟨mm, emm⟩ : ∃ mm : Str → Option Value, mm = fun y => List.lookup y ([("self", Value.ref x), (f, v)] : List (Str × Value)).reverse := ⟨_, rfl⟩
  have hn : h₁.Ns s.heap.objs.size mm := by rw [emm]; exact hn
  have m1 : mm "self" = some (.ref x) := by rw [emm]; exact m1
  have m2 : mm f = some v := by rw [emm]; exact m2
  have bk₁ : ∀ b o, base.get? b = some o → h₁.get? b = some o := fun b o e => k b o (bk b o e)
  have X₁ : K.In h₁ := MB.kin.keeps bk₁
  have hx₁ := k _ _ hx
  obtain ⟨s_h, s_g, s_d, s_t, s_o⟩ := s
  obtain ⟨mb, hb1, hb2⟩ := MB.blt
  have hz : s_h.objs.size < h₁.objs.size := hn.lt
  -- super().__init__(text)
  refine ks_wpAt_execs_cons (ks_wpAt_Expr_any (ks_wpAt_MethodCall (ks_wpAt_super_base (fd := ksFn "__init__" q (eA f p1 p2) (eB f msg j o0 o1 o2 o3 o4 o5 q1 q2 q3 q4) (eS f) .none .none doc pm an (.ref cda) ct cc) (ar := { arg := "self", annotation := none, pos := p1 }) G.l2 G.l3 (by decide) rfl (X₁ _ _ ho) rfl rfl rfl (X₁ _ _ hcode) rfl hvs hfile T.top ?_) (mc_line hline rfl)))
  refine ks_loadName_global rfl G.l2 (loadGlobal_builtin (MB.glob.keeps bk₁) T.nosup (hb1.keeps bk₁) ((hb2 _ (by decide)).trans (by first | boot_by_name | rfl | kernel_rfl)) ⟨rfl, ?_⟩)
  refine wpAny_loadName_free rfl G.l3 rfl ⟨_, X₁ _ _ hcell, rfl⟩ ?_
  refine wpAny_loadName_local rfl rfl hn m1 ?_
  refine ks_wpAny_isType_cls (X₁ _ _ hC) rfl ⟨rfl, ?_⟩
  refine ks_wpAny_call_super (X₁ _ _ hC) rfl hx₁ rfl (fun c e => by cases e) (looks_mroIn X₁ T.me) (fun h₂ e₂ kk₂ => ?_)
  have X₂ : K.In h₂ := X₁.keeps kk₂
  have hx₂ := kk₂ _ _ hx₁
  have I₂ : InstAt h₂ x (excO C t0) C none := ⟨hx₂, rfl, rfl, trivial⟩
  have hm : alongIn K "__init__" (((Value.ref C :: bm).dropWhile (· != .ref C)).drop 1) = some (some (.builtin "ValueError.__init__")) := by
    have z := T.sup
    unfold ks_superIn at z
    rw [hcl] at z
    exact z
  refine kxs_getMethod kxs_ValueError e₂ (looks_opaque X₂ T.opq) (l₀ := .ref C :: bm) (fun A Q E s k q => wpAny_bind ((looks_clsIn X₂ hcl) A _ E s k (wpAny_pure q))) rfl X₂ hm (I₂.type.andThen (looks_subIn X₂ T.veC)) (ks_ne X₂ I₂ hcl) (by decide) ?_
  refine kxs_callWith (i := "ValueError.__init__") (x := x) rfl (evalArgs_plain ?_)
  refine wpAny_mono (Q := fun vs s' => ∃ tk, vs = [.str msg tk] ∧ s' = ⟨h₂.push (kxs_mw "ValueError.__init__" x), s_g, s_d, tk + 1, s_o⟩) (E := fun _ _ => False) ?_ (fun vs s' z => ?_) fun _ _ z => z.elim
  · exact fun Γ p hΓ => ⟨_, rfl, rfl⟩
  obtain ⟨tk, rfl, rfl⟩ := z
  refine ⟨by show (h₂.push _).get? _ = _; heap_get, ?_⟩
  refine call_mw (Heap.get?_push_of_some _ (X₂ _ _ hC)) (Heap.get?_push_of_some _ hx₂) (by heap_get) (by show 1 ≤ sizeLine; rw [sizeLine_eq]; decide) (fun h₃ t1 k₃ hx₃ => ?_)
  -- self.f = f
  have k₁₃ : ∀ b o, b ≠ x → h₁.get? b = some o → h₃.get? b = some o := fun b o hb e => k₃ b o hb (Heap.get?_push_of_some _ (kk₂ b o e))
  have hn₃ : h₃.Ns s_h.objs.size mm := by
    obtain ⟨oL, es, ep, hL, r⟩ := hn
    exact ⟨oL, es, ep, k₁₃ _ _ (Nat.ne_of_gt (Heap.lt_size hx)) hL, r⟩
  have X₃ : K.In h₃ := fun a o e => k₁₃ a o (fun z => by rw [z] at e; have := MB.kin _ _ e; rw [hnx] at this; cases this) (X₁ a o e)
  refine ks_wpAt_execs_cons (ks_wpAt_Assign_Attr ?_)
  refine wpAt_of_wpAny (wpAny_Name (wpAny_loadName_local rfl G.l1 hn₃ m2 (wpAny_Name (wpAny_loadName_local rfl rfl hn₃ m1 ?_) (by decide))) G.nd)
  refine set_plain X₃ (ox := excO C t1) (od := none) ⟨hx₃, rfl, rfl, trivial⟩ T.sa ?_
  refine exc_osa X₃ hx₃ hcl (show refsVE (.ref C :: bm) = true from hbm) rfl T.no (fun h₄ tk₄ dx k₄ dn dne hx₄ hn₄ => ?_)
  have sz : s_h.objs.size ≤ dx := Nat.le_trans (Nat.le_of_lt (Nat.lt_of_lt_of_le hn₃.lt dn)) (Nat.le_refl _)
  exact wpAt_of_wpAny (wpAny_execs_nil (hq h₄ tk₄ dx t1 ⟨fun b o hb e => k₄ b o hb (k₁₃ b o hb (k b o e)), hx₄, sz, dne, hn₄⟩))
theorem err_made (T : Err prog K mg C fI q f msg) (G : Fld f) (MB : L2.Mod K mg base) (bk : ∀ b o, base.get? b = some o → s.heap.get? b = some o) {v : Value} (hroom : A.depth + 1 < recursionLimit)
    (hq : ∀ h' tk e d, Made s.heap h' e C d f v → R (.ok (.ret (.ref e))) { s with heap := h', toks := tk }) :
    codeAny (model prog w) A (.call (.ref C) ⟨[v], []⟩) R s := by
  obtain ⟨nm, q, N, bs, bm, sn, sub, ab, col, dd, k0, k1, k2, k3, k5, hC, hbm⟩ := T.cls
  have X : K.In s.heap := MB.kin.keeps bk
  obtain ⟨hp, g, dr, tk, os⟩ := s
  have k : ∀ b o, hp.get? b = some o → ((hp.push (kdv_tup [v])).push (excO C hp.objs.size)).get? b = some o := fun b o e => Heap.get?_push_of_some _ (Heap.get?_push_of_some _ e)
  have hget : ((hp.push (kdv_tup [v])).push (excO C hp.objs.size)).get? (hp.objs.size + 1) = some (excO C hp.objs.size) := by heap_get
  have hnx : base.get? (hp.objs.size + 1) = none := by
    cases e : base.get? (hp.objs.size + 1) with
    | none => rfl
    | some o => exact absurd (Nat.lt_of_succ_lt (Heap.lt_size (bk _ _ e))) (Nat.lt_irrefl _)
  refine call_own F.excBase_ValueError (fun X => refsVE_contains X bm hbm) (X _ _ hC) (looks_findIn X T.iC) (fun self => bind_fn X self T.tC) (by show 1 ≤ sizeLine; rw [sizeLine_eq]; decide) ?_
  refine err_init (s := ⟨(hp.push (kdv_tup [v])).push (excO C hp.objs.size), g, dr, tk, os⟩) T G MB (fun b o e => k b o (bk b o e)) hget hnx hroom fun h' tk' dx t1 ⟨k', hx, dn, dne, hns⟩ => ?_
  have old : ∀ b o, hp.get? b = some o → h'.get? b = some o := fun b o e => k' b o (Nat.ne_of_lt (Nat.lt_succ_of_lt (Heap.lt_size e))) (k b o e)
  have z : hp.objs.size + 1 + 1 ≤ dx := by
    have q := dn
    rw [Heap.size_push, Heap.size_push] at q
    exact q
  exact ⟨rfl, hq h' tk' (hp.objs.size + 1) dx ⟨old, Nat.le_succ _, ⟨_, _, hx, rfl, rfl, rfl, rfl⟩, Nat.le_trans (Nat.le_trans (Nat.le_succ _) (Nat.le_succ _)) z, dne, hns⟩⟩
end
end TWX
end PySem
namespace TW
open PySem PySem.Spec PyProof.Rows L2
theorem fld_term : PySem.TWX.Fld "term" := ⟨rfl, rfl, rfl, by decide, by decide, fun _ _ _ _ _ _ _ _ _ _ _ _ => by with_unfolding_all rfl⟩
theorem fld_path : PySem.TWX.Fld "path" := ⟨rfl, rfl, rfl, by decide, by decide, fun _ _ _ _ _ _ _ _ _ _ _ _ => by with_unfolding_all rfl⟩
end TW

namespace TW
open PySem PySem.Spec PyProof.Rows L2
theorem relO_one {v : V} {v' : Value} {n : Str} (r : RelV v v') (f : Str) : RelO (List.lookup f [(n, v)]) (if f = n then some v' else none) := by
  by_cases hw : f = n
  · subst hw
    rw [if_pos rfl]
    have q : List.lookup f [(f, v)] = some v := by simp [List.lookup]
    rw [q]
    exact r
  · rw [if_neg hw]
    have qw : (f == n) = false := by simpa using hw
    have q2 : List.lookup f [(n, v)] = none := by simp [List.lookup, qw]
    rw [q2]
    trivial
section
variable {X : Cx} {C fI : Addr} {q f msg : Str}
/-- C(e): the error's dict is laid, the error itself is let go -/
def tMkE (C : Addr) (f : Str) (ta : TA) : L2.St → Hp → XK → Prop := fun σ H Q => ta σ H fun vs H1 => ∃ v, vs = [v] ∧ ∀ d, H1 d = none → Q (.ref C) (some d) (upd H1 d (.xd [(f, v)]))
theorem pmk_err {a : Expr} {ta : TA} {x : Str} {p pos : Pos} (T : PySem.TWX.Err X.prog X.K X.mg C fI q f msg) (G : PySem.TWX.Fld f) (hr : Room 1 X.A) (hm : X.mg x = some (.ref C)) (ha : PA X [a] ta) (hg : Gl X x)
    (hdb : (x == ("__debug__" : Str)) = false := by decide) (he : starEach (a :: []) X.env = (false, eval a X.env) :: starEach [] X.env := by rfl) (hpl : (backTo pos (starEach [] X.env)).any (·.1) = false := by rfl) :
    PMk X (.Call (.Name x p) [a] [] pos) (tMkE C f ta) := by
  intro pins s σ H Q I h
  refine wpAny_Call_Name_kw (ld_glob I hg hm ?_ hdb)
  refine PySem.W.callWith_K (h₀ := X.base) I.ok.mod.kin T.kC (thn (ha.run pos pins s σ H _ I h) fun us s1 hh => ?_) he hpl
  obtain ⟨vs, H1, I1, r1, v, ev, q1⟩ := hh
  subst ev
  refine ⟨I1.kIn, ?_⟩
  cases r1 with
  | cons rv rn =>
    rename_i v' us'
    cases rn
    show wpAny _ _ (call (.ref C) [v']) _ _ _
    have bk := I1.bk
    obtain ⟨hp, g, dr, tk, os⟩ := s1
    refine wpAny_call (PySem.TWX.err_made T G I1.mod bk (by have := hr.dp; omega) fun h' tk' e d M => ?_)
    show MkP X pins σ Q (.ref e) ⟨h', g, dr, tk', os⟩
    obtain ⟨oe, fv, hoe, hc, hd, hdat, h1⟩ := M.obj
    have hns := M.ns
    obtain ⟨G', g1, g2⟩ := restrict h' fun b => decide (b ≠ e)
    have gk : ∀ b, b ≠ e → G'.get? b = h'.get? b := fun b hb => g1 b (decide_eq_true hb)
    have ge : G'.get? e = none := g2 e (by simp)
    have old : ∀ b o, hp.get? b = some o → G'.get? b = some o := fun b o q => (gk b (Nat.ne_of_lt (Nat.lt_of_lt_of_le (Heap.lt_size q) M.new))).trans (M.keep b o q)
    have ob : ObjOk X.prog X.w (upd H1 d (.xd [(f, v)])) G' d (.xd [(f, v)]) :=
      ⟨_, hns.at (fun o q => (gk d M.dne).trans q), fun g => relO_one rv g⟩
    have J : Inv X pins σ (upd H1 d (.xd [(f, v)])) ⟨G', g, dr, tk', os⟩ := I1.laid (t' := tk') old M.dbig ob
    refine ⟨e, oe, fv, ⟨G', g, dr, tk', os⟩, _, .ref C, some d, rfl, J, fun b o q => ?_, ge, hoe, ⟨hc, hd⟩, hdat, h1, ?_, rfl, I1.bare, raises_own T.exC T.tyC, q1 d (I1.hok.fresh M.dbig)⟩
    · by_cases hb : b = e
      · have q' : G'.get? b = some o := q
        rw [hb, ge] at q'; cases q'
      · exact (gk b hb).symm.trans q
    · rw [upd_ne (Ne.symm M.dne)]
      exact I1.hok.fresh M.new
/-- raise C(e) -/
def tRaiseE (C : Addr) (f : Str) (W : WX) (ta : TA) : TS := fun _ σ H => tMkE C f ta σ H fun cls d H' => W cls d σ H'
theorem ps_raiseE {a : Expr} {ta : TA} {W : WX} {x : Str} {p pos pos2 : Pos} (T : PySem.TWX.Err X.prog X.K X.mg C fI q f msg) (G : PySem.TWX.Fld f) (hr : Room 1 X.A) (hm : X.mg x = some (.ref C)) (hc : X.calm = true) (tk : Takes X W) (ha : PA X [a] ta) (hg : Gl X x)
    (hdb : (x == ("__debug__" : Str)) = false := by decide) (he : starEach (a :: []) X.env = (false, eval a X.env) :: starEach [] X.env := by rfl) (hpl : (backTo pos (starEach [] X.env)).any (·.1) = false := by rfl) :
    PS X (.Raise (some (.Call (.Name x p) [a] [] pos)) none pos2) (tRaiseE C f W ta) := ps_raise hc tk (pmk_err T G hr hm ha hg hdb he hpl)
end
/-- isinstance(e, c), e the error with a dict that the suite holds -/
def rIsX (K : PySem.W.Frag) (a : Addr) (cls : Value) (d : Option Addr) (D : Addr) : List V → Hp → VK → Prop := fun xs H Q => ∃ (c : V) (cv : Value) (b : Bool) (dd : Addr) (fs : List (Str × V)), xs = [.ref a, c] ∧ (∀ u, RelV c u → u = cv) ∧ cls = .ref D ∧ d = some dd ∧ H dd = some (.xd fs) ∧
  PySem.W.kitOne K (.ref D) cv = some b ∧ Q (.bl b) H
theorem call_isX {X : Cx} {a D : Addr} {oe : Obj} {cls : Value} {d : Option Addr} {pn : List (Addr × Obj)} (C : ExcC X.K D) (hz : Zc cls d oe) (hf : ∃ vs, oe.data = .fields vs) : CallR (X.suite a ((a, oe) :: pn)) (.builtin "isinstance") (rIsX X.K a cls d D) := by
  intro pins s σ H xs us Q I r h
  obtain ⟨c, cv, b, dd, fs, rfl, hcv, rfl, rfl, ha, e, q⟩ := h
  cases r with
  | cons rx rr =>
    cases rr with
    | cons rt rr =>
      cases rr
      cases rx
      have ec := hcv _ rt
      subst ec
      obtain ⟨hget, _⟩ := I.pin (a, oe) (List.mem_append.mpr (.inl List.mem_cons_self))
      obtain ⟨vs, hv⟩ := hf
      have hx : ObjOk X.prog X.w H s.heap dd (.xd fs) := I.hok dd _ ha
      obtain ⟨mA, hns, hr⟩ := hx
      obtain ⟨od, ho, hl⟩ := lookIn_ns hns
      have J : PySem.W.InstAt s.heap a oe D (some od) := ⟨hget, hz.1, by unfold PySem.W.notCls; rw [hv] <;> rfl, by rw [hz.2]; exact ho⟩
      have hcl : (PySem.W.clsIn X.K D).isSome = true := by
        obtain ⟨cd, hc, _⟩ := PySem.W.any_some C.hd
        rw [hc]
        rfl
      exact PySem.W.kia_one (PySem.W.kitx_exc hcl C.hg C.hk C.hs C.ha C.hn C.ht C.hm) I.kIn J e (fun z => nomatch z) fun tk => ⟨.bl b, H, I.kept (t' := tk) fun _ _ z => z, rfl, q⟩
end TW

namespace TW
/-! ## the common part: plain Lean -/
abbrev hole : Tr := .nd [95] []
mutual
def cm : Tr → Tr → Tr
  | .nd n ks, .nd m js => if n = m ∧ ks.length = js.length then .nd n (cms ks js) else hole
def cms : List Tr → List Tr → List Tr
  | [], _ => []
  | _ :: _, [] => []
  | k :: r, j :: q => cm k j :: cms r q
end
mutual
def ov : Tr → Tr → Bool
  | .nd n ks, .nd m js => if n = [95] then true else decide (n = m) && (decide (ks.length = js.length) && ovs ks js)
def ovs : List Tr → List Tr → Bool
  | [], _ => true
  | _ :: _, [] => true
  | k :: r, j :: q => ov k j && ovs r q
end
theorem cms_len : ∀ (ks js : List Tr), ks.length = js.length → (cms ks js).length = ks.length
  | [], _, _ => by rw [cms]
  | _ :: _, [], h => by cases h
  | k :: r, j :: q, h => by
    rw [cms, List.length_cons, List.length_cons, cms_len r q (Nat.succ.inj h)]
theorem hole_wf : wf hole = true := rfl
theorem hole_kids {ks : List Tr} (h : wf (.nd [95] ks) = true) : ks = [] := by
  rcases name_cases h with z | z
  · cases z
  · exact z.2
theorem wf_of {n : List Nat} {ks : List Tr} (h : wf (.nd n ks) = true) : wfs ks = true ∧ ks.length ≤ 3 := by
  rw [wf] at h
  obtain ⟨h3, h4⟩ := Bool.and_eq_true_iff.mp (Bool.and_eq_true_iff.mp h).2
  exact ⟨h4, Nat.le_of_ble_eq_true h3⟩
theorem wfs_cons {k : Tr} {r : List Tr} (h : wfs (k :: r) = true) : wf k = true ∧ wfs r = true := by
  rw [wfs] at h
  exact Bool.and_eq_true_iff.mp h
mutual
theorem cm_self : ∀ t : Tr, cm t t = t
  | .nd n ks => by
    rw [cm, if_pos ⟨rfl, rfl⟩, cms_self ks]
theorem cms_self : ∀ ks : List Tr, cms ks ks = ks
  | [] => by rw [cms]
  | k :: r => by rw [cms, cm_self k, cms_self r]
end
mutual
theorem cm_comm : ∀ a b : Tr, cm a b = cm b a
  | .nd n ks, .nd m js => by
    rw [cm, cm]
    by_cases h : n = m ∧ ks.length = js.length
    · rw [if_pos h, if_pos ⟨h.1.symm, h.2.symm⟩, h.1, cms_comm ks js h.2]
    · rw [if_neg h, if_neg (fun z => h ⟨z.1.symm, z.2.symm⟩)]
theorem cms_comm : ∀ ks js : List Tr, ks.length = js.length → cms ks js = cms js ks
  | [], [], _ => rfl
  | [], _ :: _, h => by cases h
  | _ :: _, [], h => by cases h
  | k :: r, j :: q, h => by rw [cms, cms, cm_comm k j, cms_comm r q (Nat.succ.inj h)]
end
theorem cm_hole {c : Tr} (h : wf c = true) : cm hole c = hole := by
  obtain ⟨m, js⟩ := c
  rw [cm]
  by_cases e : [95] = m ∧ ([] : List Tr).length = js.length
  · rw [if_pos e, cms]
  · rw [if_neg e]
mutual
theorem cm_assoc : ∀ a b c : Tr, wf a = true → wf b = true → wf c = true → cm (cm a b) c = cm a (cm b c)
  | .nd n ks, .nd m js, .nd o is, ha, hb, hc => by
    have ka := (wf_of ha).1
    have kb := (wf_of hb).1
    have kc := (wf_of hc).1
    by_cases h1 : n = m ∧ ks.length = js.length
    · by_cases h2 : m = o ∧ js.length = is.length
      · have e1 : cm (.nd n ks) (.nd m js) = .nd n (cms ks js) := by rw [cm, if_pos h1]
        have e2 : cm (.nd m js) (.nd o is) = .nd m (cms js is) := by rw [cm, if_pos h2]
        have l1 := cms_len ks js h1.2
        have l2 := cms_len js is h2.2
        rw [e1, e2, cm, cm, if_pos ⟨h1.1.trans h2.1, by omega⟩, if_pos ⟨h1.1, by omega⟩, cms_assoc ks js is ka kb kc h1.2 h2.2]
      · have e1 : cm (.nd n ks) (.nd m js) = .nd n (cms ks js) := by rw [cm, if_pos h1]
        have e2 : cm (.nd m js) (.nd o is) = hole := by rw [cm, if_neg h2]
        have l1 := cms_len ks js h1.2
        rw [e1, e2, cm_comm (.nd n ks) hole, cm_hole ha, cm, if_neg]
        intro z
        exact h2 ⟨h1.1.symm.trans z.1, by omega⟩
    · have e1 : cm (.nd n ks) (.nd m js) = hole := by rw [cm, if_neg h1]
      rw [e1, cm_hole hc]
      by_cases h2 : m = o ∧ js.length = is.length
      · have e2 : cm (.nd m js) (.nd o is) = .nd m (cms js is) := by rw [cm, if_pos h2]
        have l2 := cms_len js is h2.2
        rw [e2, cm, if_neg]
        intro z
        exact h1 ⟨z.1, by omega⟩
      · have e2 : cm (.nd m js) (.nd o is) = hole := by rw [cm, if_neg h2]
        rw [e2, cm_comm (.nd n ks) hole, cm_hole ha]
theorem cms_assoc : ∀ ks js is : List Tr, wfs ks = true → wfs js = true → wfs is = true → ks.length = js.length → js.length = is.length → cms (cms ks js) is = cms ks (cms js is)
  | [], [], [], _, _, _, _, _ => by simp [cms]
  | k :: r, j :: q, i :: p, ha, hb, hc, h1, h2 => by
    obtain ⟨a1, a2⟩ := wfs_cons ha
    obtain ⟨b1, b2⟩ := wfs_cons hb
    obtain ⟨c1, c2⟩ := wfs_cons hc
    rw [cms, cms, cms, cms, cm_assoc k j i a1 b1 c1, cms_assoc r q p a2 b2 c2 (Nat.succ.inj h1) (Nat.succ.inj h2)]
  | [], _ :: _, _, _, _, _, h, _ => by cases h
  | _ :: _, [], _, _, _, _, h, _ => by cases h
  | _, [], _ :: _, _, _, _, _, h => by cases h
  | _, _ :: _, [], _, _, _, _, h => by cases h
end
mutual
theorem cm_wf : ∀ a b : Tr, wf a = true → wf b = true → wf (cm a b) = true
  | .nd n ks, .nd m js, ha, hb => by
    rw [cm]
    by_cases h : n = m ∧ ks.length = js.length
    · rw [if_pos h]
      have l := cms_len ks js h.2
      have k1 := wf_of ha
      have w := cms_wf ks js k1.1 (wf_of hb).1
      rcases name_cases ha with z | z
      · exact bigN_wf z (by omega) w
      · rw [z.2] at l ⊢
        have e : cms [] js = [] := by rw [cms]
        rw [e]
        exact Grew.leaf_ z.1
    · rw [if_neg h]
      exact hole_wf
theorem cms_wf : ∀ ks js : List Tr, wfs ks = true → wfs js = true → wfs (cms ks js) = true
  | [], _, _, _ => by rw [cms, wfs]
  | _ :: _, [], _, _ => by rw [cms, wfs]
  | k :: r, j :: q, ha, hb => by
    obtain ⟨a1, a2⟩ := wfs_cons ha
    obtain ⟨b1, b2⟩ := wfs_cons hb
    rw [cms, wfs, cm_wf k j a1 b1, cms_wf r q a2 b2]
    rfl
end
mutual
theorem cm_sz : ∀ a b : Tr, sz (cm a b) ≤ sz a
  | .nd n ks, .nd m js => by
    rw [cm]
    by_cases h : n = m ∧ ks.length = js.length
    · rw [if_pos h, sz, sz]
      have := cms_sz ks js
      omega
    · rw [if_neg h, sz, sz, szs]
      omega
theorem cms_sz : ∀ ks js : List Tr, szs (cms ks js) ≤ szs ks
  | [], _ => by rw [cms]; exact Nat.le_refl _
  | _ :: _, [] => by rw [cms, szs]; exact Nat.zero_le _
  | k :: r, j :: q => by
    have a := cm_sz k j
    have b := cms_sz r q
    rw [cms, szs, szs]
    omega
end
/-! ### covering -/
theorem ov_hole (u : Tr) : ov hole u = true := by
  obtain ⟨m, js⟩ := u
  rw [ov, if_pos rfl]
mutual
theorem ov_cm : ∀ x a b : Tr, wf x = true → wf a = true → wf b = true → ov x (cm a b) = (ov x a && ov x b)
  | .nd n ks, .nd m js, .nd o is, hx, ha, hb => by
    by_cases h0 : n = [95]
    · have e : ∀ u, ov (.nd n ks) u = true := fun u => by
        obtain ⟨m', js'⟩ := u
        rw [ov, if_pos h0]
      rw [e, e, e]
      rfl
    · by_cases h : m = o ∧ js.length = is.length
      · have e : cm (.nd m js) (.nd o is) = .nd m (cms js is) := by rw [cm, if_pos h]
        have l := cms_len js is h.2
        rw [e, ov, ov, ov, if_neg h0, if_neg h0, if_neg h0]
        by_cases h1 : n = m
        · by_cases h2 : ks.length = js.length
          · rw [decide_eq_true h1, decide_eq_true (h1.trans h.1), decide_eq_true (show ks.length = (cms js is).length by omega), decide_eq_true h2, decide_eq_true (h2.trans h.2)]
            show ovs ks (cms js is) = (ovs ks js && ovs ks is)
            exact ovs_cm ks js is (wf_of hx).1 (wf_of ha).1 (wf_of hb).1 h2 h.2
          · rw [decide_eq_false (show ¬ ks.length = (cms js is).length by omega), decide_eq_false h2]
            simp
        · rw [decide_eq_false h1]
          rfl
      · have e : cm (.nd m js) (.nd o is) = hole := by rw [cm, if_neg h]
        rw [e, ov, ov, ov, if_neg h0, if_neg h0, if_neg h0, decide_eq_false h0]
        by_cases h1 : n = m
        · by_cases h2 : ks.length = js.length
          · have : ¬ (n = o ∧ ks.length = is.length) := fun z => h ⟨h1.symm.trans z.1, by omega⟩
            by_cases h3 : n = o
            · rw [decide_eq_false (fun z => this ⟨h3, z⟩)]
              simp
            · rw [decide_eq_false h3]
              simp
          · rw [decide_eq_false h2]
            simp
        · rw [decide_eq_false h1]
          simp
theorem ovs_cm : ∀ ks js is : List Tr, wfs ks = true → wfs js = true → wfs is = true → ks.length = js.length → js.length = is.length → ovs ks (cms js is) = (ovs ks js && ovs ks is)
  | [], [], [], _, _, _, _, _ => by rw [cms, ovs]; rfl
  | k :: r, j :: q, i :: p, ha, hb, hc, h1, h2 => by
    obtain ⟨a1, a2⟩ := wfs_cons ha
    obtain ⟨b1, b2⟩ := wfs_cons hb
    obtain ⟨c1, c2⟩ := wfs_cons hc
    rw [cms, ovs, ovs, ovs, ov_cm k j i a1 b1 c1, ovs_cm r q p a2 b2 c2 (Nat.succ.inj h1) (Nat.succ.inj h2)]
    cases ov k j <;> cases ov k i <;> cases ovs r q <;> cases ovs r p <;> rfl
  | [], _ :: _, _, _, _, _, h, _ => by cases h
  | _ :: _, [], _, _, _, _, h, _ => by cases h
  | _, [], _ :: _, _, _, _, _, h => by cases h
  | _, _ :: _, [], _, _, _, _, h => by cases h
end
mutual
theorem ov_self : ∀ t : Tr, ov t t = true
  | .nd n ks => by
    rw [ov]
    by_cases h : n = [95]
    · rw [if_pos h]
    · rw [if_neg h, decide_eq_true rfl, decide_eq_true rfl, ovs_self ks]
      rfl
theorem ovs_self : ∀ ks : List Tr, ovs ks ks = true
  | [] => by rw [ovs]
  | k :: r => by rw [ovs, ov_self k, ovs_self r]; rfl
end
mutual
theorem cm_ov : ∀ a b : Tr, ov (cm a b) a = true
  | .nd n ks, .nd m js => by
    rw [cm]
    by_cases h : n = m ∧ ks.length = js.length
    · rw [if_pos h, ov]
      have l := cms_len ks js h.2
      by_cases h0 : n = [95]
      · rw [if_pos h0]
      · rw [if_neg h0, decide_eq_true rfl, decide_eq_true l, cms_ov ks js h.2]
        rfl
    · rw [if_neg h]
      exact ov_hole _
theorem cms_ov : ∀ ks js : List Tr, ks.length = js.length → ovs (cms ks js) ks = true
  | [], _, _ => by rw [cms, ovs]
  | _ :: _, [], h => by cases h
  | k :: r, j :: q, h => by rw [cms, ovs, cm_ov k j, cms_ov r q (Nat.succ.inj h)]; rfl
end
theorem cm_ov2 (a b : Tr) : ov (cm a b) b = true := by
  rw [cm_comm]
  exact cm_ov b a
mutual
/-- two that cover one another are one -/
theorem ov_anti : ∀ a b : Tr, wf a = true → wf b = true → ov a b = true → ov b a = true → a = b
  | .nd n ks, .nd m js, ha, hb, h1, h2 => by
    rw [ov] at h1 h2
    by_cases n0 : n = [95]
    · subst n0
      have e := hole_kids ha
      subst e
      by_cases m0 : m = [95]
      · subst m0
        have e := hole_kids hb
        subst e
        rfl
      · rw [if_neg m0, decide_eq_false m0] at h2
        cases h2
    · rw [if_neg n0] at h1
      obtain ⟨e1, g1⟩ := Bool.and_eq_true_iff.mp h1
      obtain ⟨e2, g2⟩ := Bool.and_eq_true_iff.mp g1
      have e1' := of_decide_eq_true e1
      have e2' := of_decide_eq_true e2
      subst e1'
      rw [if_neg n0] at h2
      have g3 := (Bool.and_eq_true_iff.mp (Bool.and_eq_true_iff.mp h2).2).2
      rw [ovs_anti ks js (wf_of ha).1 (wf_of hb).1 e2' g2 g3]
theorem ovs_anti : ∀ ks js : List Tr, wfs ks = true → wfs js = true → ks.length = js.length → ovs ks js = true → ovs js ks = true → ks = js
  | [], [], _, _, _, _, _ => rfl
  | [], _ :: _, _, _, h, _, _ => by cases h
  | _ :: _, [], _, _, h, _, _ => by cases h
  | k :: r, j :: q, ha, hb, h, h1, h2 => by
    obtain ⟨a1, a2⟩ := wfs_cons ha
    obtain ⟨b1, b2⟩ := wfs_cons hb
    rw [ovs] at h1 h2
    obtain ⟨c1, c2⟩ := Bool.and_eq_true_iff.mp h1
    obtain ⟨d1, d2⟩ := Bool.and_eq_true_iff.mp h2
    rw [ov_anti k j a1 b1 c1 d1, ovs_anti r q a2 b2 (Nat.succ.inj h) c2 d2]
end
theorem ov_eq {a b : Tr} (ha : wf a = true) (hb : wf b = true) : ov a (cm a b) = true ↔ a = cm a b := by
  constructor
  · intro h
    exact ov_anti a (cm a b) ha (cm_wf a b ha hb) h (cm_ov a b)
  · intro h
    rw [← h]
    exact ov_self a
end TW

namespace TW
open PySem PySem.Spec PyProof.Rows L2
/-- an expression that is not reached -/
def tDead : TE := fun _ _ _ => False
theorem pe_dead {X : Cx} {e : Expr} : PE X e tDead := ⟨fun _ _ _ _ _ _ h => h.elim⟩
theorem TO.same {C : Addr} {H H' : Hp} (s : Same H H') {v : V} {t : Tr} (h : TO C H v t) : TO C H' v t := TO.kp (Same.kp s) v t h
/-! ### x op y by the class's own def -/
def rBinT (C : Addr) (sp : Sp) (E : XK) : R2 := fun x y H Q => ∃ a dx fs b dy gs, x = .ref a ∧ y = .ref b ∧ H a = some (.ins C dx fs) ∧ H b = some (.ins C dy gs) ∧ sp [x, y] H Q E
theorem op_binT {X : Cx} {CX : CXT} {k : Nat} {sp : Sp} {E : XK} {C g : Addr} {op : Operator} (hc : PySem.W.selfFirst X.K C = true) (hs : PySem.W.findIn X.K (.ref C) (PySem.dunder op.info.2) = some (some (.ref g))) (hf : PySem.W.isFn X.K (.ref g) = true)
    (G : FnR X.prog X.w X.K X.mg X.base CX k g sp) (hr : Room k X.A) (hx : Passes CX X E) : OpR X (binaryOp op) (rBinT C sp E) := by
  intro pins s σ H x y v u Q I rx ry h
  obtain ⟨a, dx, fs, b, dy, gs, rfl, rfl, ha, hb, q⟩ := h
  cases (show v = Value.ref a from rx)
  cases (show u = Value.ref b from ry)
  obtain ⟨m, F⟩ := I.fr
  obtain ⟨mA, O, _⟩ := ins_get I.hok ha
  obtain ⟨od, J, _⟩ := O.look
  obtain ⟨mB, O2, _⟩ := ins_get I.hok hb
  obtain ⟨od2, J2, _⟩ := O2.look
  refine PySem.W.binop_K (op := op) F I.ok.mod.kin J J2.type hc hs hf ?_
  refine wpAny_mono (wpAny_call (run_fnR (us := [.ref a, .ref b]) (vs := [.ref a, .ref b]) G hr hx I (.cons rfl (.cons rfl .nil)) q)) (fun w s' z => ?_) fun _ _ x => x
  obtain ⟨z', H', I', rz, qz⟩ := z
  exact SlX.cmpback rz ⟨z', H', I', rz, qz⟩
/-! ### C(e, .., *y), C a class of the module -/
theorem pe_makeGS {X : Cx} {CX : CXT} {k : Nat} {f C : Addr} {sp : Sp} {E : XK} {x : Str} {p pos : Pos} {e : Expr} {es : List Expr} {t : TA} (M : Mk X.K C f) (F : FnR X.prog X.w X.K X.mg X.base CX k f sp) (hr : Room (k + 1) X.A) (hg : Gl X x) (hm : X.mg x = some (.ref C)) (hx : Passes CX X E) (ha : PA X (e :: es) t)
    (hdb : (x == ("__debug__" : Str)) = false := by decide) (he : starEach (e :: es) X.env = (false, eval e X.env) :: starEach es X.env := by rfl) (hpl : (backTo pos (starEach es X.env)).any (·.1) = true := by rfl) : PE X (.Call (.Name x p) (e :: es) [] pos) (StX.tMakeR C sp E t) := by
  refine ⟨fun pins s σ H Q I h => ?_⟩
  refine wpAny_Call_Name_kw (ld_glob I hg hm ?_ hdb)
  refine PySem.W.callWith_S2 (h₀ := X.base) I.ok.mod.kin M.kp (thn (ha.run pos pins s σ _ _ I h) fun us s2 ⟨vs, H2, I2, r, q⟩ => ⟨I2.kIn, ?_⟩) he hpl
  exact StX.run_makeR M F hr hx I2 r q
/-! ### zip of two tuples -/
theorem walk_zipT {K : PySem.W.Frag} {a b : Addr} {xs ys : List V} (hn : xs.length = ys.length) : Walk (RZ.ItzT K a b) xs.length (fun H => SqT K H a xs ∧ SqT K H b ys) (YPair (fun i => xs[i]?) (fun i => ys[i]?)) := by
  refine ⟨fun i _ hi q => ?_, fun _ q => ⟨xs, ys, q.1, q.2, .inl (Nat.le_refl _)⟩, fun i H v H' _ q y => ?_⟩
  · exact ⟨xs, ys, xs[i], ys[i]'(by omega), q.1, q.2, List.getElem?_eq_getElem hi, List.getElem?_eq_getElem (by omega)⟩
  · obtain ⟨T, x, z, h1, h2, h3, h4, h5⟩ := y
    exact ⟨T, x, z, h1, h2, h3, h4 xs q.1, h5 ys q.2⟩
structure Ta (K : PySem.W.Frag) : Prop where
  sf : PySem.W.selfFirst K (CT K) = true
  at_and : PySem.W.findIn K (.ref (CT K)) "__and__" = some (some (.ref (mT K "__and__")))
  fn_and : PySem.W.isFn K (.ref (mT K "__and__")) = true
  d_and : DefAt K "__and__" "Tree.__and__" s_Tree_and (mT K "__and__")
  m_covers : Meth K (CT K) "covers" (mT K "covers")
  d_covers : DefAt K "covers" "Tree.covers" s_Tree_covers (mT K "covers")
def sp_and (C : Addr) (n : Nat) : Sp := fun vs H Q _ => ∃ x y t u, vs = [x, y] ∧ TO C H x t ∧ TO C H y u ∧ wf t = true ∧ wf u = true ∧ sz t < n ∧ sz t ≤ 1000 ∧ ∀ H' v, Same H H' → TO C H' v (cm t u) → Q v H'
theorem cms_get : ∀ {ks js : List Tr} {i : Nat} {k j : Tr}, ks[i]? = some k → js[i]? = some j → (cms ks js)[i]? = some (cm k j)
  | [], _, _, _, _, h, _ => by simp at h
  | _ :: _, [], _, _, _, _, h => by simp at h
  | k :: r, j :: q, 0, _, _, h1, h2 => by
    rw [cms, ← Option.some.inj h1, ← Option.some.inj h2]
    rfl
  | k :: r, j :: q, i + 1, _, _, h1, h2 => by
    rw [cms]
    exact cms_get (i := i) h1 h2
section
variable {P : Program} {w : World} {K : PySem.W.Frag} {mg : Str → Option Value} {base : Heap}
theorem ok_and (T : Tx K mg) (Z : Tc K mg) (W : Tw K) (A1 : Ta K) : ∀ n : Nat, FnR P w K mg base CX0 (n + 3) (mT K "__and__") (sp_and (CT K) n) := by
  have G_init : FnR P w K mg base CX0 1 (mT K "__init__") (sp_star (CT K)) := ok_init T Z
  intro n
  induction n with
  | zero =>
    intro A outer s H us vs Q E hr e0 r h
    obtain ⟨x, y, t, u, rfl, _, _, _, _, h0, _⟩ := h
    omega
  | succ n ih =>
  have G_and := ih
  refine fnR0 A1.d_and sc_Tree_and (fun _ _ _ _ _ _ us hl => match us, hl with | [_, _], _ => rfl) (fun vs H Q E h => ?_) (fun cdv A outer s H vs Q E hr h => ?_)
  · obtain ⟨x, y, t, u, rfl, _⟩ := h
    rfl
  · obtain ⟨x, y, ⟨nm, ks⟩, ⟨om, js⟩, rfl, ht, hu, wt, wu, hz, hm, c⟩ := h
    refine ⟨_, (pss_cons (ps_if (pt_not (pt_val (pe_callB call_isi (by rfl) T.z_isinstance (by decide +kernel) (pa_cons (pv 1) (pa_cons (pe_glob (v := .ref (CT K)) (by rfl) Z.v_Tree rfl) pa_nil)))))
(pss_one (ps_ret pe_dead))
pss_nil)
(pss_cons (ps_if (pt_cmpR op_eq (pe_fldK K (pv 0) rfl) (pe_fldK K (pv 1) rfl) (nomark _))
(pss_one (ps_ret (pv 0)))
pss_nil)
(pss_cons (ps_if (PW.pt (pw_or (pt_cmpR op_ne (pe_fldK K (pv 0) rfl) (pe_fldK K (pv 1) rfl) (nomark _)) (pw_or1 (pt_cmpR op_ne (pe_callB call_len (by rfl) T.z_len (by decide +kernel) (pa_cons (pe_fldK K (pv 0) rfl) pa_nil)) (pe_callB call_len (by rfl) T.z_len (by decide +kernel) (pa_cons (pe_fldK K (pv 1) rfl) pa_nil)) (nomark _)))))
(pss_one (ps_ret (StX.pe_makeR Z.mk_ G_init (hr.mono (by omega)) (by rfl) Z.v_Tree pass0 (pa_cons pe_str pa_nil))))
pss_nil)
(pss_cons (ps_setLc (i := 2) (own := [("part", 3), ("twin", 4)]) (g := gTup K 2 (gCons (gName 3) (gCons (gName 4) (gNil)))) rfl sc_Tree_and.nd rfl rfl (sw_true rfl rfl rfl (by decide +kernel)) (RZ.pi_zipA (by rfl) T.z_zip (pa_cons (pe_fldK K (pv 0) rfl) (pa_cons (pe_fldK K (pv 1) rfl) pa_nil))) (blkOk_by (own := [("part", 3), ("twin", 4)]) (N := N_Tree_and) (sc := defScope s_Tree_and) (by decide +kernel)) (fun _ _ _ _ _ => pg_tup (by rfl) (pgs_cons (pg_name (i := 3) sc_Tree_and.nd rfl (.inl rfl)) (pgs_cons (pg_name (i := 4) sc_Tree_and.nd rfl (.inl rfl)) pgs_nil))) (fun _ _ _ _ _ => pts_nil) (fun _ _ _ _ _ => (pe_op (op_binT (op := .BitAnd) A1.sf A1.at_and A1.fn_and G_and (hr.mono (by omega)) (E := E0) pass0) (pv 3) (pv 4))))
(pss_one (ps_ret (pe_makeGS Z.mk_ G_init (hr.mono (by omega)) (by rfl) Z.v_Tree pass0 (pa_cons (pe_fldK K (pv 0) rfl) (StX.pa_star (pv 2) pa_nil))))))))), ?_⟩
    have ht0 := ht
    have hu0 := hu
    rw [TO] at ht hu
    obtain ⟨a, dx, p, vs, rfl, ha, hp, hk⟩ := ht
    obtain ⟨b, dy, q, us, rfl, hb, hq, hj⟩ := hu
    have vl := hk.length
    have ul := hj.length
    have ins : TyX K H (.ref b) (.ref (CT K)) := .base (.ins hb Z.cl W.ic W.ig W.it W.im)
    have hz' := hz
    have hm' := hm
    rw [sz] at hz' hm'
    refine ⟨.ref b, rfl, .ref b, .ref (CT K), _, _, _, rfl, .own _, ins, kit_same _, true, rfl, ?_⟩
    refine iteF ?_
    refine ⟨.ref a, rfl, a, _, dx, _, _, rfl, ha, Z.cl, Z.a_term, rfl, .ref b, rfl, b, _, dy, _, _, rfl, hb, Z.cl, Z.a_term, rfl, rfl, _, rfl, ite2 (fun e => ?_) (fun e => ?_)⟩
    · have et : Tr.nd nm ks = .nd om js := tm_inj wt wu (mk_inj (V.str.inj (of_decide_eq_true e)))
      rw [← et, cm_self] at c
      exact ⟨.ref a, rfl, c _ _ (Same.refl _) ht0⟩
    have hno : ∀ H4, Same H H4 → ¬ (nm = om ∧ ks.length = js.length) → StX.tMakeR (CT K) (sp_star (CT K)) E0 (tCons (tC (V.str (Str.ofString "_"))) tNil) (start N_Tree_and [.ref a, .ref b]) H4 Q := fun H4 s4 h => by
      have e4 : cm (.nd nm ks) (.nd om js) = hole := by rw [cm, if_neg h]
      rw [e4] at c
      exact mk_tree (C := CT K) (H := H4) (n := [95]) (us := []) (ks := []) (by rw [TOs]; trivial) hole_wf (by decide) fun H' a' s5 _ to5 => c H' _ (s4.trans s5) to5
    refine ⟨.ref a, rfl, a, _, dx, _, _, rfl, ha, Z.cl, Z.a_name, rfl, .ref b, rfl, b, _, dy, _, _, rfl, hb, Z.cl, Z.a_name, rfl, rfl, _, rfl, ?_⟩
    rw [show decide (V.str (mk nm) = V.str (mk om)) = decide (nm = om) by
      by_cases z : nm = om
      · rw [z, decide_eq_true rfl, decide_eq_true rfl]
      · rw [decide_eq_false z, decide_eq_false fun y => z (mk_inj (V.str.inj y))]]
    refine ite2 (fun e2 => ?_) (fun e2 => ?_)
    · refine iteT (hno H (Same.refl _) fun z => ?_)
      rw [decide_eq_true z.1] at e2
      cases e2
    have en : nm = om := by
      refine Decidable.byContradiction fun z => ?_
      rw [decide_eq_false z] at e2
      exact e2 rfl
    refine ⟨.ref a, rfl, a, _, dx, _, _, rfl, ha, Z.cl, Z.a_parts, rfl, .ref p, vs.length, rfl, .inr ⟨_, SqT.of hp, rfl⟩, .ref b, rfl, b, _, dy, _, _, rfl, hb, Z.cl, Z.a_parts, rfl, .ref q, us.length, rfl, .inr ⟨_, SqT.of hq, rfl⟩, rfl, _, rfl, ite2 (fun e3 => ?_) (fun e3 => ?_)⟩
    · refine hno H (Same.refl _) fun z => ?_
      rw [decide_eq_true (show V.int (vs.length : Int) = V.int (us.length : Int) by rw [show vs.length = us.length by omega])] at e3
      cases e3
    have el : vs.length = us.length := by
      refine Decidable.byContradiction fun z => ?_
      rw [decide_eq_false (fun y => z (by have := V.int.inj y; omega))] at e3
      exact e3 rfl
    have ecm : cm (.nd nm ks) (.nd om js) = .nd nm (cms ks js) := by rw [cm, if_pos ⟨en, by omega⟩]
    have wcm := cm_wf _ _ wt wu
    have zcm := cm_sz (.nd nm ks) (.nd om js)
    rw [ecm] at c wcm zcm
    have cl := cms_len ks js (by omega)
    -- the parts
    refine ⟨.ref a, rfl, a, _, dx, _, _, rfl, ha, Z.cl, Z.a_parts, rfl, .ref b, rfl, b, _, dy, _, _, rfl, hb, Z.cl, Z.a_parts, rfl, p, q, vs, us, rfl, .inr ⟨SqT.of hp, SqT.of hq, fun D nD => ?_⟩⟩
    refine lc_it (walk_zipT el) (fun i H3 => ∃ ys, H3 D = some (.lst ys) ∧ Same H H3 ∧ TOs (CT K) H3 ys ((cms ks js).take i) ∧ i ≤ vs.length) ?_ ?_ ?_ ?_
    · exact ⟨[], upd_same, Same.new nD, by rw [List.take_zero, TOs]; trivial, Nat.zero_le _⟩
    · rintro i H3 _ ⟨ys, _, s3, _⟩
      exact ⟨SqT.of (s3 _ _ hp), SqT.of (s3 _ _ hq)⟩
    · rintro i x H3 H4 hi ⟨ys, eD, s3, hy, _⟩ ⟨t2, x1, y1, rfl, nt2, rfl, gx, gy⟩
      obtain ⟨k, ek, hk1⟩ := hk.get gx
      obtain ⟨j, ej, hj1⟩ := hj.get gy
      have s4 := s3.trans (Same.new (o := .tup [x1, y1]) nt2)
      have eD4 := Same.new (o := .tup [x1, y1]) nt2 _ _ eD
      have mk1 := List.mem_of_getElem? ek
      have zk := szs_mem mk1
      refine ⟨t2, _, rfl, SqT.of upd_same, rfl, x1, [y1], rfl, y1, [], rfl, rfl, rfl, ?_⟩
      unfold tYes
      dsimp only
      rw [if_pos rfl]
      obtain ⟨a1, d1, p1, rfl, ha1⟩ := hk1.at
      obtain ⟨b1, d2, p2, rfl, hb1⟩ := hj1.at
      refine ⟨_, rfl, _, rfl, a1, d1, _, b1, d2, _, rfl, rfl, s4 _ _ ha1, s4 _ _ hb1, .ref a1, .ref b1, k, j, rfl, TO.same s4 hk1, TO.same s4 hj1, wfs_mem (wf_of wt).1 mk1, wfs_mem (wf_of wu).1 (List.mem_of_getElem? ej), by omega, by omega, fun H5 v' s5 to5 => ?_⟩
      have eD5 := s5 _ _ eD4
      have kk : Kp H5 (upd H5 D (.lst (ys ++ [v']))) := Kp.lst eD5
      refine ⟨ys, eD5, small1000 (by have := len_szs ks; rw [hy.length, List.length_take]; omega), ys ++ [v'], upd_same, ?_, ?_, hi⟩
      · intro b' o e
        rw [upd_ne (ne_of_none e nD)]
        exact s5 _ _ (s4 _ _ e)
      · have e : (cms ks js).take (i + 1) = (cms ks js).take i ++ [cm k j] := take_get (cms_get ek ej)
        rw [e]
        exact TOs.snoc (TO.kp kk _ _ to5) (TOs.kp ((Same.kp ((Same.new nt2).trans s5)).trans kk) _ _ hy)
    rintro H3 ⟨ys, eD, s3, hy, _⟩
    rw [show vs.length = (cms ks js).length by omega, List.take_length] at hy
    refine ⟨.ref a, rfl, a, _, dx, _, _, rfl, s3 _ _ ha, Z.cl, Z.a_name, rfl, .ref D, rfl, D, ys, rfl, .inr (SqL.of eD), ?_⟩
    exact mk_tree (C := CT K) (H := H3) (n := nm) (us := ys ++ []) (ks := cms ks js) (by rw [List.append_nil]; exact hy) wcm (by omega) fun H' a' s5 _ to5 => c H' _ (s3.trans s5) to5
end
end TW

namespace TW
open PySem PySem.Spec PyProof.Rows L2
def sp_covers (C : Addr) (n : Nat) : Sp := fun vs H Q _ => ∃ x y t u, vs = [x, y] ∧ TO C H x t ∧ TO C H y u ∧ wf t = true ∧ wf u = true ∧ sz t < n ∧ sz t ≤ 1000 ∧ ∀ H', Same H H' → Q (.bl (ov t u)) H'
theorem dec_name (a b : List Nat) : decide (V.str (mk a) = V.str (mk b)) = decide (a = b) := by
  by_cases h : a = b
  · rw [h, decide_eq_true rfl, decide_eq_true rfl]
  · rw [decide_eq_false h, decide_eq_false fun z => h (mk_inj (V.str.inj z))]
/-- the parts' answers, in order -/
def ovL : List Tr → List Tr → List Bool
  | [], _ => []
  | _ :: _, [] => []
  | k :: r, j :: q => ov k j :: ovL r q
theorem ovL_all : ∀ ks js : List Tr, (ovL ks js).all id = ovs ks js
  | [], _ => by rw [ovL, ovs]; rfl
  | _ :: _, [] => by rw [ovL, ovs]; rfl
  | k :: r, j :: q => by
    rw [ovL, ovs, List.all_cons, ovL_all r q]
    rfl
theorem ovL_len : ∀ ks js : List Tr, ks.length = js.length → (ovL ks js).length = ks.length
  | [], _, _ => rfl
  | _ :: _, [], h => by cases h
  | k :: r, j :: q, h => by rw [ovL, List.length_cons, List.length_cons, ovL_len r q (Nat.succ.inj h)]
theorem ovL_get : ∀ {ks js : List Tr} {i : Nat} {k j : Tr}, ks[i]? = some k → js[i]? = some j → (ovL ks js)[i]? = some (ov k j)
  | [], _, _, _, _, h, _ => by simp at h
  | _ :: _, [], _, _, _, _, h => by simp at h
  | k :: r, j :: q, 0, _, _, h1, h2 => by
    rw [ovL, ← Option.some.inj h1, ← Option.some.inj h2]
    rfl
  | k :: r, j :: q, i + 1, _, _, h1, h2 => by
    rw [ovL]
    exact ovL_get (i := i) h1 h2
section
variable {P : Program} {w : World} {K : PySem.W.Frag} {mg : Str → Option Value} {base : Heap}
/-- a def by its body, its function object given -/
theorem fnF0 {x q : Str} {st : Stmt} {f : Addr} {fd : FuncData} {N ps : List Str} {k : Nat} {sp : Sp} (F : FunD K x q (defArgs st) (defBody st) (defScope st) [] [] f fd) (S : FnScope N ps (defScope st))
    (len : ∀ vs H Q E, sp vs H Q E → vs.length = ps.length)
    (body : ∀ (cdv : Value) (A : Around) (outer : List Env) (s : Shared) (H : Hp) (vs : List V) (Q : VK) (E : XK), Room k (A.deeper (envOfC q (defScope st) s.heap.objs.size f cdv)) → sp vs H Q E →
      ∃ t, PSs (cxOf CX0 P w K mg base N q (defScope st) f cdv A outer s H E).nox (defBody st) t ∧ t { nx := fun _ H' => Q .non H', rt := Q } (start N vs) H) :
    FnOk P w K mg base CX0 (k + 1) f fd ps sp := F.ok S len fun cdv A outer s H vs Q E hr h => by
  obtain ⟨t, a, b⟩ := body cdv A outer s H vs Q E hr h
  exact ⟨t, a.nox, b⟩
theorem ok_covers (T : Tx K mg) (Z : Tc K mg) (A1 : Ta K) : ∃ fd, (∀ n : Nat, FnOk P w K mg base CX0 (n + 1) (mT K "covers") fd ["self", "other"] (sp_covers (CT K) n)) ∧ Binds K fd ["self", "other"] [] := by
  obtain ⟨fd, F⟩ := A1.d_covers
  have B_covers : Binds K fd ["self", "other"] [] := F.bindsN fun _ _ _ _ _ _ us hl => match us, hl with | [_, _], _ => rfl
  refine ⟨fd, fun n => ?_, B_covers⟩
  induction n with
  | zero =>
    refine fnF0 F sc_Tree_covers (fun vs H Q E h => ?_) (fun cdv A outer s H vs Q E hr h => ?_)
    · obtain ⟨x, y, t, u, rfl, _⟩ := h
      rfl
    · obtain ⟨x, y, t, u, rfl, _, _, _, _, h0, _⟩ := h
      omega
  | succ n ih =>
  have G_covers := ih
  refine fnF0 F sc_Tree_covers (fun vs H Q E h => ?_) (fun cdv A outer s H vs Q E hr h => ?_)
  · obtain ⟨x, y, t, u, rfl, _⟩ := h
    rfl
  · obtain ⟨x, y, ⟨nm, ks⟩, ⟨om, js⟩, rfl, ht, hu, wt, wu, hz, hm, c⟩ := h
    refine ⟨_, (pss_cons (ps_if (PW.pt (pw_and (pt_cmpR op_eq (pe_fldK K (pv 0) rfl) pe_str (nomark _)) (pw_and1 (pt_not (pt_truth (pe_fldK K (pv 0) rfl) (by intro _; rfl))))))
(pss_one (ps_ret pe_bl))
pss_nil)
(pss_cons (ps_if (PW.pt (pw_or (pt_cmpR op_ne (pe_fldK K (pv 0) rfl) (pe_fldK K (pv 1) rfl) (nomark _)) (pw_or1 (pt_cmpR op_ne (pe_callB call_len (by rfl) T.z_len (by decide +kernel) (pa_cons (pe_fldK K (pv 0) rfl) pa_nil)) (pe_callB call_len (by rfl) T.z_len (by decide +kernel) (pa_cons (pe_fldK K (pv 1) rfl) pa_nil)) (nomark _)))))
(pss_one (ps_ret pe_bl))
pss_nil)
(pss_one (ps_ret (pe_callB (cr_all rfl) (by rfl) T.z_all (by decide +kernel) (pa_cons (pe_lc (own := [("part", 2), ("twin", 3)]) (g := gTup K 2 (gCons (gName 2) (gCons (gName 3) (gNil)))) rfl sc_Tree_covers.nd (RZ.pi_zipA (by rfl) T.z_zip (pa_cons (pe_fldK K (pv 0) rfl) (pa_cons (pe_fldK K (pv 1) rfl) pa_nil))) (blkOk_by (own := [("part", 2), ("twin", 3)]) (N := N_Tree_covers) (sc := defScope s_Tree_covers) (by decide +kernel)) (fun _ _ _ _ _ => pg_tup (by rfl) (pgs_cons (pg_name (i := 2) sc_Tree_covers.nd rfl (.inl rfl)) (pgs_cons (pg_name (i := 3) sc_Tree_covers.nd rfl (.inl rfl)) pgs_nil))) (fun _ _ _ _ _ => pts_nil) (fun _ _ _ _ _ => (pe_meth (pv 2) Z.cl A1.m_covers G_covers (hr.mono (by omega)) B_covers .nil pass0 (pa_cons (pv 3) pa_nil)))) pa_nil)))))), ?_⟩
    rw [TO] at ht hu
    obtain ⟨a, dx, p, vs, rfl, ha, hp, hk⟩ := ht
    obtain ⟨b, dy, q, us, rfl, hb, hq, hj⟩ := hu
    have vl := hk.length
    have ul := hj.length
    have hz' := hz
    have hm' := hm
    rw [sz] at hz' hm'
    have lz := len_szs ks
    rw [ov] at c
    -- behind the hole
    have rest : nm ≠ [95] → tSeq (tIfS (tOr (tTest (tOp rNe (tFld K (tVar 0) "name") (tFld K (tVar 1) "name"))) (tTest (tOp rNe (tLen K (tFld K (tVar 0) "parts")) (tLen K (tFld K (tVar 1) "parts"))))) (tRet (tC (.bl false))) tNext)
        (tRet (tCB (rAll K) (tCons (tLc (RZ.iZipA K (tCons (tFld K (tVar 0) "parts") (tCons (tFld K (tVar 1) "parts") tNil))) (gTup K 2 (gCons (gName 2) (gCons (gName 3) gNil))) tYes (tMeth (CT K) "covers" (sp_covers (CT K) n) [] E0 (tVar 2) (tCons (tVar 3) tNil)) [2, 3]) tNil)))
        { nx := fun _ H' => Q .non H', rt := Q } (start N_Tree_covers [.ref a, .ref b]) H := fun n95 => by
      rw [if_neg n95] at c
      refine ⟨.ref a, rfl, a, _, dx, _, _, rfl, ha, Z.cl, Z.a_name, rfl, .ref b, rfl, b, _, dy, _, _, rfl, hb, Z.cl, Z.a_name, rfl, rfl, _, rfl, ?_⟩
      rw [dec_name]
      refine ite2 (fun e2 => ?_) (fun e2 => ?_)
      · have : nm ≠ om := fun z => by
          rw [decide_eq_true z] at e2
          cases e2
        rw [decide_eq_false this] at c
        exact iteT (c _ (Same.refl _))
      have en : nm = om := by
        refine Decidable.byContradiction fun z => ?_
        rw [decide_eq_false z] at e2
        exact e2 rfl
      rw [decide_eq_true en] at c
      refine ⟨.ref a, rfl, a, _, dx, _, _, rfl, ha, Z.cl, Z.a_parts, rfl, .ref p, vs.length, rfl, .inr ⟨_, SqT.of hp, rfl⟩, .ref b, rfl, b, _, dy, _, _, rfl, hb, Z.cl, Z.a_parts, rfl, .ref q, us.length, rfl, .inr ⟨_, SqT.of hq, rfl⟩, rfl, _, rfl, ite2 (fun e3 => ?_) (fun e3 => ?_)⟩
      · have : ¬ ks.length = js.length := fun z => by
          rw [decide_eq_true (show V.int (vs.length : Int) = V.int (us.length : Int) by rw [show vs.length = us.length by omega])] at e3
          cases e3
        rw [decide_eq_false this] at c
        exact c _ (Same.refl _)
      have el : vs.length = us.length := by
        refine Decidable.byContradiction fun z => ?_
        rw [decide_eq_false (fun y => z (by have := V.int.inj y; omega))] at e3
        exact e3 rfl
      rw [decide_eq_true (show ks.length = js.length by omega)] at c
      replace c : ∀ H', Same H H' → Q (.bl (ovs ks js)) H' := c
      have ol := ovL_len ks js (by omega)
      refine ⟨.ref a, rfl, a, _, dx, _, _, rfl, ha, Z.cl, Z.a_parts, rfl, .ref b, rfl, b, _, dy, _, _, rfl, hb, Z.cl, Z.a_parts, rfl, p, q, vs, us, rfl, .inr ⟨SqT.of hp, SqT.of hq, fun D nD => ?_⟩⟩
      refine lc_it (walk_zipT el) (fun i H3 => H3 D = some (.lst (((ovL ks js).take i).map V.bl)) ∧ Same H H3) ?_ ?_ ?_ ?_
      · exact ⟨upd_same, Same.new nD⟩
      · rintro i H3 _ ⟨_, s3⟩
        exact ⟨SqT.of (s3 _ _ hp), SqT.of (s3 _ _ hq)⟩
      · rintro i x H3 H4 hi ⟨eD, s3⟩ ⟨t2, x1, y1, rfl, nt2, rfl, gx, gy⟩
        obtain ⟨k, ek, hk1⟩ := hk.get gx
        obtain ⟨j, ej, hj1⟩ := hj.get gy
        have s4 := s3.trans (Same.new (o := .tup [x1, y1]) nt2)
        have eD4 := Same.new (o := .tup [x1, y1]) nt2 _ _ eD
        have mk1 := List.mem_of_getElem? ek
        have zk := szs_mem mk1
        refine ⟨t2, _, rfl, SqT.of upd_same, rfl, x1, [y1], rfl, y1, [], rfl, rfl, rfl, ?_⟩
        unfold tYes
        dsimp only
        rw [if_pos rfl]
        obtain ⟨a1, d1, p1, rfl, ha1⟩ := hk1.at
        refine ⟨_, rfl, a1, d1, _, rfl, s4 _ _ ha1, by cases k; rfl, y1, rfl, .ref a1, y1, k, j, rfl, TO.same s4 hk1, TO.same s4 hj1, wfs_mem (wf_of wt).1 mk1, wfs_mem (wf_of wu).1 (List.mem_of_getElem? ej), by omega, by omega, fun H5 s5 => ?_⟩
        have eD5 := s5 _ _ eD4
        refine ⟨_, eD5, small1000 (by rw [List.length_map, List.length_take]; omega), ?_, ?_⟩
        · rw [upd_same, take_get (ovL_get ek ej), List.map_append]
          rfl
        · intro b' o e
          rw [upd_ne (ne_of_none e nD)]
          exact s5 _ _ (s4 _ _ e)
      rintro H3 ⟨eD, s3⟩
      rw [show vs.length = (ovL ks js).length by omega, List.take_length] at eD
      refine ⟨D, ovL ks js, rfl, SqL.of eD, ?_⟩
      rw [ovL_all]
      exact c _ s3
    refine ⟨.ref a, rfl, a, _, dx, _, _, rfl, ha, Z.cl, Z.a_name, rfl, rfl, _, rfl, ?_⟩
    rw [show decide (V.str (mk nm) = V.str (Str.ofString "_")) = decide (nm = [95]) from dec_name nm [95]]
    refine ite2 (fun e => ?_) (fun e => ?_)
    · have e95 : nm = [95] := of_decide_eq_true e
      subst e95
      have ek := hole_kids wt
      subst ek
      have e0 : vs = [] := List.length_eq_zero_iff.mp vl
      subst e0
      refine ⟨.ref a, rfl, a, _, dx, _, _, rfl, ha, Z.cl, Z.a_parts, rfl, false, .inr (.inl ⟨[], SqT.of hp, rfl⟩), iteT ?_⟩
      rw [if_pos rfl] at c
      exact c _ (Same.refl _)
    · exact iteF (rest fun z => e (decide_eq_true z))
end
end TW

namespace TW
open PySem PySem.Spec PyProof.Rows L2
def sp_common (n : Nat) : Sp := fun vs H Q _ => ∃ x y t u, vs = [x, y] ∧ LT H x t ∧ LT H y u ∧ wf t = true ∧ wf u = true ∧ sz t < n ∧ sz t ≤ 1000 ∧ ∀ H' v, Same H H' → LT H' v (cm t u) → Q v H'
section
variable {P : Program} {w : World} {K : PySem.W.Frag} {mg : Str → Option Value} {base : Heap}
theorem ok_common (T : Tx K mg) : ∀ n : Nat, FnR P w K mg base CX0 (n + 1) (He.ga K "_law_common") (sp_common n) := by
  intro n
  induction n with
  | zero =>
    intro A outer s H us vs Q E hr e0 r h
    obtain ⟨x, y, t, u, rfl, _, _, _, _, h0, _⟩ := h
    omega
  | succ n ih =>
  have G_law_common := ih
  refine fnR0 T.d_law_common sc_law_common (fun _ _ _ _ _ _ us hl => match us, hl with | [_, _], _ => rfl) (fun vs H Q E h => ?_) (fun cdv A outer s H vs Q E hr h => ?_)
  · obtain ⟨x, y, t, u, rfl, _⟩ := h
    rfl
  · obtain ⟨x, y, ⟨nm, ks⟩, ⟨om, js⟩, rfl, ht, hu, wt, wu, hz, hm, c⟩ := h
    refine ⟨_, (pss_cons (ps_if (PW.pt (pw_or (pt_cmpR op_ne (pe_ix (r := rIxT K) ix_tup (pv 0) pe_int (fun _ _ => rfl)) (pe_ix (r := rIxT K) ix_tup (pv 1) pe_int (fun _ _ => rfl)) (nomark _)) (pw_or1 (pt_cmpR op_ne (pe_callB call_len (by rfl) T.z_len (by decide +kernel) (pa_cons (pe_ix (r := rIxT K) ix_tup (pv 0) pe_int (fun _ _ => rfl)) pa_nil)) (pe_callB call_len (by rfl) T.z_len (by decide +kernel) (pa_cons (pe_ix (r := rIxT K) ix_tup (pv 1) pe_int (fun _ _ => rfl)) pa_nil)) (nomark _)))))
(pss_one (ps_ret (pe_tup (pa_cons pe_str (pa_cons (pe_tup pa_nil) pa_nil)))))
pss_nil)
(pss_cons (ps_setLc (i := 2) (own := [("_law_k", 3)]) (g := gName 3) rfl sc_law_common.nd rfl rfl (sw_true rfl rfl rfl (by decide +kernel)) (pi_range1 (by rfl) T.z_range (pa_cons (pe_callB call_len (by rfl) T.z_len (by decide +kernel) (pa_cons (pe_ix (r := rIxT K) ix_tup (pv 0) pe_int (fun _ _ => rfl)) pa_nil)) pa_nil)) (blkOk_by (own := [("_law_k", 3)]) (N := N_law_common) (sc := defScope s_law_common) (by decide +kernel)) (fun _ _ _ _ _ => pg_name (i := 3) sc_law_common.nd rfl (.inl rfl)) (fun _ _ _ _ _ => pts_nil) (fun _ _ _ _ _ => (pe_cr G_law_common (hr.mono (by omega)) (by rfl) T.v_law_common T.k_law_common pass0 (pa_cons (pe_ix (r := rIxT K) ix_tup (pe_ix (r := rIxT K) ix_tup (pv 0) pe_int (fun _ _ => rfl)) (pv 3) (fun _ _ => rfl)) (pa_cons (pe_ix (r := rIxT K) ix_tup (pe_ix (r := rIxT K) ix_tup (pv 1) pe_int (fun _ _ => rfl)) (pv 3) (fun _ _ => rfl)) pa_nil)))))
(pss_one (ps_ret (pe_tup (pa_cons (pe_ix (r := rIxT K) ix_tup (pv 0) pe_int (fun _ _ => rfl)) (pa_cons (pe_callTy call_tuple_of (by rfl) T.z_tuple (by decide +kernel) (pa_cons (pv 2) pa_nil)) pa_nil))))))), ?_⟩
    rw [LT] at ht hu
    obtain ⟨a, p, vs, rfl, ha, hp, hk⟩ := ht
    obtain ⟨b, q, us, rfl, hb, hq, hj⟩ := hu
    have vl := hk.length
    have ul := hj.length
    have hz' := hz
    have hm' := hm
    rw [sz] at hz' hm'
    have lz := len_szs ks
    have hno : ¬ (nm = om ∧ ks.length = js.length) → tTup (tCons (tC (V.str (Str.ofString "_"))) (tCons (tTup tNil) tNil)) (start N_law_common [.ref a, .ref b]) H Q := fun h => by
      have e4 : cm (.nd nm ks) (.nd om js) = hole := by rw [cm, if_neg h]
      rw [e4] at c
      refine ⟨szle, fun e ne => ⟨szle, fun f nf => c _ _ ((Same.new ne).trans (Same.new nf)) ?_⟩⟩
      exact LT.leaf (n := [95]) nf
    refine ⟨.ref a, rfl, a, _, 0, _, rfl, rfl, SqT.of ha, rfl, .ref b, rfl, b, _, 0, _, rfl, rfl, SqT.of hb, rfl, rfl, _, rfl, ?_⟩
    rw [dec_name]
    refine ite2 (fun e2 => ?_) (fun e2 => ?_)
    · refine iteT (hno fun z => ?_)
      rw [decide_eq_true z.1] at e2
      cases e2
    have en : nm = om := by
      refine Decidable.byContradiction fun z => ?_
      rw [decide_eq_false z] at e2
      exact e2 rfl
    refine ⟨.ref a, rfl, a, _, 1, _, rfl, rfl, SqT.of ha, rfl, .ref p, vs.length, rfl, .inr ⟨_, SqT.of hp, rfl⟩, .ref b, rfl, b, _, 1, _, rfl, rfl, SqT.of hb, rfl, .ref q, us.length, rfl, .inr ⟨_, SqT.of hq, rfl⟩, rfl, _, rfl, ite2 (fun e3 => ?_) (fun e3 => ?_)⟩
    · refine hno fun z => ?_
      rw [decide_eq_true (show V.int (vs.length : Int) = V.int (us.length : Int) by rw [show vs.length = us.length by omega])] at e3
      cases e3
    have el : vs.length = us.length := by
      refine Decidable.byContradiction fun z => ?_
      rw [decide_eq_false (fun y => z (by have := V.int.inj y; omega))] at e3
      exact e3 rfl
    have ecm : cm (.nd nm ks) (.nd om js) = .nd nm (cms ks js) := by rw [cm, if_pos ⟨en, by omega⟩]
    rw [ecm] at c
    have cl := cms_len ks js (by omega)
    refine ⟨.ref a, rfl, a, _, 1, _, rfl, rfl, SqT.of ha, rfl, .ref p, vs.length, rfl, .inr ⟨_, SqT.of hp, rfl⟩, vs.length, rfl, by omega, by omega, fun D nD => ?_⟩
    refine lc_range (lo := 0) (n := ((vs.length : Int)).toNat) (fun i H3 => ∃ ys, H3 D = some (.lst ys) ∧ Same H H3 ∧ LTs H3 ys ((cms ks js).take i)) ?_ ?_ ?_
    · exact ⟨[], upd_same, Same.new nD, by rw [List.take_zero, LTs]; trivial⟩
    · rintro i H3 hi ⟨ys, eD, s3, hy⟩
      have hi' : i < vs.length := hi
      have e0 : ((0 : Int) + (i : Nat)) = (i : Nat) := by omega
      rw [e0]
      have gx : vs[i]? = some vs[i] := List.getElem?_eq_getElem hi'
      have gy : us[i]? = some us[i] := List.getElem?_eq_getElem (by omega)
      obtain ⟨k, ek, hk1⟩ := hk.get gx
      obtain ⟨j, ej, hj1⟩ := hj.get gy
      have mk1 := List.mem_of_getElem? ek
      have zk := szs_mem mk1
      refine ⟨rfl, ?_⟩
      unfold tYes
      dsimp only
      rw [if_pos rfl]
      refine ⟨.ref a, rfl, a, _, 1, _, rfl, rfl, SqT.of (s3 _ _ ha), rfl, _, rfl, p, vs, i, _, rfl, rfl, SqT.of (s3 _ _ hp), atI_nat gx, .ref b, rfl, b, _, 1, _, rfl, rfl, SqT.of (s3 _ _ hb), rfl, _, rfl, q, us, i, _, rfl, rfl, SqT.of (s3 _ _ hq), atI_nat gy,
        vs[i], us[i], k, j, rfl, LT.kp (Same.kp s3) _ _ hk1, LT.kp (Same.kp s3) _ _ hj1, wfs_mem (wf_of wt).1 mk1, wfs_mem (wf_of wu).1 (List.mem_of_getElem? ej), by omega, by omega, fun H5 v' s5 to5 => ?_⟩
      have eD5 := s5 _ _ eD
      have kk : Kp H5 (upd H5 D (.lst (ys ++ [v']))) := Kp.lst eD5
      refine ⟨ys, eD5, small1000 (by rw [hy.length, List.length_take]; omega), ys ++ [v'], upd_same, ?_, ?_⟩
      · intro b' o e
        rw [upd_ne (ne_of_none e nD)]
        exact s5 _ _ (s3 _ _ e)
      · rw [take_get (cms_get ek ej)]
        exact LTs.snoc (LT.kp kk _ _ to5) (LTs.kp ((Same.kp s5).trans kk) _ _ hy)
    rintro H3 ⟨ys, eD, s3, hy⟩
    rw [show ((vs.length : Int)).toNat = (cms ks js).length by omega, List.take_length] at hy
    refine ⟨.ref a, rfl, a, _, 0, _, rfl, rfl, SqT.of (s3 _ _ ha), rfl, .ref D, rfl, D, ys, rfl, .inl ⟨SqL.of eD, fun e ne => ⟨szle, fun f nf => c _ _ (s3.trans ((Same.new ne).trans (Same.new nf))) (LT.node hy ne nf)⟩⟩⟩
/-! ### over -/
def sp_over (n : Nat) : Sp := fun vs H Q _ => ∃ x y t u, vs = [x, y] ∧ LT H x t ∧ LT H y u ∧ wf t = true ∧ wf u = true ∧ sz t < n ∧ sz t ≤ 1000 ∧ Q (.bl (ov t u)) H
theorem ok_over (T : Tx K mg) : ∀ n : Nat, FnR P w K mg base CX0 (n + 1) (He.ga K "_law_over") (sp_over n) := by
  intro n
  induction n with
  | zero =>
    intro A outer s H us vs Q E hr e0 r h
    obtain ⟨x, y, t, u, rfl, _, _, _, _, h0, _⟩ := h
    omega
  | succ n ih =>
  have G_law_over := ih
  refine fnR0 T.d_law_over sc_law_over (fun _ _ _ _ _ _ us hl => match us, hl with | [_, _], _ => rfl) (fun vs H Q E h => ?_) (fun cdv A outer s H vs Q E hr h => ?_)
  · obtain ⟨x, y, t, u, rfl, _⟩ := h
    rfl
  · obtain ⟨x, y, ⟨nm, ks⟩, ⟨om, js⟩, rfl, ht, hu, wt, wu, hz, hm, c⟩ := h
    refine ⟨_, (pss_cons (ps_if (pt_cmpR op_eq (pe_ix (r := rIxT K) ix_tup (pv 0) pe_int (fun _ _ => rfl)) pe_str (nomark _))
(pss_one (ps_ret pe_bl))
pss_nil)
(pss_cons (ps_if (PW.pt (pw_or (pt_cmpR op_ne (pe_ix (r := rIxT K) ix_tup (pv 0) pe_int (fun _ _ => rfl)) (pe_ix (r := rIxT K) ix_tup (pv 1) pe_int (fun _ _ => rfl)) (nomark _)) (pw_or1 (pt_cmpR op_ne (pe_callB call_len (by rfl) T.z_len (by decide +kernel) (pa_cons (pe_ix (r := rIxT K) ix_tup (pv 0) pe_int (fun _ _ => rfl)) pa_nil)) (pe_callB call_len (by rfl) T.z_len (by decide +kernel) (pa_cons (pe_ix (r := rIxT K) ix_tup (pv 1) pe_int (fun _ _ => rfl)) pa_nil)) (nomark _)))))
(pss_one (ps_ret pe_bl))
pss_nil)
(pss_cons (ps_for PassesOwn.never rfl (pi_range1 (by rfl) T.z_range (pa_cons (pe_callB call_len (by rfl) T.z_len (by decide +kernel) (pa_cons (pe_ix (r := rIxT K) ix_tup (pv 0) pe_int (fun _ _ => rfl)) pa_nil)) pa_nil)) (pg_name (i := 2) sc_law_over.nd rfl (.inl rfl))
(pss_one (ps_if (pt_not (pt_val (pe_cr G_law_over (hr.mono (by omega)) (by rfl) T.v_law_over T.k_law_over pass0 (pa_cons (pe_ix (r := rIxT K) ix_tup (pe_ix (r := rIxT K) ix_tup (pv 0) pe_int (fun _ _ => rfl)) (pv 2) (fun _ _ => rfl)) (pa_cons (pe_ix (r := rIxT K) ix_tup (pe_ix (r := rIxT K) ix_tup (pv 1) pe_int (fun _ _ => rfl)) (pv 2) (fun _ _ => rfl)) pa_nil)))))
(pss_one (ps_ret pe_bl))
pss_nil)))
(pss_one (ps_ret pe_bl))))), ?_⟩
    rw [LT] at ht hu
    obtain ⟨a, p, vs, rfl, ha, hp, hk⟩ := ht
    obtain ⟨b, q, us, rfl, hb, hq, hj⟩ := hu
    have vl := hk.length
    have ul := hj.length
    have hz' := hz
    have hm' := hm
    rw [sz] at hz' hm'
    have lz := len_szs ks
    rw [ov] at c
    refine ⟨.ref a, rfl, a, _, 0, _, rfl, rfl, SqT.of ha, rfl, rfl, _, rfl, ?_⟩
    rw [show decide (V.str (mk nm) = V.str (Str.ofString "_")) = decide (nm = [95]) from dec_name nm [95]]
    refine ite2 (fun e => ?_) (fun e => ?_)
    · rw [if_pos (of_decide_eq_true e)] at c
      exact c
    rw [if_neg (fun z => e (decide_eq_true z))] at c
    refine ⟨.ref a, rfl, a, _, 0, _, rfl, rfl, SqT.of ha, rfl, .ref b, rfl, b, _, 0, _, rfl, rfl, SqT.of hb, rfl, rfl, _, rfl, ?_⟩
    rw [dec_name]
    refine ite2 (fun e2 => ?_) (fun e2 => ?_)
    · have : nm ≠ om := fun z => by
        rw [decide_eq_true z] at e2
        cases e2
      rw [decide_eq_false this] at c
      exact iteT c
    have en : nm = om := by
      refine Decidable.byContradiction fun z => ?_
      rw [decide_eq_false z] at e2
      exact e2 rfl
    rw [decide_eq_true en] at c
    refine ⟨.ref a, rfl, a, _, 1, _, rfl, rfl, SqT.of ha, rfl, .ref p, vs.length, rfl, .inr ⟨_, SqT.of hp, rfl⟩, .ref b, rfl, b, _, 1, _, rfl, rfl, SqT.of hb, rfl, .ref q, us.length, rfl, .inr ⟨_, SqT.of hq, rfl⟩, rfl, _, rfl, ite2 (fun e3 => ?_) (fun e3 => ?_)⟩
    · have : ¬ ks.length = js.length := fun z => by
        rw [decide_eq_true (show V.int (vs.length : Int) = V.int (us.length : Int) by rw [show vs.length = us.length by omega])] at e3
        cases e3
      rw [decide_eq_false this] at c
      exact c
    have el : vs.length = us.length := by
      refine Decidable.byContradiction fun z => ?_
      rw [decide_eq_false (fun y => z (by have := V.int.inj y; omega))] at e3
      exact e3 rfl
    rw [decide_eq_true (show ks.length = js.length by omega)] at c
    replace c : Q (.bl (ovs ks js)) H := c
    have ol := ovL_len ks js (by omega)
    rw [← ovL_all] at c
    refine ⟨.ref a, rfl, a, _, 1, _, rfl, rfl, SqT.of ha, rfl, .ref p, vs.length, rfl, .inr ⟨_, SqT.of hp, rfl⟩, vs.length, rfl, by omega, by omega, for_range (lo := 0) (n := ((vs.length : Int)).toNat)
      (fun i σ H3 => ∃ y, σ = [some (.ref a), some (.ref b), y] ∧ H3 = H ∧ ((ovL ks js).take i).all id = true) ⟨none, rfl, rfl, rfl⟩ ?_ ?_⟩
    · rintro i σ H3 hi ⟨y, rfl, rfl, hall⟩
      have hi' : i < vs.length := hi
      have e0 : ((0 : Int) + (i : Nat)) = (i : Nat) := by omega
      rw [e0]
      have gx : vs[i]? = some vs[i] := List.getElem?_eq_getElem hi'
      have gy : us[i]? = some us[i] := List.getElem?_eq_getElem (by omega)
      obtain ⟨k, ek, hk1⟩ := hk.get gx
      obtain ⟨j, ej, hj1⟩ := hj.get gy
      have mk1 := List.mem_of_getElem? ek
      have zk := szs_mem mk1
      have og := ovL_get ek ej
      refine ⟨.ref a, rfl, a, _, 1, _, rfl, rfl, SqT.of ha, rfl, _, rfl, p, vs, i, _, rfl, rfl, SqT.of hp, atI_nat gx, .ref b, rfl, b, _, 1, _, rfl, rfl, SqT.of hb, rfl, _, rfl, q, us, i, _, rfl, rfl, SqT.of hq, atI_nat gy,
        vs[i], us[i], k, j, rfl, hk1, hj1, wfs_mem (wf_of wt).1 mk1, wfs_mem (wf_of wu).1 (List.mem_of_getElem? ej), by omega, by omega, _, rfl, ?_⟩
      cases z : ov k j with
      | false =>
        have : (ovL ks js).all id = false := by
          cases y : (ovL ks js).all id with
          | false => rfl
          | true =>
            have := List.all_eq_true.mp y _ (List.mem_of_getElem? og)
            rw [z] at this
            cases this
        rw [this] at c
        exact iteT c
      | true =>
        refine iteF ⟨_, rfl, rfl, ?_⟩
        rw [take_get og, List.all_append, hall, z]
        rfl
    · rintro σ H3 ⟨y, rfl, rfl, hall⟩
      rw [show ((vs.length : Int)).toNat = (ovL ks js).length by omega, List.take_length] at hall
      rw [hall] at c
      exact c
end
end TW

namespace TW
open PySem PySem.Spec PyProof.Rows L2
/-! ### the gaps of a tree -/
mutual
def gp : Tr → List Nat → List (List Nat)
  | .nd n ks, p => if n = [95] then [p] else gps ks p 0
def gps : List Tr → List Nat → Nat → List (List Nat)
  | [], _, _ => []
  | t :: r, p, i => gp t (p ++ [i]) ++ gps r p (i + 1)
end
theorem gps_snoc (t : Tr) (p : List Nat) : ∀ (ks : List Tr) (i : Nat), gps (ks ++ [t]) p i = gps ks p i ++ gp t (p ++ [i + ks.length])
  | [], i => by
    show gps [t] p i = gps [] p i ++ gp t (p ++ [i + 0])
    rw [gps, gps, gps, List.append_nil]
    rfl
  | x :: r, i => by
    show gps (x :: (r ++ [t])) p i = gps (x :: r) p i ++ gp t (p ++ [i + (r.length + 1)])
    rw [gps, gps, gps_snoc t p r (i + 1), List.append_assoc, show i + 1 + r.length = i + (r.length + 1) by omega]
mutual
theorem gp_len : ∀ (t : Tr) (p : List Nat), (gp t p).length ≤ sz t
  | .nd n ks, p => by
    rw [gp, sz]
    by_cases h : n = [95]
    · rw [if_pos h]
      show 1 ≤ _
      omega
    · rw [if_neg h]
      have := gps_len ks p 0
      omega
theorem gps_len : ∀ (ks : List Tr) (p : List Nat) (i : Nat), (gps ks p i).length ≤ szs ks
  | [], _, _ => by rw [gps]; exact Nat.zero_le _
  | t :: r, p, i => by
    have a := gp_len t (p ++ [i])
    have b := gps_len r p (i + 1)
    rw [gps, szs, List.length_append]
    omega
end
/-- a path as a tuple -/
def PP (H : Hp) (v : V) (p : List Nat) : Prop := ∃ q, v = .ref q ∧ H q = some (.tup (pathV p))
theorem PP.same {H H' : Hp} (s : Same H H') {v : V} {p : List Nat} (h : PP H v p) : PP H' v p := by
  obtain ⟨q, e, h1⟩ := h
  exact ⟨q, e, s _ _ h1⟩
abbrev fsts (xs : List (List Nat × Tr)) : List (List Nat) := xs.map (·.1)
def sp_paths1 (f : Tr → List Nat → List (List Nat)) (n : Nat) : Sp := fun vs H Q _ => ∃ (x : V) (q : Addr) (t : Tr) (p : List Nat), vs = [x, .ref q] ∧ LT H x t ∧ H q = some (.tup (pathV p)) ∧ wf t = true ∧ sz t < n ∧ p.length + sz t ≤ 1000 ∧
  ∀ H' a us, Same H H' → H a = none → H' a = some (.lst us) → All2 (PP H') us (f t p) → Q (.ref a) H'
section
variable {P : Program} {w : World} {K : PySem.W.Frag} {mg : Str → Option Value} {base : Heap}
theorem ok_gaps (T : Tx K mg) : ∀ n : Nat, FnR P w K mg base CX0 (n + 1) (He.ga K "_law_gaps") (sp_paths1 gp n) := by
  intro n
  induction n with
  | zero =>
    intro A outer s H us vs Q E hr e0 r h
    obtain ⟨x, q, t, p, rfl, _, _, _, h0, _⟩ := h
    omega
  | succ n ih =>
  have G_law_gaps := ih
  refine fnR0 T.d_law_gaps sc_law_gaps (fun _ _ _ _ _ _ us hl => match us, hl with | [_, _], _ => rfl) (fun vs H Q E h => ?_) (fun cdv A outer s H vs Q E hr h => ?_)
  · obtain ⟨x, q, t, p, rfl, _⟩ := h
    rfl
  · obtain ⟨x, q, ⟨nm, ks⟩, p, rfl, ht, hq, wt, hz, hm, c⟩ := h
    refine ⟨_, (pss_cons (ps_if (pt_cmpR op_eq (pe_ix (r := rIxT K) ix_tup (pv 0) pe_int (fun _ _ => rfl)) pe_str (nomark _))
(pss_one (ps_ret (pe_lst (pa_cons (pv 1) pa_nil))))
pss_nil)
(pss_cons (ps_set (i := 2) sc_law_gaps.nd rfl (.inl rfl) (pe_lst pa_nil))
(pss_cons (ps_for PassesOwn.never rfl (pi_range1 (by rfl) T.z_range (pa_cons (pe_callB call_len (by rfl) T.z_len (by decide +kernel) (pa_cons (pe_ix (r := rIxT K) ix_tup (pv 0) pe_int (fun _ _ => rfl)) pa_nil)) pa_nil)) (pg_name (i := 3) sc_law_gaps.nd rfl (.inl rfl))
(pss_one (ps_set (i := 2) sc_law_gaps.nd rfl (.inl rfl) (pe_op op_cat (pv 2) (pe_cr G_law_gaps (hr.mono (by omega)) (by rfl) T.v_law_gaps T.k_law_gaps pass0 (pa_cons (pe_ix (r := rIxT K) ix_tup (pe_ix (r := rIxT K) ix_tup (pv 0) pe_int (fun _ _ => rfl)) (pv 3) (fun _ _ => rfl)) (pa_cons (pe_op op_catA (pv 1) (pe_tup (pa_cons (pv 3) pa_nil))) pa_nil)))))))
(pss_one (ps_ret (pv 2)))))), ?_⟩
    rw [LT] at ht
    obtain ⟨a, b, vs, rfl, ha, hb, hk⟩ := ht
    have vl := hk.length
    have hz' := hz
    have hm' := hm
    rw [sz] at hz' hm'
    have lz := len_szs ks
    rw [gp] at c
    refine ⟨.ref a, rfl, a, _, 0, _, rfl, rfl, SqT.of ha, rfl, rfl, _, rfl, ?_⟩
    rw [show decide (V.str (mk nm) = V.str (Str.ofString "_")) = decide (nm = [95]) from dec_name nm [95]]
    refine ite2 (fun e => ?_) (fun e => ?_)
    · rw [if_pos (of_decide_eq_true e)] at c
      refine ⟨.ref q, rfl, szle, fun f nf => c _ f _ (Same.new nf) nf upd_same ?_⟩
      exact .cons ⟨q, rfl, Same.new nf _ _ hq⟩ .nil
    rw [if_neg (fun z => e (decide_eq_true z))] at c
    refine ⟨szle, fun f nf => ?_⟩
    have s1 : Same H (upd H f (.lst [])) := Same.new nf
    refine ⟨.ref a, rfl, a, _, 1, _, rfl, rfl, SqT.of (s1 _ _ ha), rfl, .ref b, vs.length, rfl, .inr ⟨_, SqT.of (s1 _ _ hb), rfl⟩, vs.length, rfl, by omega, by omega, for_range (lo := 0) (n := ((vs.length : Int)).toNat)
      (fun i σ H3 => ∃ (y3 : Option V) (f3 : Addr) (us : List V), σ = [some (.ref a), some (.ref q), some (.ref f3), y3] ∧ Same H H3 ∧ H f3 = none ∧ H3 f3 = some (.lst us) ∧ All2 (PP H3) us (gps (ks.take i) p 0)) ?_ ?_ ?_⟩
    · exact ⟨none, f, [], rfl, s1, nf, upd_same, by rw [List.take_zero, gps]; exact .nil⟩
    · rintro i σ H3 hi ⟨y3, f3, us, rfl, s3, n3, e3, hw⟩
      have hi' : i < vs.length := hi
      have e0 : ((0 : Int) + (i : Nat)) = (i : Nat) := by omega
      have gx : vs[i]? = some vs[i] := List.getElem?_eq_getElem hi'
      obtain ⟨t, et, ht⟩ := hk.get gx
      have mt := List.mem_of_getElem? et
      have zt := szs_mem mt
      refine ⟨.ref f3, rfl, .ref a, rfl, a, _, 1, _, rfl, rfl, SqT.of (s3 _ _ ha), rfl, _, rfl, b, vs, _, _, rfl, rfl, SqT.of (s3 _ _ hb), (by rw [e0]; exact atI_nat gx), ?_⟩
      refine rd_path (kn := i) rfl rfl e0 (s3 _ _ hq) (by omega) fun H4 q4 s4 h4 => ?_
      refine ⟨vs[i], q4, t, p ++ [i], rfl, LT.kp (Same.kp (s3.trans s4)) _ _ ht, h4, wfs_mem (wf_of wt).1 mt, by omega, ?_, fun H5 a5 us5 s5 n5 e5 w5 => ?_⟩
      · rw [List.length_append]
        show p.length + 1 + sz t ≤ 1000
        omega
      · have l1 : us.length ≤ 1000 := by
          have l0 := gps_len (ks.take i) p 0
          have l2 : szs (ks.take i) ≤ szs ks := by
            have := szs_app (ks.take i) (ks.drop i)
            rw [List.take_append_drop] at this
            omega
          rw [hw.len]
          omega
        have l2 : us5.length ≤ 1000 := by
          have := gp_len t (p ++ [i])
          rw [w5.len]
          omega
        refine ⟨f3, a5, us, us5, rfl, rfl, s5 _ _ (s4 _ _ e3), e5, Nat.le_trans (show us.length + us5.length ≤ 3000 by omega) (by decide), fun g ng => ?_⟩
        have s6 := s5.trans (Same.new (o := .lst (us ++ us5)) ng)
        refine ⟨_, g, us ++ us5, rfl, s3.trans (s4.trans s6), (s3.trans (s4.trans s5)).free ng, upd_same, ?_⟩
        rw [take_get et, gps_snoc, List.length_take, show 0 + min i ks.length = i by omega]
        exact All2.app (hw.imp fun v x h => PP.same (s4.trans s6) h) (w5.imp fun v x h => PP.same (Same.new ng) h)
    · rintro σ H3 ⟨y3, f3, us, rfl, s3, n3, e3, hw⟩
      rw [show ((vs.length : Int)).toNat = ks.length by omega, List.take_length] at hw
      exact ⟨.ref f3, rfl, c H3 f3 us s3 n3 e3 hw⟩
theorem ok_walkP (T : Tx K mg) : ∀ n : Nat, FnR P w K mg base CX0 (n + 1) (He.ga K "_law_walk") (sp_paths1 (fun t p => fsts (wk t p)) n) := by
  intro n
  induction n with
  | zero =>
    intro A outer s H us vs Q E hr e0 r h
    obtain ⟨x, q, t, p, rfl, _, _, _, h0, _⟩ := h
    omega
  | succ n ih =>
  have G_law_walk := ih
  refine fnR0 T.d_law_walk sc_law_walk (fun _ _ _ _ _ _ us hl => match us, hl with | [_, _], _ => rfl) (fun vs H Q E h => ?_) (fun cdv A outer s H vs Q E hr h => ?_)
  · obtain ⟨x, q, t, p, rfl, _⟩ := h
    rfl
  · obtain ⟨x, q, ⟨nm, ks⟩, p, rfl, ht, hq, wt, hz, hm, c⟩ := h
    refine ⟨_, (pss_cons (ps_set (i := 2) sc_law_walk.nd rfl (.inl rfl) (pe_lst (pa_cons (pv 1) pa_nil)))
(pss_cons (ps_for PassesOwn.never rfl (pi_range1 (by rfl) T.z_range (pa_cons (pe_callB call_len (by rfl) T.z_len (by decide +kernel) (pa_cons (pe_ix (r := rIxT K) ix_tup (pv 0) pe_int (fun _ _ => rfl)) pa_nil)) pa_nil)) (pg_name (i := 3) sc_law_walk.nd rfl (.inl rfl))
(pss_one (ps_set (i := 2) sc_law_walk.nd rfl (.inl rfl) (pe_op op_cat (pv 2) (pe_cr G_law_walk (hr.mono (by omega)) (by rfl) T.v_law_walk T.k_law_walk pass0 (pa_cons (pe_ix (r := rIxT K) ix_tup (pe_ix (r := rIxT K) ix_tup (pv 0) pe_int (fun _ _ => rfl)) (pv 3) (fun _ _ => rfl)) (pa_cons (pe_op op_catA (pv 1) (pe_tup (pa_cons (pv 3) pa_nil))) pa_nil)))))))
(pss_one (ps_ret (pv 2))))), ?_⟩
    rw [LT] at ht
    obtain ⟨a, b, vs, rfl, ha, hb, hk⟩ := ht
    have vl := hk.length
    have hz' := hz
    have hm' := hm
    rw [sz] at hz' hm'
    have lz := len_szs ks
    refine ⟨.ref q, rfl, szle, fun f nf => ?_⟩
    have s1 : Same H (upd H f (.lst [.ref q])) := Same.new nf
    refine ⟨.ref a, rfl, a, _, 1, _, rfl, rfl, SqT.of (s1 _ _ ha), rfl, .ref b, vs.length, rfl, .inr ⟨_, SqT.of (s1 _ _ hb), rfl⟩, vs.length, rfl, by omega, by omega, for_range (lo := 0) (n := ((vs.length : Int)).toNat)
      (fun i σ H3 => ∃ (y3 : Option V) (f3 : Addr) (us : List V), σ = [some (.ref a), some (.ref q), some (.ref f3), y3] ∧ Same H H3 ∧ H f3 = none ∧ H3 f3 = some (.lst us) ∧ All2 (PP H3) us (p :: fsts (wks (ks.take i) p 0))) ?_ ?_ ?_⟩
    · exact ⟨none, f, [.ref q], rfl, s1, nf, upd_same, .cons ⟨q, rfl, s1 _ _ hq⟩ (by rw [List.take_zero, wks]; exact .nil)⟩
    · rintro i σ H3 hi ⟨y3, f3, us, rfl, s3, n3, e3, hw⟩
      have hi' : i < vs.length := hi
      have e0 : ((0 : Int) + (i : Nat)) = (i : Nat) := by omega
      have gx : vs[i]? = some vs[i] := List.getElem?_eq_getElem hi'
      obtain ⟨t, et, ht⟩ := hk.get gx
      have mt := List.mem_of_getElem? et
      have zt := szs_mem mt
      refine ⟨.ref f3, rfl, .ref a, rfl, a, _, 1, _, rfl, rfl, SqT.of (s3 _ _ ha), rfl, _, rfl, b, vs, _, _, rfl, rfl, SqT.of (s3 _ _ hb), (by rw [e0]; exact atI_nat gx), ?_⟩
      refine rd_path (kn := i) rfl rfl e0 (s3 _ _ hq) (by omega) fun H4 q4 s4 h4 => ?_
      refine ⟨vs[i], q4, t, p ++ [i], rfl, LT.kp (Same.kp (s3.trans s4)) _ _ ht, h4, wfs_mem (wf_of wt).1 mt, by omega, ?_, fun H5 a5 us5 s5 n5 e5 w5 => ?_⟩
      · rw [List.length_append]
        show p.length + 1 + sz t ≤ 1000
        omega
      · have l1 : us.length ≤ 2000 := by
          have l0 := wks_len (ks.take i) p 0
          have l2 : szs (ks.take i) ≤ szs ks := by
            have := szs_app (ks.take i) (ks.drop i)
            rw [List.take_append_drop] at this
            omega
          rw [hw.len, List.length_cons, List.length_map, l0]
          omega
        have l2 : us5.length ≤ 1000 := by
          rw [w5.len, List.length_map, wk_len]
          omega
        refine ⟨f3, a5, us, us5, rfl, rfl, s5 _ _ (s4 _ _ e3), e5, Nat.le_trans (show us.length + us5.length ≤ 3000 by omega) (by decide), fun g ng => ?_⟩
        have s6 := s5.trans (Same.new (o := .lst (us ++ us5)) ng)
        refine ⟨_, g, us ++ us5, rfl, s3.trans (s4.trans s6), (s3.trans (s4.trans s5)).free ng, upd_same, ?_⟩
        rw [take_get et, wks_snoc, List.length_take, show 0 + min i ks.length = i by omega]
        show All2 _ _ (p :: List.map _ (wks (ks.take i) p 0 ++ wk t (p ++ [i])))
        rw [List.map_append]
        exact All2.app (hw.imp fun v x h => PP.same (s4.trans s6) h) (w5.imp fun v x h => PP.same (Same.new ng) h)
    · rintro σ H3 ⟨y3, f3, us, rfl, s3, n3, e3, hw⟩
      rw [show ((vs.length : Int)).toNat = ks.length by omega, List.take_length] at hw
      refine ⟨.ref f3, rfl, c H3 f3 us s3 n3 e3 ?_⟩
      show All2 (PP H3) us (fsts (wk (.nd nm ks) p))
      rw [wk]
      exact hw
end
end TW

namespace TW
open PySem PySem.Spec PyProof.Rows L2
/-! ### a part exchanged -/
def atN : Tr → List Nat → Option Tr
  | t, [] => some t
  | .nd _ ks, i :: p => match ks[i]? with
    | some k => atN k p
    | none => none
def pt : Tr → List Nat → Tr → Tr
  | _, [], s => s
  | .nd n ks, i :: p, s => match ks[i]? with
    | some k => .nd n (ks.set i (pt k p s))
    | none => .nd n ks
theorem atN_cons {n : List Nat} {ks : List Tr} {i : Nat} {p : List Nat} {u : Tr} (h : atN (.nd n ks) (i :: p) = some u) : ∃ k, ks[i]? = some k ∧ atN k p = some u := by
  rw [atN] at h
  cases e : ks[i]? with
  | none => rw [e] at h; cases h
  | some k =>
    rw [e] at h
    exact ⟨k, rfl, h⟩
theorem pt_cons {n : List Nat} {ks : List Tr} {i : Nat} {p : List Nat} {k s : Tr} (h : ks[i]? = some k) : pt (.nd n ks) (i :: p) s = .nd n (ks.set i (pt k p s)) := by
  rw [pt, h]
theorem szs_set : ∀ {ks : List Tr} {i : Nat} {k : Tr} (s : Tr), ks[i]? = some k → szs (ks.set i s) + sz k = szs ks + sz s
  | [], _, _, _, h => by simp at h
  | x :: r, 0, k, s, h => by
    have e : x = k := Option.some.inj h
    subst e
    show szs (s :: r) + sz x = szs (x :: r) + sz s
    rw [szs, szs]
    omega
  | x :: r, i + 1, k, s, h => by
    have := szs_set (ks := r) (i := i) s h
    show szs (x :: r.set i s) + sz k = szs (x :: r) + sz s
    rw [szs, szs]
    omega
theorem wfs_set : ∀ {ks : List Tr} {i : Nat} {s : Tr}, wfs ks = true → wf s = true → wfs (ks.set i s) = true
  | [], _, _, _, _ => by show wfs [] = true; rw [wfs]
  | x :: r, 0, s, h, hs => by
    show wfs (s :: r) = true
    rw [wfs, hs, (wfs_cons h).2]
    rfl
  | x :: r, i + 1, s, h, hs => by
    show wfs (x :: r.set i s) = true
    rw [wfs, (wfs_cons h).1, wfs_set (wfs_cons h).2 hs]
    rfl
theorem pt_sz : ∀ (p : List Nat) (t s u : Tr), atN t p = some u → sz (pt t p s) + sz u = sz t + sz s
  | [], t, s, u, h => by
    have e : t = u := Option.some.inj (show some t = some u from h)
    subst e
    rw [pt]
    omega
  | i :: p, .nd n ks, s, u, h => by
    obtain ⟨k, hk, hu⟩ := atN_cons h
    have a := pt_sz p k s u hu
    have b := szs_set (pt k p s) hk
    rw [pt_cons hk, sz, sz]
    omega
theorem pt_wf : ∀ (p : List Nat) (t s u : Tr), atN t p = some u → wf t = true → wf s = true → wf (pt t p s) = true
  | [], t, s, u, h, _, hs => by rw [pt]; exact hs
  | i :: p, .nd n ks, s, u, h, ht, hs => by
    obtain ⟨k, hk, hu⟩ := atN_cons h
    rw [pt_cons hk]
    have w := wf_of ht
    refine bigN_wf ?_ (by rw [List.length_set]; exact w.2) (wfs_set w.1 (pt_wf p k s u hu (wfs_mem w.1 (List.mem_of_getElem? hk)) hs))
    rcases name_cases ht with z | z
    · exact z
    · rw [z.2] at hk
      cases hk
theorem LTs.set {H : Hp} {v : V} {s : Tr} (h : LT H v s) : ∀ {vs : List V} {ts : List Tr} (i : Nat), LTs H vs ts → LTs H (vs.set i v) (ts.set i s)
  | [], [], _, g => g
  | x :: vs, y :: ts, 0, g => by
    rw [LTs] at g
    show LTs H (v :: vs) (s :: ts)
    rw [LTs]
    exact ⟨h, g.2⟩
  | x :: vs, y :: ts, i + 1, g => by
    rw [LTs] at g
    show LTs H (x :: vs.set i v) (y :: ts.set i s)
    rw [LTs]
    exact ⟨g.1, LTs.set h i g.2⟩
  | [], _ :: _, _, g => by simp [LTs] at g
  | _ :: _, [], _, g => by simp [LTs] at g
def sp_put (n : Nat) : Sp := fun vs H Q _ => ∃ (x y : V) (q : Addr) (t s u : Tr) (p : List Nat), vs = [x, .ref q, y] ∧ LT H x t ∧ LT H y s ∧ H q = some (.tup (pathV p)) ∧ wf t = true ∧ atN t p = some u ∧ p.length < n ∧ p.length ≤ 1000 ∧
  ∀ H' v, Same H H' → LT H' v (pt t p s) → Q v H'
section
variable {P : Program} {w : World} {K : PySem.W.Frag} {mg : Str → Option Value} {base : Heap}
theorem ok_put (T : Tx K mg) : ∀ n : Nat, FnR P w K mg base CX0 (n + 1) (He.ga K "_law_put") (sp_put n) := by
  intro n
  induction n with
  | zero =>
    intro A outer s H us vs Q E hr e0 r h
    obtain ⟨x, y, q, t, s', u, p, rfl, _, _, _, _, _, h0, _⟩ := h
    omega
  | succ n ih =>
  have G_law_put := ih
  refine fnR0 T.d_law_put sc_law_put (fun _ _ _ _ _ _ us hl => match us, hl with | [_, _, _], _ => rfl) (fun vs H Q E h => ?_) (fun cdv A outer s H vs Q E hr h => ?_)
  · obtain ⟨x, y, q, t, s', u, p, rfl, _⟩ := h
    rfl
  · obtain ⟨x, y, q, ⟨nm, ks⟩, s', u, p, rfl, ht, hs, hq, wt, hat, hn, hm, c⟩ := h
    refine ⟨_, (pss_cons (ps_if (pt_cmpR op_eq (pe_callB call_len (by rfl) T.z_len (by decide +kernel) (pa_cons (pv 1) pa_nil)) pe_int (nomark _))
(pss_one (ps_ret (pv 2)))
pss_nil)
(pss_cons (ps_set (i := 3) sc_law_put.nd rfl (.inl rfl) (pe_callTy call_list_of (by rfl) T.z_list (by decide +kernel) (pa_cons (pe_ix (r := rIxT K) ix_tup (pv 0) pe_int (fun _ _ => rfl)) pa_nil)))
(pss_cons (ps_asg (pe_cr G_law_put (hr.mono (by omega)) (by rfl) T.v_law_put T.k_law_put pass0 (pa_cons (pe_ix (r := rIxL K) ix_list (pv 3) (pe_ix (r := rIxT K) ix_tup (pv 1) pe_int (fun _ _ => rfl)) (fun _ _ => rfl)) (pa_cons (pe_slice sl_tup (pv 1) (po_some pe_int) po_none) (pa_cons (pv 2) pa_nil)))) (pg_sub (pv 3) (pe_ix (r := rIxT K) ix_tup (pv 1) pe_int (fun _ _ => rfl)) set_list))
(pss_one (ps_ret (pe_tup (pa_cons (pe_ix (r := rIxT K) ix_tup (pv 0) pe_int (fun _ _ => rfl)) (pa_cons (pe_callTy call_tuple_of (by rfl) T.z_tuple (by decide +kernel) (pa_cons (pv 3) pa_nil)) pa_nil)))))))), ?_⟩
    have ht0 := ht
    rw [LT] at ht
    obtain ⟨a, b, vs, rfl, ha, hb, hk⟩ := ht
    have vl := hk.length
    have w3 := wf_of wt
    refine ⟨.ref q, rfl, .ref q, (pathV p).length, rfl, .inr ⟨_, SqT.of hq, rfl⟩, rfl, _, rfl, ite2 (fun e => ?_) (fun e => ?_)⟩
    · have e0 : p = [] := by
        have := V.int.inj (of_decide_eq_true e)
        rw [List.length_map] at this
        exact List.length_eq_zero_iff.mp (by omega)
      subst e0
      rw [pt] at c
      exact ⟨y, rfl, c _ _ (Same.refl _) hs⟩
    cases p with
    | nil => exact absurd (decide_eq_true rfl) e
    | cons i p =>
      obtain ⟨k, hk1, hu⟩ := atN_cons hat
      have hi : i < ks.length := (List.getElem?_eq_some_iff.mp hk1).1
      rw [pt_cons hk1] at c
      refine ⟨.ref a, rfl, a, _, 1, _, rfl, rfl, SqT.of ha, rfl, b, vs, rfl, .inr (SqT.of hb), fun D nD => ?_⟩
      have s1 : Same H (upd H D (.lst vs)) := Same.new nD
      have gx : vs[i]? = some vs[i] := List.getElem?_eq_getElem (by omega)
      obtain ⟨k', ek', lk'⟩ := hk.get gx
      rw [hk1] at ek'
      have : k = k' := Option.some.inj ek'
      subst this
      refine ⟨.ref D, rfl, .ref q, rfl, q, _, 0, .int i, rfl, rfl, SqT.of (s1 _ _ hq), atI_nat (j := 0) rfl, D, vs, i, _, rfl, rfl, SqL.of upd_same, atI_nat gx, ?_⟩
      have cut1 : cutV (pathV (i :: p)) (some 1) none = pathV p := by
        unfold cutV
        rw [show (some (1 : Int)) = some ((1 : Nat) : Int) from rfl, HT.sIx_nat, HT.sIx_none]
        show List.take (((i :: p).map fun (n : Nat) => V.int (n : Int)).length - min 1 _) (List.drop (min 1 _) _) = _
        rw [show min 1 ((i :: p).map fun (n : Nat) => V.int (n : Int)).length = 1 by rw [List.length_map, List.length_cons]; omega]
        show List.take _ (List.map _ p) = _
        rw [List.take_of_length_le (by rw [List.length_map, List.length_map, List.length_cons]; omega)]
      refine ⟨.ref q, rfl, 1, rfl, q, _, rfl, SqT.of (s1 _ _ hq), ?_, fun q2 n2 => ?_⟩
      · rintro ⟨z, _⟩
        rw [show (some (1 : Int)) = some ((1 : Nat) : Int) from rfl, HT.sIx_nat] at z
        rw [List.length_map, List.length_cons] at z
        omega
      rw [cut1]
      have s2 := s1.trans (Same.new (o := .tup (pathV p)) n2)
      refine ⟨y, rfl, vs[i], y, q2, k, s', u, p, rfl, LT.kp (Same.kp s2) _ _ lk', LT.kp (Same.kp s2) _ _ hs, upd_same, wfs_mem w3.1 (List.mem_of_getElem? hk1), hu, by rw [List.length_cons] at hn; omega, by rw [List.length_cons] at hm; omega, fun H3 v s3 l3 => ?_⟩
      have s3' := s2.trans s3
      have D3 : H3 D = some (.lst vs) := s3 _ _ (Same.new n2 _ _ upd_same)
      refine ⟨.ref D, rfl, .ref q, rfl, q, _, 0, .int i, rfl, rfl, SqT.of (s3' _ _ hq), atI_nat (j := 0) rfl, D, vs, i, i, rfl, rfl, D3, ixN_of (by omega), ?_⟩
      have k4 : Kp H3 (upd H3 D (.lst (vs.set i v))) := Kp.lst D3
      have s4 : Same H (upd H3 D (.lst (vs.set i v))) := fun b' o e => by rw [upd_ne (ne_of_none e nD)]; exact s3' _ _ e
      refine ⟨.ref a, rfl, a, _, 0, _, rfl, rfl, SqT.of (s4 _ _ ha), rfl, .ref D, rfl, D, vs.set i v, rfl, .inl ⟨SqL.of upd_same, fun e' ne => ⟨szle, fun f' nf => c _ _ (s4.trans ((Same.new ne).trans (Same.new nf))) (LT.node ?_ ne nf)⟩⟩⟩
      exact LTs.set (LT.kp k4 _ _ l3) i (LTs.kp ((Same.kp s3').trans k4) _ _ hk)
end
end TW

namespace TW
open PySem PySem.Spec PyProof.Rows L2
/-! ### a place's path, once more -/
mutual
theorem wk_pre : ∀ (t : Tr) (p : List Nat), wk t p = (wk t []).map fun x => (p ++ x.1, x.2)
  | .nd n ks, p => by
    rw [wk, wk, List.map_cons, List.append_nil, wks_pre ks p 0]
theorem wks_pre : ∀ (ks : List Tr) (p : List Nat) (i : Nat), wks ks p i = (wks ks [] i).map fun x => (p ++ x.1, x.2)
  | [], _, _ => rfl
  | t :: r, p, i => by
    rw [wks, wks, List.map_append, wk_pre t (p ++ [i]), wk_pre t ([] ++ [i]), wks_pre r p (i + 1), List.map_map]
    congr 2
    funext x
    simp
end
theorem wks_mem : ∀ {ks : List Tr} {i : Nat} {x : List Nat × Tr}, x ∈ wks ks [] i → ∃ j k y, ks[j]? = some k ∧ y ∈ wk k [] ∧ x = ((i + j) :: y.1, y.2)
  | [], _, _, h => by rw [wks] at h; cases h
  | t :: r, i, x, h => by
    rw [wks, List.mem_append] at h
    rcases h with h | h
    · rw [wk_pre] at h
      obtain ⟨y, hy, e⟩ := List.mem_map.mp h
      exact ⟨0, t, y, rfl, hy, e.symm⟩
    · obtain ⟨j, k, y, hk, hy, e⟩ := wks_mem h
      refine ⟨j + 1, k, y, hk, hy, ?_⟩
      rw [e, show i + 1 + j = i + (j + 1) by omega]
theorem lvs_mem : ∀ {ts : List Tr} {i : Nat} {t : Tr}, ts[i]? = some t → lv t ≤ lvs ts
  | [], _, _, h => by simp at h
  | x :: r, 0, t, h => by
    have e : x = t := Option.some.inj h
    subst e
    rw [lvs]
    omega
  | x :: r, i + 1, t, h => by
    have := lvs_mem (ts := r) (i := i) h
    rw [lvs]
    omega
mutual
theorem wk_atN : ∀ (t : Tr) (x : List Nat × Tr), x ∈ wk t [] → atN t x.1 = some x.2 ∧ x.1.length < lv t
  | .nd n ks, x, h => by
    rw [wk] at h
    rcases List.mem_cons.mp h with e | h
    · rw [e, lv]
      exact ⟨rfl, by show 0 < _; omega⟩
    · obtain ⟨j, k, y, hk, hy, e⟩ := wks_mem h
      have z := wks_atN ks j k hk y hy
      have l := lvs_mem hk
      rw [e, Nat.zero_add, lv]
      refine ⟨?_, by show y.1.length + 1 < _; omega⟩
      show (match ks[j]? with | some k => atN k y.1 | none => none) = some y.2
      rw [hk]
      exact z.1
theorem wks_atN : ∀ (ks : List Tr) (j : Nat) (k : Tr), ks[j]? = some k → ∀ y, y ∈ wk k [] → atN k y.1 = some y.2 ∧ y.1.length < lv k
  | [], _, _, h => by cases h
  | t :: r, 0, k, h => by
    have e : t = k := Option.some.inj h
    intro y hy
    rw [← e] at hy ⊢
    exact wk_atN t y hy
  | t :: r, j + 1, k, h => wks_atN r j k h
end
theorem lvs_set : ∀ {ks : List Tr} {i m : Nat} {s : Tr}, lvs ks ≤ m → lv s ≤ m → lvs (ks.set i s) ≤ m
  | [], _, _, _, h, _ => h
  | x :: r, 0, m, s, h, hs => by
    show lvs (s :: r) ≤ m
    rw [lvs] at h ⊢
    omega
  | x :: r, i + 1, m, s, h, hs => by
    show lvs (x :: r.set i s) ≤ m
    rw [lvs] at h ⊢
    have := lvs_set (ks := r) (i := i) (m := m) (s := s) (by omega) hs
    omega
theorem pt_lv : ∀ (p : List Nat) (t s u : Tr), atN t p = some u → lv (pt t p s) ≤ max (lv t) (p.length + lv s)
  | [], t, s, u, h => by
    rw [pt]
    show lv s ≤ max (lv t) (0 + lv s)
    omega
  | i :: p, .nd n ks, s, u, h => by
    obtain ⟨k, hk, hu⟩ := atN_cons h
    have a := pt_lv p k s u hu
    have l := lvs_mem hk
    rw [pt_cons hk, lv, lv, List.length_cons]
    have := lvs_set (ks := ks) (i := i) (m := max (lvs ks) (p.length + lv s)) (s := pt k p s) (by omega) (by omega)
    omega
def sp_spot : Sp := fun vs H Q _ => ∃ (p r : Addr) (x : V) (t : Tr), vs = [.ref p, x] ∧ PoolAt H p r ∧ LT H x t ∧ wf t = true ∧ sz t ≤ 200 ∧
  ∀ H' q pp u, Drew p r H H' → H' q = some (.tup (pathV pp)) → atN t pp = some u → pp.length < lv t → pp.length < sz t → Q (.ref q) H'
section
variable {P : Program} {w : World} {K : PySem.W.Frag} {mg : Str → Option Value} {base : Heap}
mutual
theorem lv_sz : ∀ t : Tr, lv t ≤ sz t
  | .nd n ks => by
    have := lvs_szs ks
    rw [lv, sz]
    omega
theorem lvs_szs : ∀ ts : List Tr, lvs ts ≤ szs ts
  | [] => by rw [lvs]; exact Nat.zero_le _
  | t :: r => by
    have a := lv_sz t
    have b := lvs_szs r
    rw [lvs, szs]
    omega
end
theorem ok_spot (T : Tx K mg) (G_law_draw : FnR P w K mg base CX0 1 (He.ga K "_law_draw") sp_draw) : FnR P w K mg base CX0 203 (He.ga K "_law_spot") sp_spot := by
  have G_law_walk : FnR P w K mg base CX0 202 (He.ga K "_law_walk") (sp_paths1 (fun t p => fsts (wk t p)) 201) := ok_walkP T 201
  refine fnR0 T.d_law_spot sc_law_spot (fun _ _ _ _ _ _ us hl => match us, hl with | [_, _], _ => rfl) (fun vs H Q E h => ?_) (fun cdv A outer s H vs Q E hr h => ?_)
  · obtain ⟨p, r, x, t, rfl, _⟩ := h
    rfl
  · obtain ⟨p, r, x, t, rfl, hp, hx, wt, hz, c⟩ := h
    refine ⟨_, (pss_cons (ps_set (i := 2) sc_law_spot.nd rfl (.inl rfl) (pe_cr G_law_walk (hr.mono (by omega)) (by rfl) T.v_law_walk T.k_law_walk pass0 (pa_cons (pv 1) (pa_cons (pe_tup pa_nil) pa_nil))))
(pss_one (ps_ret (pe_ix (r := rIxL K) ix_list (pv 2) (pe_cr G_law_draw (hr.mono (by omega)) (by rfl) T.v_law_draw T.k_law_draw pass0 (pa_cons (pv 0) (pa_cons (pe_callB call_len (by rfl) T.z_len (by decide +kernel) (pa_cons (pv 2) pa_nil)) pa_nil))) (fun _ _ => rfl))))), ?_⟩
    refine ⟨x, rfl, szle, fun e ne => ?_⟩
    have s1 : Same H (upd H e (.tup [])) := Same.new ne
    refine ⟨x, e, t, [], rfl, LT.kp (Same.kp s1) _ _ hx, upd_same, wt, by omega, by simp; omega, fun H2 a us s2 n2 e2 w2 => ?_⟩
    have s2' := s1.trans s2
    have p2 := hp.keep s2'
    have na : ¬ PR p r a := fun z => PoolAt.some (hp.keep s1) a z n2
    have w2' : All2 (PP H2) us (fsts (wk t [])) := w2
    have ul : us.length = sz t := by rw [w2'.len, List.length_map, wk_len]
    have zt := sz_pos t
    refine ⟨.ref a, rfl, .ref p, rfl, .ref a, rfl, .ref a, us.length, rfl, .inl ⟨_, SqL.of e2, rfl⟩, p, r, _, rfl, by omega, by omega, p2, fun H3 v v0 v1 d3 => ?_⟩
    obtain ⟨y, hy, my⟩ := atI_get v0 v1
    obtain ⟨j, gj⟩ := List.getElem?_of_mem my
    obtain ⟨pp, ep, q, rfl, hq⟩ := w2'.get gj
    rw [List.getElem?_map] at ep
    cases ez : (wk t [])[j]? with
    | none => rw [ez] at ep; cases ep
    | some z =>
      rw [ez] at ep
      have epp : z.1 = pp := Option.some.inj ep
      obtain ⟨h1, h2⟩ := wk_atN t z (List.mem_of_getElem? ez)
      rw [epp] at h1 h2
      have ll := lv_sz t
      refine ⟨a, us, v, _, rfl, rfl, SqL.of (d3.frm _ _ na e2), hy, ?_⟩
      exact c H3 q pp z.2 ((⟨Same.frm s2', p2⟩ : Drew p r H H2).trans d3) ((d3.kp p2) _ _ hq (fun _ z => nomatch z)) h1 h2 (by omega)
end
end TW

namespace TW
open PySem PySem.Spec PyProof.Rows L2
/-- the names' list, out of the pool's way -/
structure NmIn (H : Hp) (p r nl : Addr) (ws : List (List Nat)) : Prop where
  pool : PoolAt H p r
  nms : H nl = some (.lst (strL ws))
  np : nl ≠ p
  nr : nl ≠ r
  big : ∀ x ∈ ws, bigN x = true
  lo : 0 < ws.length
  hi : ws.length ≤ 8
theorem NmIn.drew {H H' : Hp} {p r nl : Addr} {ws : List (List Nat)} (h : NmIn H p r nl ws) (d : Drew p r H H') : NmIn H' p r nl ws :=
  ⟨d.pool, d.frm _ _ (fun z => z.elim h.np h.nr) h.nms, h.np, h.nr, h.big, h.lo, h.hi⟩
def sp_changed : Sp := fun vs H Q _ => ∃ (p r nl : Addr) (ws : List (List Nat)) (x : V) (t : Tr), vs = [.ref p, .ref nl, x] ∧ NmIn H p r nl ws ∧ LT H x t ∧ wf t = true ∧ sz t ≤ 150 ∧
  ∀ H' v t', Drew p r H H' → LT H' v t' → wf t' = true → sz t' ≤ sz t + 24 → lv t' ≤ lv t + 6 → Q v H'
def sp_opened : Sp := fun vs H Q _ => ∃ (p r : Addr) (x : V) (t : Tr), vs = [.ref p, x] ∧ PoolAt H p r ∧ LT H x t ∧ wf t = true ∧ sz t ≤ 200 ∧
  ∀ H' v t', Drew p r H H' → LT H' v t' → wf t' = true → sz t' ≤ sz t → Q v H'
section
variable {P : Program} {w : World} {K : PySem.W.Frag} {mg : Str → Option Value} {base : Heap}
theorem ok_opened (T : Tx K mg) (G_law_draw : FnR P w K mg base CX0 1 (He.ga K "_law_draw") sp_draw) : FnR P w K mg base CX0 204 (He.ga K "_law_opened") sp_opened := by
  have G_law_spot : FnR P w K mg base CX0 203 (He.ga K "_law_spot") sp_spot := ok_spot T G_law_draw
  have G_law_put : FnR P w K mg base CX0 202 (He.ga K "_law_put") (sp_put 201) := ok_put T 201
  refine fnR0 T.d_law_opened sc_law_opened (fun _ _ _ _ _ _ us hl => match us, hl with | [_, _], _ => rfl) (fun vs H Q E h => ?_) (fun cdv A outer s H vs Q E hr h => ?_)
  · obtain ⟨p, r, x, t, rfl, _⟩ := h
    rfl
  · obtain ⟨p, r, x, t, rfl, hp, hx, wt, hz, c⟩ := h
    refine ⟨_, (pss_cons (ps_for PassesOwn.never rfl (pi_range1 (by rfl) T.z_range (pa_cons (pe_cr G_law_draw (hr.mono (by omega)) (by rfl) T.v_law_draw T.k_law_draw pass0 (pa_cons (pv 0) (pa_cons pe_int pa_nil))) pa_nil)) (pg_name (i := 2) sc_law_opened.nd rfl (.inl rfl))
(pss_cons (ps_set (i := 3) sc_law_opened.nd rfl (.inl rfl) (pe_cr G_law_spot (hr.mono (by omega)) (by rfl) T.v_law_spot T.k_law_spot pass0 (pa_cons (pv 0) (pa_cons (pv 1) pa_nil))))
(pss_one (ps_set (i := 1) sc_law_opened.nd rfl (.inl rfl) (pe_cr G_law_put (hr.mono (by omega)) (by rfl) T.v_law_put T.k_law_put pass0 (pa_cons (pv 1) (pa_cons (pv 3) (pa_cons (pe_tup (pa_cons pe_str (pa_cons (pe_tup pa_nil) pa_nil))) pa_nil))))))))
(pss_one (ps_ret (pv 1)))), ?_⟩
    refine ⟨.ref p, rfl, p, r, 3, rfl, by decide, by decide, hp, fun H1 m m0 m1 d1 => ⟨m, rfl, by omega, by omega, for_range (lo := 0) (n := m.toNat)
      (fun i σ H3 => ∃ (y : V) (t' : Tr) (z2 z3 : Option V), σ = [some (.ref p), some y, z2, z3] ∧ Drew p r H H3 ∧ LT H3 y t' ∧ wf t' = true ∧ sz t' ≤ sz t) ⟨x, t, none, none, rfl, d1, LT.kp (d1.kp hp) _ _ hx, wt, Nat.le_refl _⟩ ?_ ?_⟩⟩
    · rintro i σ H3 hi ⟨y, t', z2, z3, rfl, d3, l3, w3, s3⟩
      refine ⟨.ref p, rfl, y, rfl, p, r, y, t', rfl, d3.pool, l3, w3, by omega, fun H4 q pp u d4 hq hu _ hl => ?_⟩
      refine ⟨y, rfl, .ref q, rfl, szle, fun e ne => ⟨szle, fun f nf => ?_⟩⟩
      have s5 := (Same.new (o := .tup []) ne).trans (Same.new (o := .tup [.str (mk [95]), .ref e]) nf)
      have l4 := LT.kp ((d4.kp d3.pool).trans (Same.kp s5)) _ _ l3
      refine ⟨y, .ref f, q, t', hole, u, pp, rfl, l4, LT.leaf (n := [95]) nf, s5 _ _ hq, w3, hu, by omega, by omega, fun H6 v s6 l6 => ?_⟩
      have zz := pt_sz pp t' hole u hu
      have zu := sz_pos u
      have zh : sz hole = 1 := by rw [sz, szs]
      refine ⟨v, pt t' pp hole, _, _, rfl, (d3.trans d4).trans ⟨Same.frm (s5.trans s6), d4.pool.keep (s5.trans s6)⟩, l6, pt_wf pp t' hole u hu w3 hole_wf, by omega⟩
    · rintro σ H3 ⟨y, t', z2, z3, rfl, d3, l3, w3, s3⟩
      exact ⟨y, rfl, c H3 y t' d3 l3 w3 s3⟩
theorem ok_changed (T : Tx K mg) (G_law_draw : FnR P w K mg base CX0 1 (He.ga K "_law_draw") sp_draw) : FnR P w K mg base CX0 204 (He.ga K "_law_changed") sp_changed := by
  have G_law_spot : FnR P w K mg base CX0 203 (He.ga K "_law_spot") sp_spot := ok_spot T G_law_draw
  have G_law_put : FnR P w K mg base CX0 202 (He.ga K "_law_put") (sp_put 201) := ok_put T 201
  have G_law_grow : FnR P w K mg base CX0 9 (He.ga K "_law_grow") (sp_grow 8) := ok_grow T G_law_draw 8
  refine fnR0 T.d_law_changed sc_law_changed (fun _ _ _ _ _ _ us hl => match us, hl with | [_, _, _], _ => rfl) (fun vs H Q E h => ?_) (fun cdv A outer s H vs Q E hr h => ?_)
  · obtain ⟨p, r, nl, ws, x, t, rfl, _⟩ := h
    rfl
  · obtain ⟨p, r, nl, ws, x, t, rfl, hn, hx, wt, hz, c⟩ := h
    refine ⟨_, (pss_cons (ps_for PassesOwn.never rfl (pi_range1 (by rfl) T.z_range (pa_cons (pe_cr G_law_draw (hr.mono (by omega)) (by rfl) T.v_law_draw T.k_law_draw pass0 (pa_cons (pv 0) (pa_cons pe_int pa_nil))) pa_nil)) (pg_name (i := 3) sc_law_changed.nd rfl (.inl rfl))
(pss_cons (ps_set (i := 4) sc_law_changed.nd rfl (.inl rfl) (pe_cr G_law_spot (hr.mono (by omega)) (by rfl) T.v_law_spot T.k_law_spot pass0 (pa_cons (pv 0) (pa_cons (pv 2) pa_nil))))
(pss_cons (ps_set (i := 5) sc_law_changed.nd rfl (.inl rfl) (pe_cr G_law_grow (hr.mono (by omega)) (by rfl) T.v_law_grow T.k_law_grow pass0 (pa_cons (pv 0) (pa_cons (pv 1) (pa_cons (pe_lst (pa_cons pe_int pa_nil)) (pa_cons pe_int pa_nil))))))
(pss_one (ps_set (i := 2) sc_law_changed.nd rfl (.inl rfl) (pe_cr G_law_put (hr.mono (by omega)) (by rfl) T.v_law_put T.k_law_put pass0 (pa_cons (pv 2) (pa_cons (pv 4) (pa_cons (pv 5) pa_nil)))))))))
(pss_one (ps_ret (pv 2)))), ?_⟩
    refine ⟨.ref p, rfl, p, r, 4, rfl, by decide, by decide, hn.pool, fun H1 m m0 m1 d1 => ⟨m, rfl, by omega, by omega, for_range (lo := 0) (n := m.toNat)
      (fun i σ H3 => ∃ (y : V) (t' : Tr) (z3 z4 z5 : Option V), σ = [some (.ref p), some (.ref nl), some y, z3, z4, z5] ∧ Drew p r H H3 ∧ LT H3 y t' ∧ wf t' = true ∧ sz t' ≤ sz t + 8 * i ∧ lv t' ≤ lv t + 2 * i) ⟨x, t, none, none, none, rfl, d1, LT.kp (d1.kp hn.pool) _ _ hx, wt, Nat.le_refl _, Nat.le_refl _⟩ ?_ ?_⟩⟩
    · rintro i σ H3 hi ⟨y, t', z3, z4, z5, rfl, d3, l3, w3, s3, v3⟩
      have hn3 := hn.drew d3
      refine ⟨.ref p, rfl, y, rfl, p, r, y, t', rfl, d3.pool, l3, w3, by omega, fun H4 q pp u d4 hq hu hlv hl => ?_⟩
      have hn4 := hn3.drew d4
      refine ⟨.ref p, rfl, .ref nl, rfl, szle, fun rm nrm => ?_⟩
      refine ⟨p, r, nl, rm, ws, 3, 2, rfl, GrowIn.fresh hn4.pool hn4.nms hn4.np hn4.nr nrm, hn4.big, hn4.lo, hn4.hi, by decide, by decide, fun H5 gv gt k' Gr => ?_⟩
      have d5 : Drew p r H4 H5 := Gr.drew nrm
      have gz := Gr.sz
      have glo := Gr.lo
      have glv := Gr.lev
      have kp45 := d5.kp hn4.pool
      have l5 := LT.kp ((d4.kp d3.pool).trans kp45) _ _ l3
      have hq5 := kp45 _ _ hq (fun _ z => nomatch z)
      refine ⟨y, rfl, .ref q, rfl, gv, rfl, y, gv, q, t', gt, u, pp, rfl, l5, Gr.lt, hq5, w3, hu, by omega, by omega, fun H6 v s6 l6 => ?_⟩
      have zz := pt_sz pp t' gt u hu
      have zl := pt_lv pp t' gt u hu
      have zu := sz_pos u
      exact ⟨v, pt t' pp gt, _, _, _, rfl, ((d3.trans d4).trans d5).trans ⟨Same.frm s6, d5.pool.keep s6⟩, l6, pt_wf pp t' gt u hu w3 Gr.wf, by omega, by omega⟩
    · rintro σ H3 ⟨y, t', z3, z4, z5, rfl, d3, l3, w3, s3, v3⟩
      exact ⟨y, rfl, c H3 y t' d3 l3 w3 (by omega) (by omega)⟩
end
end TW

namespace TW
open PySem PySem.Spec PyProof.Rows L2
def sp_three : Sp := fun vs H Q _ => ∃ (p r : Addr), vs = [.ref p] ∧ PoolAt H p r ∧ ∀ H' a v1 v2 v3 t1 t2 t3, Drew p r H H' → H a = none → H' a = some (.lst [v1, v2, v3]) → LT H' v1 t1 → LT H' v2 t2 → LT H' v3 t3 → wf t1 = true → wf t2 = true → wf t3 = true →
  (sz t1 ≤ 96 ∧ sz t2 ≤ 96 ∧ sz t3 ≤ 96) → (lv t1 ≤ 19 ∧ lv t2 ≤ 19 ∧ lv t3 ≤ 19) → Q (.ref a) H'
section
variable {P : Program} {w : World} {K : PySem.W.Frag} {mg : Str → Option Value} {base : Heap}
theorem ok_three (T : Tx K mg) (G_law_draw : FnR P w K mg base CX0 1 (He.ga K "_law_draw") sp_draw) : FnR P w K mg base CX0 205 (He.ga K "_law_three") sp_three := by
  have G_law_name_of : FnR P w K mg base CX0 2 (He.ga K "_law_name_of") sp_name := ok_name T G_law_draw
  have G_law_grow : FnR P w K mg base CX0 9 (He.ga K "_law_grow") (sp_grow 8) := ok_grow T G_law_draw 8
  have G_law_changed : FnR P w K mg base CX0 204 (He.ga K "_law_changed") sp_changed := ok_changed T G_law_draw
  refine fnR0 T.d_law_three sc_law_three (fun _ _ _ _ _ _ us hl => match us, hl with | [_], _ => rfl) (fun vs H Q E h => ?_) (fun cdv A outer s H vs Q E hr h => ?_)
  · obtain ⟨p, r, rfl, _⟩ := h
    rfl
  · obtain ⟨p, r, rfl, hp, c⟩ := h
    refine ⟨_, (pss_cons (ps_set (i := 1) sc_law_three.nd rfl (.inl rfl) (pe_cr G_law_name_of (hr.mono (by omega)) (by rfl) T.v_law_name_of T.k_law_name_of pass0 (pa_cons (pv 0) pa_nil)))
(pss_cons (ps_set (i := 2) sc_law_three.nd rfl (.inl rfl) (pe_lst (pa_cons (pv 1) (pa_cons (pe_slice sl_str (pe_op op_add_str (pv 1) pe_str) po_none (po_some pe_int)) (pa_cons (pe_cr G_law_name_of (hr.mono (by omega)) (by rfl) T.v_law_name_of T.k_law_name_of pass0 (pa_cons (pv 0) pa_nil)) pa_nil)))))
(pss_cons (ps_set (i := 3) sc_law_three.nd rfl (.inl rfl) (pe_ix (r := rIxL K) ix_list (pe_lst (pa_cons pe_int (pa_cons pe_int (pa_cons pe_int (pa_cons pe_int pa_nil))))) (pe_cr G_law_draw (hr.mono (by omega)) (by rfl) T.v_law_draw T.k_law_draw pass0 (pa_cons (pv 0) (pa_cons pe_int pa_nil))) (fun _ _ => rfl)))
(pss_cons (ps_set (i := 4) sc_law_three.nd rfl (.inl rfl) (pe_cr G_law_grow (hr.mono (by omega)) (by rfl) T.v_law_grow T.k_law_grow pass0 (pa_cons (pv 0) (pa_cons (pv 2) (pa_cons (pe_lst (pa_cons (pv 3) pa_nil)) (pa_cons (pe_op op_add pe_int (pe_cr G_law_draw (hr.mono (by omega)) (by rfl) T.v_law_draw T.k_law_draw pass0 (pa_cons (pv 0) (pa_cons pe_int pa_nil)))) pa_nil))))))
(pss_cons (ps_set (i := 5) sc_law_three.nd rfl (.inl rfl) (pe_cr G_law_changed (hr.mono (by omega)) (by rfl) T.v_law_changed T.k_law_changed pass0 (pa_cons (pv 0) (pa_cons (pv 2) (pa_cons (pv 4) pa_nil)))))
(pss_cons (ps_set (i := 6) sc_law_three.nd rfl (.inl rfl) (pv 4))
(pss_cons (ps_set (i := 7) sc_law_three.nd rfl (.inl rfl) (pe_cr G_law_draw (hr.mono (by omega)) (by rfl) T.v_law_draw T.k_law_draw pass0 (pa_cons (pv 0) (pa_cons pe_int pa_nil))))
(pss_mid (ps_if (pt_cmpR op_eq (pv 7) pe_int (nomark _))
(pss_one (ps_set (i := 6) sc_law_three.nd rfl (.inl rfl) (pe_cr G_law_grow (hr.mono (by omega)) (by rfl) T.v_law_grow T.k_law_grow pass0 (pa_cons (pv 0) (pa_cons (pv 2) (pa_cons (pe_lst (pa_cons pe_int pa_nil)) (pa_cons pe_int pa_nil)))))))
pss_nil)
(pss_mid (ps_if (pt_cmpR op_gt (pv 7) pe_int (nomark _))
(pss_one (ps_set (i := 6) sc_law_three.nd rfl (.inl rfl) (pe_cr G_law_changed (hr.mono (by omega)) (by rfl) T.v_law_changed T.k_law_changed pass0 (pa_cons (pv 0) (pa_cons (pv 2) (pa_cons (pe_ix (r := rIxL K) ix_list (pe_lst (pa_cons (pv 4) (pa_cons (pv 5) pa_nil))) (pe_op op_sub (pv 7) pe_int) (fun _ _ => rfl)) pa_nil))))))
pss_nil)
(pss_one (ps_ret (pe_lst (pa_cons (pv 4) (pa_cons (pv 5) (pa_cons (pv 6) pa_nil))))))))))))))), ?_⟩
    -- the names
    refine ⟨.ref p, rfl, p, r, rfl, hp, fun H1 n bn D1 => ?_⟩
    have nl8 := bigN_len bn
    refine ⟨.str (mk n), rfl, .str (mk n), rfl, mk n, mk [48, 65], rfl, rfl, ?_, 8, rfl, mk n ++ mk [48, 65], rfl, ?_, .ref p, rfl, p, r, rfl, D1.pool, fun H2 n2 bn2 D2 => ⟨szle, fun nl nn => ?_⟩⟩
    · rw [mk_len, mk_len]
      exact Nat.le_trans (show n.length + 2 ≤ 1000 by omega) szle
    · rw [mk_app, mk_len, List.length_append]
      exact Nat.le_trans (show n.length + 2 ≤ 1000 by omega) szle
    rw [mk_app, show cutS (mk (n ++ [48, 65])) none (some 8) = mk ((n ++ [48, 65]).take 8) from cut_to _ 8]
    have D12 := D1.trans D2
    have np : nl ≠ p := fun e => D2.pool.some p (.inl rfl) (e ▸ nn)
    have nr : nl ≠ r := fun e => D2.pool.some r (.inr rfl) (e ▸ nn)
    have D3 := D12.new (o := .lst (strL [n, (n ++ [48, 65]).take 8, n2])) nn
    have N3 : NmIn (upd H2 nl (.lst (strL [n, (n ++ [48, 65]).take 8, n2]))) p r nl [n, (n ++ [48, 65]).take 8, n2] := ⟨D3.pool, upd_same, np, nr, (fun x hx => by
      rcases List.mem_cons.mp hx with rfl | hx
      · exact bn
      rcases List.mem_cons.mp hx with rfl | hx
      · exact bigN_second bn
      rcases List.mem_cons.mp hx with rfl | hx
      · exact bn2
      · cases hx), by show 0 < 3; decide, by show 3 ≤ 8; decide⟩
    -- the room, the first tree
    refine ⟨szle, fun b nb => ?_⟩
    have D4 := D3.new (o := .lst [.int 6, .int 12, .int 18, .int 30]) nb
    refine ⟨.ref p, rfl, p, r, 4, rfl, by decide, by decide, D4.pool, fun H5 x x0 x1 D5 => ?_⟩
    have nb5 : ¬ PR p r b := fun z => PoolAt.some D3.pool b z nb
    obtain ⟨k, ek, k0, k1⟩ : ∃ k : Int, atI [V.int 6, .int 12, .int 18, .int 30] x = some (.int k) ∧ 1 ≤ k ∧ k ≤ 30 := by
      have : x = 0 ∨ x = 1 ∨ x = 2 ∨ x = 3 := by omega
      rcases this with rfl | rfl | rfl | rfl
      · exact ⟨6, rfl, by decide, by decide⟩
      · exact ⟨12, rfl, by decide, by decide⟩
      · exact ⟨18, rfl, by decide, by decide⟩
      · exact ⟨30, rfl, by decide, by decide⟩
    refine ⟨b, _, x, _, rfl, rfl, SqL.of (D5.frm _ _ nb5 upd_same), ek, ?_⟩
    have N5 : NmIn H5 p r nl _ := (N3.drew ⟨Frm.new nb, D4.pool⟩).drew D5
    have D45 := D4.trans D5
    refine ⟨.ref p, rfl, .ref nl, rfl, .int k, rfl, szle, fun rm nrm => ⟨.ref p, rfl, p, r, 5, rfl, by decide, by decide, N5.pool.keep (Same.new nrm), fun H6 y y0 y1 D6 => ⟨2, y, rfl, rfl, ?_⟩⟩⟩
    have grown : ∀ (H5 H6 : Hp) (rm : Addr) (k : Int), NmIn H5 p r nl [n, (n ++ [48, 65]).take 8, n2] → H5 rm = none → Drew p r (upd H5 rm (.lst [.int k])) H6 → GrowIn H6 p r nl rm [n, (n ++ [48, 65]).take 8, n2] k ∧
        ∀ H7 v t d k', Grew H6 H7 p r nl rm [n, (n ++ [48, 65]).take 8, n2] k d v t k' → Drew p r H5 H7 := fun H5 H6 rm k N5 nrm D6 => by
      have g := GrowIn.fresh (k := k) N5.pool N5.nms N5.np N5.nr nrm
      refine ⟨⟨D6.pool, D6.frm _ _ (fun z => z.elim g.np g.nr) g.nms, D6.frm _ _ (fun z => z.elim g.mp g.mr) g.room, g.np, g.nr, g.mp, g.mr, g.mn⟩, fun H7 v t d k' Gr => ⟨fun b o nb e => ?_, Gr.inn.pool⟩⟩
      have ne : b ≠ rm := ne_of_none e nrm
      refine Gr.frm b o (fun z => z.elim (fun y => nb (.inl y)) fun z => z.elim (fun y => nb (.inr y)) ne) (D6.frm b o nb ?_)
      rw [upd_ne ne]
      exact e
    obtain ⟨g6, dr6⟩ := grown H5 H6 rm k N5 nrm D6
    refine ⟨p, r, nl, rm, _, k, 2 + y, rfl, g6, N5.big, N5.lo, N5.hi, by omega, by omega, fun H7 v1 t1 k' Gr => ?_⟩
    have D7 := dr6 H7 v1 t1 _ k' Gr
    have N7 := N5.drew D7
    have gz := Gr.sz
    have glo := Gr.lo
    have glv := Gr.lev
    have D07 := D45.trans D7
    -- the second one
    refine ⟨.ref p, rfl, .ref nl, rfl, v1, rfl, p, r, nl, _, v1, t1, rfl, N7, Gr.lt, Gr.wf, by omega, fun H8 v2 t2 D8 l2 w2 z2 e2 => ?_⟩
    have N8 := N7.drew D8
    have l1 := LT.kp (D8.kp N7.pool) _ _ Gr.lt
    have D08 := D07.trans D8
    -- the third one
    refine ⟨v1, rfl, .ref p, rfl, p, r, 4, rfl, by decide, by decide, N8.pool, fun H9 wy w0 w1 D9 => ?_⟩
    have N9 := N8.drew D9
    have kp9 := D9.kp N8.pool
    have l19 := LT.kp kp9 _ _ l1
    have l29 := LT.kp kp9 _ _ l2
    have D09 := D08.trans D9
    refine ⟨fun σ' H' => ∃ v3 t3, σ' = [some (.ref p), some (.str (mk n)), some (.ref nl), some (.int k), some v1, some v2, some v3, some (.int wy)] ∧ Drew p r H9 H' ∧ LT H' v3 t3 ∧ wf t3 = true ∧ sz t3 ≤ 96 ∧ lv t3 ≤ 19, ?_, ?_⟩
    · refine ⟨.int wy, rfl, rfl, _, rfl, ite2 (fun e => ?_) (fun e => ?_)⟩
      · refine ⟨.ref p, rfl, .ref nl, rfl, szle, fun rm2 nrm2 => ?_⟩
        obtain ⟨ga, dra⟩ := grown H9 _ rm2 8 N9 nrm2 (Drew.refl (N9.pool.keep (Same.new nrm2)))
        refine ⟨p, r, nl, rm2, _, 8, 3, rfl, ga, N9.big, N9.lo, N9.hi, by decide, by decide, fun HA v3 t3 k3 Gr3 => ?_⟩
        have h1 := Gr3.sz
        have h2 := Gr3.lo
        have h3 := Gr3.lev
        exact ⟨v3, t3, rfl, dra HA v3 t3 _ k3 Gr3, Gr3.lt, Gr3.wf, by omega, by omega⟩
      · exact ⟨v1, t1, rfl, Drew.refl N9.pool, l19, Gr.wf, by omega, by omega⟩
    rintro σ' HA ⟨v3, t3, rfl, DA, l3, w3, z3, e3⟩
    have NA := N9.drew DA
    have kpA := DA.kp N9.pool
    have l1A := LT.kp kpA _ _ l19
    have l2A := LT.kp kpA _ _ l29
    refine ⟨fun σ' H' => ∃ v3 t3, σ' = [some (.ref p), some (.str (mk n)), some (.ref nl), some (.int k), some v1, some v2, some v3, some (.int wy)] ∧ Drew p r HA H' ∧ LT H' v3 t3 ∧ wf t3 = true ∧ sz t3 ≤ 96 ∧ lv t3 ≤ 19, ?_, ?_⟩
    · refine ⟨.int wy, rfl, wy, 1, rfl, rfl, _, rfl, ite2 (fun e => ?_) (fun e => ?_)⟩
      · have hw : 1 < wy := of_decide_eq_true e
        refine ⟨.ref p, rfl, .ref nl, rfl, v1, rfl, v2, rfl, szle, fun g ng => ⟨.int wy, rfl, wy, 2, rfl, rfl, ?_⟩⟩
        have sg := Same.new (o := .lst [v1, v2]) ng
        have Dg : Drew p r HA (upd HA g (.lst [v1, v2])) := ⟨Same.frm sg, NA.pool.keep sg⟩
        obtain ⟨vx, tx, ex, lx, wx, zx, hx⟩ : ∃ vx tx, atI [v1, v2] (wy - 2) = some vx ∧ LT HA vx tx ∧ wf tx = true ∧ sz tx ≤ 72 ∧ lv tx ≤ 13 := by
          have : wy = 2 ∨ wy = 3 := by omega
          rcases this with rfl | rfl
          · exact ⟨v1, t1, rfl, l1A, Gr.wf, by omega, by omega⟩
          · exact ⟨v2, t2, rfl, l2A, w2, by omega, by omega⟩
        refine ⟨g, _, wy - 2, vx, rfl, rfl, SqL.of upd_same, ex, p, r, nl, _, vx, tx, rfl, NA.drew Dg, LT.kp (Same.kp sg) _ _ lx, wx, by omega, fun HB vB tB DB lB wB zB eB => ?_⟩
        exact ⟨vB, tB, rfl, Dg.trans DB, lB, wB, by omega, by omega⟩
      · exact ⟨v3, t3, rfl, Drew.refl NA.pool, l3, w3, z3, e3⟩
    rintro σ' HB ⟨v3', t3', rfl, DB, l3', w3', z3', e3'⟩
    have kpB := DB.kp NA.pool
    refine ⟨v1, rfl, v2, rfl, v3', rfl, szle, fun a na => ?_⟩
    have sa := Same.new (o := .lst [v1, v2, v3']) na
    have Dall := ((D09.trans DA).trans DB)
    refine c _ a v1 v2 v3' t1 t2 t3' (Dall.new na) (Dall.free na) upd_same (LT.kp (kpB.trans (Same.kp sa)) _ _ l1A) (LT.kp (kpB.trans (Same.kp sa)) _ _ l2A) (LT.kp (Same.kp sa) _ _ l3') Gr.wf w2 w3' ⟨by omega, by omega, z3'⟩ ⟨by omega, by omega, e3'⟩
end
end TW

namespace TW
open PySem PySem.Spec PyProof.Rows L2
def isH : Tr → Bool
  | .nd n _ => decide (n = [95])
mutual
theorem gp_wk : ∀ (t : Tr) (p : List Nat), wf t = true → gp t p = fsts ((wk t p).filter fun x => isH x.2)
  | .nd n ks, p, h => by
    rw [gp, wk]
    by_cases h0 : n = [95]
    · subst h0
      have e := hole_kids h
      subst e
      rw [if_pos rfl, wks]
      rfl
    · have e : isH (.nd n ks) = false := decide_eq_false h0
      rw [if_neg h0, List.filter_cons, e, gps_wk ks p 0 (wf_of h).1]
      rfl
theorem gps_wk : ∀ (ks : List Tr) (p : List Nat) (i : Nat), wfs ks = true → gps ks p i = fsts ((wks ks p i).filter fun x => isH x.2)
  | [], _, _, _ => by rw [gps, wks]; rfl
  | t :: r, p, i, h => by
    obtain ⟨h1, h2⟩ := wfs_cons h
    rw [gps, wks, List.filter_append, gp_wk t (p ++ [i]) h1, gps_wk r p (i + 1) h2]
    exact (List.map_append ..).symm
end
def sp_ishole (C : Addr) : Sp := fun vs H Q _ => ∃ v t, vs = [v] ∧ TO C H v t ∧ wf t = true ∧ Q (.bl (isH t)) H
def sp_holes (C : Addr) : Sp := fun vs H Q _ => ∃ v t, vs = [v] ∧ TO C H v t ∧ wf t = true ∧ sz t ≤ 900 ∧ ∀ H' a us, Same H H' → H a = none → H' a = some (.lst us) → All2 (PP H') us (gp t []) → Q (.ref a) H'
structure Th (K : PySem.W.Frag) : Prop where
  m_holes : Meth K (CT K) "holes" (mT K "holes")
  d_holes : DefAt K "holes" "Tree.holes" s_Tree_holes (mT K "holes")
mutual
theorem wk_wf : ∀ (t : Tr) (p : List Nat), wf t = true → ∀ x ∈ wk t p, wf x.2 = true
  | .nd n ks, p, h, x, hx => by
    rw [wk] at hx
    rcases List.mem_cons.mp hx with e | hx
    · rw [e]
      exact h
    · exact wks_wf ks p 0 (wf_of h).1 x hx
theorem wks_wf : ∀ (ks : List Tr) (p : List Nat) (i : Nat), wfs ks = true → ∀ x ∈ wks ks p i, wf x.2 = true
  | [], _, _, _, x, hx => by rw [wks] at hx; cases hx
  | t :: r, p, i, h, x, hx => by
    obtain ⟨h1, h2⟩ := wfs_cons h
    rw [wks] at hx
    rcases List.mem_append.mp hx with hx | hx
    · exact wk_wf t (p ++ [i]) h1 x hx
    · exact wks_wf r p (i + 1) h2 x hx
end
section
variable {P : Program} {w : World} {K : PySem.W.Frag} {mg : Str → Option Value} {base : Heap}
theorem ok_ishole (T : Tx K mg) (Z : Tc K mg) : FnR P w K mg base CX0 1 (He.ga K "is_hole") (sp_ishole (CT K)) := by
  refine fnR0 T.d_is_hole sc_is_hole (fun _ _ _ _ _ _ us hl => match us, hl with | [_], _ => rfl) (fun vs H Q E h => ?_) (fun cdv A outer s H vs Q E hr h => ?_)
  · obtain ⟨v, t, rfl, _⟩ := h
    rfl
  · obtain ⟨v, ⟨n, ks⟩, rfl, ht, wt, c⟩ := h
    refine ⟨_, (pss_one (ps_ret (pe_and (pe_cmpR op_eq (pe_fldK K (pv 0) rfl) pe_str (nomark _)) (pe_one (pe_notT (pe_fldK K (pv 0) rfl)))))), ?_⟩
    rw [TO] at ht
    obtain ⟨a, dx, p, vs, rfl, ha, hp, hk⟩ := ht
    refine ⟨.ref a, rfl, a, _, dx, _, _, rfl, ha, Z.cl, Z.a_name, rfl, rfl, _, rfl, ?_⟩
    rw [show decide (V.str (mk n) = V.str (Str.ofString "_")) = decide (n = [95]) from dec_name n [95]]
    replace c : Q (.bl (decide (n = [95]))) H := c
    refine ite2 (fun e => ?_) (fun e => ?_)
    · have e95 := of_decide_eq_true e
      subst e95
      have ek := hole_kids wt
      subst ek
      have e0 : vs = [] := List.length_eq_zero_iff.mp hk.length
      subst e0
      exact ⟨.ref a, rfl, a, _, dx, _, _, rfl, ha, Z.cl, Z.a_parts, rfl, false, .inr (.inl ⟨[], SqT.of hp, rfl⟩), c⟩
    · rw [decide_eq_false (fun z => e (decide_eq_true z))] at c
      exact c
theorem ok_holes (T : Tx K mg) (Z : Tc K mg) (A2 : Th K) : ∃ fd, FnOk P w K mg base CX0 2 (mT K "holes") fd ["self"] (sp_holes (CT K)) ∧ Binds K fd ["self"] [] := by
  have G_walked : FnR P w K mg base CX0 1 (He.ga K "walked") (sp_walked (CT K)) := ok_walked T Z
  have G_is_hole : FnR P w K mg base CX0 1 (He.ga K "is_hole") (sp_ishole (CT K)) := ok_ishole T Z
  obtain ⟨fd, F⟩ := A2.d_holes
  refine ⟨fd, ?_, F.bindsN fun _ _ _ _ _ _ us hl => match us, hl with | [_], _ => rfl⟩
  refine fnF0 F sc_Tree_holes (fun vs H Q E h => ?_) (fun cdv A outer s H vs Q E hr h => ?_)
  · obtain ⟨v, t, rfl, _⟩ := h
    rfl
  · obtain ⟨v, t, rfl, ht, wt, hz, c⟩ := h
    refine ⟨_, (pss_one (ps_ret (pe_lc (own := [("path", 1), ("part", 2)]) (g := gTup K 2 (gCons (gName 1) (gCons (gName 2) (gNil)))) rfl sc_Tree_holes.nd (pi_list (pe_cr G_walked (hr.mono (by omega)) (by rfl) T.v_walked T.k_walked pass0 (pa_cons (pv 0) pa_nil))) (blkOk_by (own := [("path", 1), ("part", 2)]) (N := N_Tree_holes) (sc := defScope s_Tree_holes) (by decide +kernel)) (fun _ _ _ _ _ => pg_tup (by rfl) (pgs_cons (pg_name (i := 1) sc_Tree_holes.nd rfl (.inl rfl)) (pgs_cons (pg_name (i := 2) sc_Tree_holes.nd rfl (.inl rfl)) pgs_nil))) (fun _ _ _ _ _ => (pts_one (pt_val (pe_cr G_is_hole (hr.mono (by omega)) (by rfl) T.v_is_hole T.k_is_hole pass0 (pa_cons (pv 2) pa_nil))))) (fun _ _ _ _ _ => (pv 1))))), ?_⟩
    refine ⟨v, rfl, v, t, rfl, ht, hz, fun H1 a us s1 n1 e1 w1 => ⟨a, rfl, ⟨_, SqL.of e1⟩, fun D nD => ?_⟩⟩
    have ul : us.length = sz t := by rw [w1.len, wk_len]
    refine lc_list (xs := us) (fun i H3 => ∃ ys, H3 D = some (.lst ys) ∧ Same H1 H3 ∧ All2 (PP H3) ys (fsts (((wk t []).take i).filter fun x => isH x.2)) ∧ ys.length ≤ i ∧ i ≤ us.length) ?_ ?_ ?_ ?_
    · exact ⟨[], upd_same, Same.new nD, .nil, Nat.zero_le _, Nat.zero_le _⟩
    · rintro i H3 _ ⟨ys, _, s3, _⟩
      exact SqL.of (s3 _ _ e1)
    · rintro i x H3 hx ⟨ys, eD, s3, hy, yl, hi⟩
      obtain ⟨z, ez, b, q, d, rfl, hb, hq, hd⟩ := w1.get hx
      have hlt : i < us.length := (List.getElem?_eq_some_iff.mp hx).1
      refine ⟨b, _, rfl, SqT.of (s3 _ _ hb), rfl, .ref q, [d], rfl, d, [], rfl, rfl, rfl, ?_⟩
      refine ⟨d, rfl, d, z.2, rfl, TO.same s3 hd, wk_wf t [] wt z (List.mem_of_getElem? ez), isH z.2, rfl, ?_⟩
      have et := take_get ez
      cases eh : isH z.2 with
      | false =>
        refine iteF ⟨ys, eD, s3, ?_, by omega, hlt⟩
        rw [et, List.filter_append, List.filter_cons, eh]
        show All2 (PP H3) ys (fsts (_ ++ []))
        rw [List.append_nil]
        exact hy
      | true =>
        refine iteT ⟨_, rfl, ys, eD, small1000 (by omega), ys ++ [.ref q], upd_same, ?_, ?_, by rw [List.length_append]; show ys.length + 1 ≤ i + 1; omega, hlt⟩
        · intro b' o e
          rw [upd_ne (ne_of_none e nD)]
          exact s3 _ _ e
        · have kk : Kp H3 (upd H3 D (.lst (ys ++ [.ref q]))) := Kp.lst eD
          have pp : ∀ v p, PP H3 v p → PP (upd H3 D (.lst (ys ++ [.ref q]))) v p := fun v p h => by
            obtain ⟨q', e', h'⟩ := h
            exact ⟨q', e', kk _ _ h' (fun _ z => nomatch z)⟩
          rw [et, List.filter_append, List.filter_cons, eh]
          show All2 _ _ (List.map _ (_ ++ [z]))
          rw [List.map_append]
          exact All2.app (hy.imp pp) (.cons (pp _ _ ⟨q, rfl, s3 _ _ hq⟩) .nil)
    rintro H3 ⟨ys, eD, s3, hy, _, _⟩
    rw [ul, ← wk_len t [], List.take_length, ← gp_wk t [] wt] at hy
    exact c H3 D ys (s1.trans s3) (s1.free nD) eD hy
end
end TW

namespace TW
/-! ## holes filled: plain Lean -/
mutual
/-- the holes filled in reading order, and what is left over -/
def fl : Tr → List Tr → Tr × List Tr
  | .nd n ks, ts => if n = [95] then (ts.headD hole, ts.tail) else (.nd n (fls ks ts).1, (fls ks ts).2)
def fls : List Tr → List Tr → List Tr × List Tr
  | [], ts => ([], ts)
  | k :: r, ts => ((fl k ts).1 :: (fls r (fl k ts).2).1, (fls r (fl k ts).2).2)
end
mutual
/-- the parts of the second tree at the gaps of the first one -/
def gaT : Tr → Tr → List Tr
  | .nd n ks, .nd m js => if n = [95] then [.nd m js] else gaTs ks js
def gaTs : List Tr → List Tr → List Tr
  | [], _ => []
  | _ :: _, [] => []
  | k :: r, j :: q => gaT k j ++ gaTs r q
end
theorem ov_parts {n m : List Nat} {ks js : List Tr} (h : ov (.nd n ks) (.nd m js) = true) (h0 : n ≠ [95]) : n = m ∧ ks.length = js.length ∧ ovs ks js = true := by
  rw [ov, if_neg h0] at h
  obtain ⟨h1, h2⟩ := Bool.and_eq_true_iff.mp h
  obtain ⟨h3, h4⟩ := Bool.and_eq_true_iff.mp h2
  exact ⟨of_decide_eq_true h1, of_decide_eq_true h3, h4⟩
mutual
theorem fl_ga : ∀ (c a : Tr) (rest : List Tr), ov c a = true → fl c (gaT c a ++ rest) = (a, rest)
  | .nd n ks, .nd m js, rest, h => by
    rw [fl, gaT]
    by_cases h0 : n = [95]
    · rw [if_pos h0, if_pos h0]
      rfl
    · obtain ⟨e1, e2, e3⟩ := ov_parts h h0
      rw [if_neg h0, if_neg h0, fls_ga ks js rest e2 e3, e1]
theorem fls_ga : ∀ (ks js : List Tr) (rest : List Tr), ks.length = js.length → ovs ks js = true → fls ks (gaTs ks js ++ rest) = (js, rest)
  | [], [], rest, _, _ => by rw [gaTs, fls]; rfl
  | [], _ :: _, _, h, _ => by cases h
  | _ :: _, [], _, h, _ => by cases h
  | k :: r, j :: q, rest, h, ho => by
    rw [ovs] at ho
    obtain ⟨o1, o2⟩ := Bool.and_eq_true_iff.mp ho
    rw [gaTs, List.append_assoc, fls, fl_ga k j _ o1, fls_ga r q rest (Nat.succ.inj h) o2]
end
/-- the gaps' paths lead to these parts -/
def GAt (a : Tr) (q : List Nat) (p : List Nat) (t : Tr) : Prop := ∃ p', p = q ++ p' ∧ atN a p' = some t
mutual
theorem ga_at : ∀ (c a : Tr) (q : List Nat), ov c a = true → All2 (GAt a q) (gp c q) (gaT c a)
  | .nd n ks, .nd m js, q, h => by
    rw [gp, gaT]
    by_cases h0 : n = [95]
    · rw [if_pos h0, if_pos h0]
      exact .cons ⟨[], (List.append_nil _).symm, rfl⟩ .nil
    · obtain ⟨e1, e2, e3⟩ := ov_parts h h0
      rw [if_neg h0, if_neg h0]
      refine (gas_at ks js q 0 e2 e3).imp fun p t z => ?_
      obtain ⟨j, k, p', ep, hk, hp⟩ := z
      refine ⟨(0 + j) :: p', ep, ?_⟩
      rw [Nat.zero_add]
      show (match js[j]? with | some k => atN k p' | none => none) = some t
      rw [hk]
      exact hp
theorem gas_at : ∀ (ks js : List Tr) (q : List Nat) (i : Nat), ks.length = js.length → ovs ks js = true → All2 (fun p t => ∃ j k p', p = q ++ ((i + j) :: p') ∧ js[j]? = some k ∧ atN k p' = some t) (gps ks q i) (gaTs ks js)
  | [], [], _, _, _, _ => by rw [gps, gaTs]; exact .nil
  | [], _ :: _, _, _, h, _ => by cases h
  | _ :: _, [], _, _, h, _ => by cases h
  | k :: r, j :: s, q, i, h, ho => by
    rw [ovs] at ho
    obtain ⟨o1, o2⟩ := Bool.and_eq_true_iff.mp ho
    rw [gps, gaTs]
    refine All2.app ((ga_at k j (q ++ [i]) o1).imp fun p t z => ?_) ((gas_at r s q (i + 1) (Nat.succ.inj h) o2).imp fun p t z => ?_)
    · obtain ⟨p', ep, hp⟩ := z
      exact ⟨0, j, p', by rw [ep]; simp, rfl, hp⟩
    · obtain ⟨j', k', p', ep, hk, hp⟩ := z
      exact ⟨j' + 1, k', p', by rw [ep, show i + 1 + j' = i + (j' + 1) by omega], hk, hp⟩
end
end TW

namespace TW
open PySem PySem.Spec PyProof.Rows L2
def sp_lcovers (C : Addr) : Sp := fun vs H Q _ => ∃ x y t u, vs = [x, y, .bl (ov t u)] ∧ TO C H x t ∧ TO C H y u ∧ wf t = true ∧ wf u = true ∧ sz t ≤ 200 ∧ ∀ H', Same H H' → Q (.bl true) H'
section
variable {P : Program} {w : World} {K : PySem.W.Frag} {mg : Str → Option Value} {base : Heap}
theorem ok_lcovers (T : Tx K mg) (Z : Tc K mg) (A1 : Ta K) : FnR P w K mg base CX0 203 (He.ga K "_law_covers") (sp_lcovers (CT K)) := by
  obtain ⟨fd, G, B_covers⟩ := ok_covers (P := P) (w := w) (base := base) T Z A1
  have G_covers : FnOk P w K mg base CX0 202 (mT K "covers") fd ["self", "other"] (sp_covers (CT K) 201) := G 201
  refine fnR0 T.d_law_covers sc_law_covers (fun _ _ _ _ _ _ us hl => match us, hl with | [_, _, _], _ => rfl) (fun vs H Q E h => ?_) (fun cdv A outer s H vs Q E hr h => ?_)
  · obtain ⟨x, y, t, u, rfl, _⟩ := h
    rfl
  · obtain ⟨x, y, t, u, rfl, ht, hu, wt, wu, hz, c⟩ := h
    refine ⟨_, (pss_cons (ps_set (i := 3) sc_law_covers.nd rfl (.inl rfl) (pe_meth (pv 0) Z.cl A1.m_covers G_covers (hr.mono (by omega)) B_covers .nil pass0 (pa_cons (pv 1) pa_nil)))
(pss_one (ps_ret (pe_and (pe_callB call_isi (by rfl) T.z_isinstance (by decide +kernel) (pa_cons (pv 3) (pa_cons (pe_bltn (v := .ty "bool") (by rfl) T.z_bool (by decide +kernel) rfl) pa_nil))) (pe_one (pe_cmpR op_eq (pv 3) (pv 2) (nomark _))))))), ?_⟩
    obtain ⟨a, dx, p, rfl, ha⟩ := ht.at
    refine ⟨.ref a, rfl, a, dx, _, rfl, ha, by cases t; rfl, y, rfl, .ref a, y, t, u, rfl, ht, hu, wt, wu, by omega, by omega, fun H1 s1 => ?_⟩
    refine ⟨.bl (ov t u), rfl, .bl (ov t u), .ty "bool", _, _, _, rfl, .ty "bool", .base (.bl _), kit_ty (r := true) (by decide +kernel), true, rfl, ?_⟩
    refine iteT ⟨.bl (ov t u), rfl, .bl (ov t u), rfl, rfl, ?_⟩
    rw [decide_eq_true (rfl : V.bl (ov t u) = V.bl (ov t u))]
    exact c _ s1
end
end TW

namespace TW
open PySem PySem.Spec PyProof.Rows L2
/-! ## places in reading order: plain Lean -/
theorem atN_snoc : ∀ (p : List Nat) (t : Tr) (n : List Nat) (ks : List Tr) (j : Nat), atN t p = some (.nd n ks) → atN t (p ++ [j]) = ks[j]?
  | [], t, n, ks, j, h => by
    have e : t = .nd n ks := Option.some.inj (show some t = some (.nd n ks) from h)
    subst e
    show (match ks[j]? with | some k => atN k [] | none => none) = ks[j]?
    cases ks[j]? <;> rfl
  | i :: p, .nd m js, n, ks, j, h => by
    obtain ⟨k, hk, hu⟩ := atN_cons h
    show (match js[i]? with | some k => atN k (p ++ [j]) | none => none) = ks[j]?
    rw [hk]
    exact atN_snoc p k n ks j hu
/-- a place's parts come behind it -/
theorem wks_head : ∀ (ks : List Tr) (p : List Nat) (i j : Nat) (k : Tr), ks[j]? = some k → ∃ m : Nat, (wks ks p i)[m]? = some (p ++ [i + j], k)
  | [], _, _, _, _, h => by simp at h
  | .nd a b :: r, p, i, 0, k, h => by
    have e : Tr.nd a b = k := Option.some.inj h
    subst e
    refine ⟨0, ?_⟩
    rw [wks, wk]
    rfl
  | t :: r, p, i, j + 1, k, h => by
    obtain ⟨m, hm⟩ := wks_head r p (i + 1) j k h
    refine ⟨(wk t (p ++ [i])).length + m, ?_⟩
    rw [wks, List.getElem?_append_right (Nat.le_add_right _ _), Nat.add_sub_cancel_left, hm, show i + 1 + j = i + (j + 1) by omega]
mutual
theorem wk_next : ∀ (t : Tr) (p : List Nat) (m : Nat) (q n : List Nat) (ks : List Tr) (j : Nat) (k : Tr), (wk t p)[m]? = some (q, .nd n ks) → ks[j]? = some k → ∃ m', m < m' ∧ (wk t p)[m']? = some (q ++ [j], k)
  | .nd a b, p, 0, q, n, ks, j, k, h, hk => by
    rw [wk] at h
    have e := Option.some.inj h
    have e1 : p = q := congrArg Prod.fst e
    have e2 : Tr.nd a b = .nd n ks := congrArg Prod.snd e
    cases e2
    subst e1
    obtain ⟨m, hm⟩ := wks_head b p 0 j k hk
    refine ⟨m + 1, Nat.succ_pos _, ?_⟩
    rw [wk, List.getElem?_cons_succ, hm, Nat.zero_add]
  | .nd a b, p, m + 1, q, n, ks, j, k, h, hk => by
    rw [wk, List.getElem?_cons_succ] at h
    obtain ⟨m', l, e⟩ := wks_next b p 0 m q n ks j k h hk
    refine ⟨m' + 1, Nat.succ_lt_succ l, ?_⟩
    rw [wk, List.getElem?_cons_succ, e]
theorem wks_next : ∀ (ts : List Tr) (p : List Nat) (i m : Nat) (q n : List Nat) (ks : List Tr) (j : Nat) (k : Tr), (wks ts p i)[m]? = some (q, .nd n ks) → ks[j]? = some k → ∃ m', m < m' ∧ (wks ts p i)[m']? = some (q ++ [j], k)
  | [], p, i, m, q, n, ks, j, k, h, _ => by
    rw [wks] at h
    simp at h
  | t :: r, p, i, m, q, n, ks, j, k, h, hk => by
    rw [wks] at h
    by_cases hm : m < (wk t (p ++ [i])).length
    · rw [List.getElem?_append_left hm] at h
      obtain ⟨m', l, e⟩ := wk_next t (p ++ [i]) m q n ks j k h hk
      refine ⟨m', l, ?_⟩
      rw [wks, List.getElem?_append_left (List.getElem?_eq_some_iff.mp e).1, e]
    · rw [List.getElem?_append_right (Nat.le_of_not_lt hm)] at h
      obtain ⟨m', l, e⟩ := wks_next r p (i + 1) _ q n ks j k h hk
      refine ⟨(wk t (p ++ [i])).length + m', by omega, ?_⟩
      rw [wks, List.getElem?_append_right (Nat.le_add_right _ _), Nat.add_sub_cancel_left, e]
end
/-! ### a covered tree at the places of the cover -/
mutual
theorem ov_at : ∀ (c a : Tr) (q : List Nat), wf c = true → ov c a = true → ∀ x ∈ wk c q, ∃ q' s, x.1 = q ++ q' ∧ atN a q' = some s ∧ ov x.2 s = true
  | .nd n ks, .nd m js, q, w, h, x, hx => by
    rw [wk] at hx
    rcases List.mem_cons.mp hx with e | hy
    · subst e
      exact ⟨[], _, (List.append_nil _).symm, rfl, h⟩
    · by_cases h0 : n = [95]
      · subst h0
        have e := hole_kids w
        subst e
        rw [wks] at hy
        cases hy
      · obtain ⟨e1, e2, e3⟩ := ov_parts h h0
        obtain ⟨j, k, q', s, ex, hk, hs, o⟩ := ovs_at ks js q 0 (wf_of w).1 e2 e3 x hy
        refine ⟨(0 + j) :: q', s, ex, ?_, o⟩
        rw [Nat.zero_add]
        show (match js[j]? with | some k => atN k q' | none => none) = some s
        rw [hk]
        exact hs
theorem ovs_at : ∀ (ks js : List Tr) (q : List Nat) (i : Nat), wfs ks = true → ks.length = js.length → ovs ks js = true → ∀ x ∈ wks ks q i, ∃ j k q' s, x.1 = q ++ ((i + j) :: q') ∧ js[j]? = some k ∧ atN k q' = some s ∧ ov x.2 s = true
  | [], [], _, _, _, _, _, x, hx => by rw [wks] at hx; cases hx
  | [], _ :: _, _, _, _, h, _, _, _ => by cases h
  | _ :: _, [], _, _, _, h, _, _, _ => by cases h
  | k :: r, j :: s, q, i, w, h, ho, x, hx => by
    obtain ⟨w1, w2⟩ := wfs_cons w
    rw [ovs] at ho
    obtain ⟨o1, o2⟩ := Bool.and_eq_true_iff.mp ho
    rw [wks] at hx
    rcases List.mem_append.mp hx with hx | hx
    · obtain ⟨q', s', ex, hs, o⟩ := ov_at k j (q ++ [i]) w1 o1 x hx
      exact ⟨0, j, q', s', by rw [ex]; simp, rfl, hs, o⟩
    · obtain ⟨j', k', q', s', ex, hk, hs, o⟩ := ovs_at r s q (i + 1) w2 (Nat.succ.inj h) o2 x hx
      exact ⟨j' + 1, k', q', s', by rw [ex, show i + 1 + j' = i + (j' + 1) by omega], hk, hs, o⟩
end
end TW

namespace TW
open PySem PySem.Spec PyProof.Rows L2
/-! ### the generator paths -/
abbrev s_Tree_paths : Stmt := inClass (top 15) 14
abbrev N_Tree_paths : List Str := ["self", "path", "_"]
theorem sc_Tree_paths : GScope N_Tree_paths ["self"] (defScope s_Tree_paths) := ⟨rfl, rfl, rfl, by decide +kernel, rfl, by decide +kernel, by decide +kernel⟩
structure Ty (K : PySem.W.Frag) : Prop where
  m_paths : Meth K (CT K) "paths" (mT K "paths")
  d_paths : DefAt K "paths" "Tree.paths" s_Tree_paths (mT K "paths")
  at_in : PySem.W.findIn K (.ref (CT K)) "__contains__" = some (some (.ref (mT K "__contains__")))
  fn_in : PySem.W.isFn K (.ref (mT K "__contains__")) = true
  d_in : DefAt K "__contains__" "Tree.__contains__" s_Tree_contains (mT K "__contains__")
  at_get : PySem.W.findIn K (.ref (CT K)) "__getitem__" = some (some (.ref (mT K "__getitem__")))
  fn_get : PySem.W.isFn K (.ref (mT K "__getitem__")) = true
  fi_get : PySem.W.fnIn K (mT K "__getitem__") = true
  nq_get : PySem.W.noSeq K (CT K) = true
  d_get : DefAt K "__getitem__" "Tree.__getitem__" s_Tree_getitem (mT K "__getitem__")
def PQ (H : Hp) (v : V) (x : List Nat × Tr) : Prop := ∃ q, v = .ref q ∧ H q = some (.tup (pathV x.1))
def sp_paths (C : Addr) : SpG := fun vs H Q _ => ∃ v t, vs = [v] ∧ TO C H v t ∧ sz t ≤ 900 ∧ ∀ H' out, Same H H' → All2 (PQ H') out (wk t []) → Q out H'
section
variable {P : Program} {w : World} {K : PySem.W.Frag} {mg : Str → Option Value} {base : Heap}
theorem ok_paths (T : Tx K mg) (Z : Tc K mg) (Y : Ty K) (G_walked : FnR P w K mg base CX0 1 (He.ga K "walked") (sp_walked (CT K))) : ∃ fd, GFn P w K mg base 2 (mT K "paths") fd ["self"] (sp_paths (CT K)) ∧ Binds K fd ["self"] [] := by
  obtain ⟨fd, F⟩ := Y.d_paths
  have B : Binds K fd ["self"] [] := F.bindsN fun _ _ _ _ _ _ us hl => match us, hl with | [_], _ => rfl
  obtain ⟨oc, od, dV, kV, doc, pm, an, cdv, ct, osl, rfl, lk, hcd, hD, hK⟩ := F.ex
  refine ⟨_, gfn_of lk hcd sc_Tree_paths (fun vs H Q E h => ?_) (fun A outer s H vs Q E pn hr h => ?_), B⟩
  · obtain ⟨v, t, rfl, _⟩ := h
    rfl
  · obtain ⟨v, t, rfl, ht, hz, c⟩ := h
    refine ⟨_, gss_cons (gs_for owns_gcx rfl (pi_list (pe_cr G_walked hr (by rfl) T.v_walked T.k_walked pass0 (pa_cons (pv 0) pa_nil))) (pg_tup (by rfl) (pgs_cons (pg_name (i := 1) sc_Tree_paths.nd rfl (.inl rfl)) (pgs_cons (pg_name (i := 2) sc_Tree_paths.nd rfl (.inl rfl)) pgs_nil)))
      (gss_cons (gs_yield (pv 1)) gss_nil)) gss_nil, ?_⟩
    refine ⟨v, rfl, v, t, rfl, ht, hz, fun H1 a us s1 n1 e1 w1 => ⟨a, rfl, ⟨_, SqL.of e1⟩, ?_⟩⟩
    have ul : us.length = sz t := by rw [w1.len, wk_len]
    refine ⟨fun i m ys σ H2 => ∃ y1 y2, σ = [some v, y1, y2] ∧ m = us.length - i ∧ i ≤ us.length ∧ H2 = H1 ∧ All2 (PQ H1) ys ((wk t []).take i), ⟨_, none, none, rfl, rfl, Nat.zero_le _, rfl, by rw [List.take_zero]; exact .nil⟩, ?_⟩
    rintro i m ys σ H2 ⟨y1, y2, rfl, rfl, hi, rfl, hy⟩
    have sq : SqL K H2 a us := SqL.of e1
    by_cases hlt : i < us.length
    · refine .inr ⟨⟨us, us[i], sq, List.getElem?_eq_getElem hlt⟩, fun ys' σ' H' => ∃ y1 y2, σ' = [some v, y1, y2] ∧ H' = H2 ∧ All2 (PQ H2) ys' ((wk t []).take (i + 1)), ?_, ?_⟩
      · rintro ys' σ' H' ⟨z1, z2, rfl, rfl, hy'⟩
        exact ⟨us.length - (i + 1), by omega, z1, z2, rfl, rfl, hlt, rfl, hy'⟩
      · rintro x H' ⟨rfl, hx⟩
        have gx := hx us sq
        obtain ⟨z, ez, a1, q1, d1, rfl, ha1, hq1, _⟩ := w1.get gx
        have yl : ys.length ≤ 1000 := by
          rw [hy.len, List.length_take]
          omega
        refine ⟨a1, _, rfl, SqT.of ha1, rfl, .ref q1, [d1], rfl, d1, [], rfl, rfl, ?_⟩
        refine ⟨small1000 yl, .ref q1, rfl, _, _, rfl, rfl, ?_⟩
        rw [take_get ez]
        exact All2.app hy (.cons ⟨q1, rfl, hq1⟩ .nil)
    · have e : i = us.length := by omega
      subst e
      refine .inl ⟨⟨us, sq, Nat.le_refl _⟩, c H2 ys s1 ?_⟩
      rw [ul, ← wk_len t [], List.take_length] at hy
      exact hy
end
end TW

namespace TW
open PySem PySem.Spec PyProof.Rows L2
/-! ### the errors' classes -/
abbrev CW (K : PySem.W.Frag) : Addr := He.ga K "WorkError"
abbrev CB (K : PySem.W.Frag) : Addr := He.ga K "BadTerm"
abbrev CN (K : PySem.W.Frag) : Addr := He.ga K "NoPlace"
structure Te (P : Program) (K : PySem.W.Frag) (mg : Str → Option Value) : Prop where
  v_WorkError : mg "WorkError" = some (.ref (CW K))
  v_BadTerm : mg "BadTerm" = some (.ref (CB K))
  v_NoPlace : mg "NoPlace" = some (.ref (CN K))
  e_no : PySem.TWX.Err P K mg (CN K) (He.ma K (CN K) "__init__") "NoPlace.__init__" "path" "the path does not lead to such a place"
  e_bad : PySem.TWX.Err P K mg (CB K) (He.ma K (CB K) "__init__") "BadTerm.__init__" "term" "the string is not written as it must be"
  x_no : XfC K (CN K)
  x_bad : XfC K (CB K)
  c_no : ExcC K (CN K)
  c_bad : ExcC K (CB K)
  m_no : PySem.W.exmOne K (.ref (CN K)) (.ref (CN K)) = some true
  m_bad : PySem.W.exmOne K (.ref (CB K)) (.ref (CB K)) = some true
  i_no_w : PySem.W.kitOne K (.ref (CN K)) (.ref (CW K)) = some true
  i_no_v : PySem.W.kitOne K (.ref (CN K)) (.type "ValueError") = some true
  i_no_b : PySem.W.kitOne K (.ref (CN K)) (.ref (CB K)) = some false
  i_bad_w : PySem.W.kitOne K (.ref (CB K)) (.ref (CW K)) = some true
  i_bad_v : PySem.W.kitOne K (.ref (CB K)) (.type "ValueError") = some true
  i_bad_n : PySem.W.kitOne K (.ref (CB K)) (.ref (CN K)) = some false
/-! ### the part at a path -/
def stp (x : Int) : Tr → Option Tr
  | .nd _ ks => if 0 ≤ x then ks[x.toNat]? else none
def atP (t : Tr) (p : List Int) : Option Tr := p.foldl (fun o x => o.bind (stp x)) (some t)
theorem atP_snoc (t : Tr) (p : List Int) (x : Int) : atP t (p ++ [x]) = (atP t p).bind (stp x) := by
  unfold atP
  rw [List.foldl_append]
  rfl
theorem atP_none {t : Tr} {p r : List Int} (h : atP t p = none) : atP t (p ++ r) = none := by
  unfold atP at h ⊢
  rw [List.foldl_append, h]
  induction r with
  | nil => rfl
  | cons x r ih => exact ih
theorem take_int {p : List Int} {i : Nat} {x : Int} (h : p[i]? = some x) : p.take (i + 1) = p.take i ++ [x] := by
  rw [List.take_add_one, h]
  rfl
def sp_in (C : Addr) : Sp := fun vs H Q _ => ∃ v t q p, vs = [v, .ref q] ∧ TO C H v t ∧ H q = some (.tup (p.map V.int)) ∧ Q (.bl (atP t p).isSome) H
def sp_get (C N : Addr) : Sp := fun vs H Q E => ∃ v t q p, vs = [v, .ref q] ∧ TO C H v t ∧ H q = some (.tup (p.map V.int)) ∧
  (∀ u, atP t p = some u → ∀ z, TO C H z u → Q z H) ∧ (atP t p = none → ∀ d, H d = none → E (.ref N) (some d) (upd H d (.xd [(("path" : Str), .ref q)])))
theorem ints_get {p : List Int} {i : Nat} {x : V} (h : (p.map V.int)[i]? = some x) : ∃ k, p[i]? = some k ∧ x = .int k := by
  rw [List.getElem?_map] at h
  cases e : p[i]? with
  | none => rw [e] at h; cases h
  | some k =>
    rw [e] at h
    exact ⟨k, rfl, (Option.some.inj h).symm⟩
section
variable {P : Program} {w : World} {K : PySem.W.Frag} {mg : Str → Option Value} {base : Heap}
theorem ok_in (T : Tx K mg) (Z : Tc K mg) (Y : Ty K) : FnR P w K mg base CX0 1 (mT K "__contains__") (sp_in (CT K)) := by
  refine fnR0 Y.d_in sc_Tree_contains (fun _ _ _ _ _ _ us hl => match us, hl with | [_, _], _ => rfl) (fun vs H Q E h => ?_) (fun cdv A outer s H vs Q E hr h => ?_)
  · obtain ⟨v, t, q, p, rfl, _⟩ := h
    rfl
  · obtain ⟨v, t, q, p, rfl, ht, hq, c⟩ := h
    refine ⟨_, (pss_cons (ps_set (i := 2) sc_Tree_contains.nd rfl (.inl rfl) (pv 0))
(pss_cons (ps_for PassesOwn.never rfl (pi_tup (pv 1)) (pg_name (i := 3) sc_Tree_contains.nd rfl (.inl rfl))
(pss_cons (ps_if (pt_not (pt_chain op_le op_lt pe_int (pv 3) (pe_callB call_len (by rfl) T.z_len (by decide +kernel) (pa_cons (pe_fldK K (pv 2) rfl) pa_nil))))
(pss_one (ps_ret pe_bl))
pss_nil)
(pss_one (ps_set (i := 2) sc_Tree_contains.nd rfl (.inl rfl) (pe_ix (r := rIxT K) ix_tup (pe_fldK K (pv 2) rfl) (pv 3) (fun _ _ => rfl))))))
(pss_one (ps_ret pe_bl)))), ?_⟩
    refine ⟨v, rfl, .ref q, rfl, q, rfl, ⟨_, SqT.of hq⟩, for_tup (xs := p.map V.int) (fun i σ H1 => ∃ y z u, σ = [some v, some (.ref q), some z, y] ∧ H1 = H ∧ atP t (p.take i) = some u ∧ TO (CT K) H z u) ⟨none, v, t, rfl, rfl, rfl, ht⟩ ?_ ?_ ?_⟩
    · rintro i σ H1 _ ⟨y, z, u, rfl, rfl, _⟩
      exact SqT.of hq
    · rintro i x σ H1 hx ⟨y, z, ⟨n, ks⟩, rfl, rfl, hu, hz⟩
      obtain ⟨k, hk, rfl⟩ := ints_get hx
      have e1 := take_int hk
      rw [TO] at hz
      obtain ⟨a, dx, pp, us, rfl, ha, hp, hks⟩ := hz
      have kl := hks.length
      refine ⟨.int k, rfl, 0, k, rfl, rfl, _, rfl, ite2 (fun e => ?_) (fun e => ?_)⟩
      · have h0 : 0 ≤ k := of_decide_eq_true e
        refine ⟨.ref a, rfl, a, _, dx, _, _, rfl, ha, Z.cl, Z.a_parts, rfl, .ref pp, us.length, rfl, .inr ⟨_, SqT.of hp, rfl⟩, k, us.length, rfl, rfl, _, rfl, ite2 (fun e => ?_) (fun e => ?_)⟩
        · have h1 : ¬ k < us.length := fun z => by rw [decide_eq_true z] at e; cases e
          have no : atP t p = none := by
            rw [← List.take_append_drop (i + 1) p]
            refine atP_none ?_
            rw [e1, atP_snoc, hu]
            show (if 0 ≤ k then ks[k.toNat]? else none) = none
            rw [if_pos h0]
            exact List.getElem?_eq_none (by omega)
          rw [no] at c
          exact c
        · have h1 : k < us.length := by
            refine Decidable.byContradiction fun z => ?_
            rw [decide_eq_false z] at e
            exact e rfl
          have hj : k.toNat < us.length := by omega
          have ek : ((k.toNat : Nat) : Int) = k := by omega
          obtain ⟨t1, et, ht1⟩ := hks.get (List.getElem?_eq_getElem hj)
          refine ⟨.ref a, rfl, a, _, dx, _, _, rfl, ha, Z.cl, Z.a_parts, rfl, .int k, rfl, pp, us, k, us[k.toNat], rfl, rfl, SqT.of hp, ?_, _, _, t1, rfl, rfl, ?_, ht1⟩
          · have z := atI_nat (List.getElem?_eq_getElem hj)
            rw [ek] at z
            exact z
          · rw [e1, atP_snoc, hu]
            show (if 0 ≤ k then ks[k.toNat]? else none) = some t1
            rw [if_pos h0, et]
      · have h0 : ¬ 0 ≤ k := fun z => e (decide_eq_true z)
        have no : atP t p = none := by
          rw [← List.take_append_drop (i + 1) p]
          refine atP_none ?_
          rw [e1, atP_snoc, hu]
          show (if 0 ≤ k then ks[k.toNat]? else none) = none
          rw [if_neg h0]
        rw [no] at c
        exact ⟨false, rfl, c⟩
    · rintro σ H1 ⟨y, z, u, rfl, rfl, hu, hz⟩
      rw [List.length_map, List.take_length] at hu
      rw [hu] at c
      exact c
theorem ok_get (T : Tx K mg) (Z : Tc K mg) (Y : Ty K) (J : Te P K mg) : FnR P w K mg base (L2.CX P w) 2 (mT K "__getitem__") (sp_get (CT K) (CN K)) := by
  refine fnRX Y.d_get sc_Tree_getitem (fun _ _ _ _ _ _ us hl => match us, hl with | [_, _], _ => rfl) (fun vs H Q E h => ?_) (fun cdv A outer s H vs Q E hr h => ?_)
  · obtain ⟨v, t, q, p, rfl, _⟩ := h
    rfl
  · obtain ⟨v, t, q, p, rfl, ht, hq, c, c0⟩ := h
    refine ⟨_, (pss_cons (ps_set (i := 2) sc_Tree_getitem.nd rfl (.inl rfl) (pv 0))
(pss_cons (ps_for PassesOwn.leaving rfl (pi_tup (pv 1)) (pg_name (i := 3) sc_Tree_getitem.nd rfl (.inl rfl))
(pss_cons (ps_if (pt_not (pt_chain op_le op_lt pe_int (pv 3) (pe_callB call_len (by rfl) T.z_len (by decide +kernel) (pa_cons (pe_fldK K (pv 2) rfl) pa_nil))))
(pss_one (ps_raiseE J.e_no fld_path hr J.v_NoPlace rfl (takes_of rfl rfl rfl rfl) (pa_cons (pv 1) pa_nil) (by rfl)))
pss_nil)
(pss_one (ps_set (i := 2) sc_Tree_getitem.nd rfl (.inl rfl) (pe_ix (r := rIxT K) ix_tup (pe_fldK K (pv 2) rfl) (pv 3) (fun _ _ => rfl))))))
(pss_one (ps_ret (pv 2))))), ?_⟩
    refine ⟨v, rfl, .ref q, rfl, q, rfl, ⟨_, SqT.of hq⟩, for_tup (xs := p.map V.int) (fun i σ H1 => ∃ y z u, σ = [some v, some (.ref q), some z, y] ∧ H1 = H ∧ atP t (p.take i) = some u ∧ TO (CT K) H z u) ⟨none, v, t, rfl, rfl, rfl, ht⟩ ?_ ?_ ?_⟩
    · rintro i σ H1 _ ⟨y, z, u, rfl, rfl, _⟩
      exact SqT.of hq
    · rintro i x σ H1 hx ⟨y, z, ⟨n, ks⟩, rfl, rfl, hu, hz⟩
      obtain ⟨k, hk, rfl⟩ := ints_get hx
      have e1 := take_int hk
      rw [TO] at hz
      obtain ⟨a, dx, pp, us, rfl, ha, hp, hks⟩ := hz
      have kl := hks.length
      refine ⟨.int k, rfl, 0, k, rfl, rfl, _, rfl, ite2 (fun e => ?_) (fun e => ?_)⟩
      · have h0 : 0 ≤ k := of_decide_eq_true e
        refine ⟨.ref a, rfl, a, _, dx, _, _, rfl, ha, Z.cl, Z.a_parts, rfl, .ref pp, us.length, rfl, .inr ⟨_, SqT.of hp, rfl⟩, k, us.length, rfl, rfl, _, rfl, ite2 (fun e => ?_) (fun e => ?_)⟩
        · have h1 : ¬ k < us.length := fun z => by rw [decide_eq_true z] at e; cases e
          have no : atP t p = none := by
            rw [← List.take_append_drop (i + 1) p]
            refine atP_none ?_
            rw [e1, atP_snoc, hu]
            show (if 0 ≤ k then ks[k.toNat]? else none) = none
            rw [if_pos h0]
            exact List.getElem?_eq_none (by omega)
          exact ⟨.ref q, rfl, _, rfl, c0 no⟩
        · have h1 : k < us.length := by
            refine Decidable.byContradiction fun z => ?_
            rw [decide_eq_false z] at e
            exact e rfl
          have hj : k.toNat < us.length := by omega
          have ek : ((k.toNat : Nat) : Int) = k := by omega
          obtain ⟨t1, et, ht1⟩ := hks.get (List.getElem?_eq_getElem hj)
          refine ⟨.ref a, rfl, a, _, dx, _, _, rfl, ha, Z.cl, Z.a_parts, rfl, .int k, rfl, pp, us, k, us[k.toNat], rfl, rfl, SqT.of hp, ?_, _, _, t1, rfl, rfl, ?_, ht1⟩
          · have z := atI_nat (List.getElem?_eq_getElem hj)
            rw [ek] at z
            exact z
          · rw [e1, atP_snoc, hu]
            show (if 0 ≤ k then ks[k.toNat]? else none) = some t1
            rw [if_pos h0, et]
      · have h0 : ¬ 0 ≤ k := fun z => e (decide_eq_true z)
        have no : atP t p = none := by
          rw [← List.take_append_drop (i + 1) p]
          refine atP_none ?_
          rw [e1, atP_snoc, hu]
          show (if 0 ≤ k then ks[k.toNat]? else none) = none
          rw [if_neg h0]
        exact ⟨false, rfl, .ref q, rfl, _, rfl, c0 no⟩
    · rintro σ H1 ⟨y, z, u, rfl, rfl, hu, hz⟩
      rw [List.length_map, List.take_length] at hu
      exact ⟨z, rfl, c u hu z hz⟩
end
end TW

namespace TW
open PySem PySem.Spec PyProof.Rows L2
theorem passE0 {X : Cx} : Passes (L2.CX X.prog X.w) X E0 := fun _ _ _ _ _ _ _ h => by
  obtain ⟨_, _, _, _, _, _, _, _, _, _, _, _, z⟩ := h
  exact z.elim
/-! ### p in tree, tree[p] -/
def rInT (C : Addr) (sp : Sp) (E : XK) : R2 := fun x y H Q => ∃ a dx fs, y = .ref a ∧ H a = some (.ins C dx fs) ∧ sp [.ref a, x] H (fun v H' => ∃ b, v = .bl b ∧ Q (.bl b) H') E
theorem op_inT {X : Cx} {CX : CXT} {k : Nat} {sp : Sp} {E : XK} (Y : Ty X.K) (G : FnR X.prog X.w X.K X.mg X.base CX k (mT X.K "__contains__") sp) (hr : Room k X.A) (hx : Passes CX X E) : OpR X (compareOp .In) (rInT (CT X.K) sp E) := by
  intro pins s σ H x y v u Q I rx ry h
  obtain ⟨a, dx, fs, rfl, ha, hs⟩ := h
  cases ry
  obtain ⟨m, F⟩ := I.fr
  obtain ⟨mA, O, _⟩ := ins_get I.hok ha
  obtain ⟨od, J, _⟩ := O.look
  refine PySem.W.in_K F I.ok.mod.kin J Y.at_in Y.fn_in (wpAny_call (codeAny_mono (run_fnR (vs := [.ref a, x]) (us := [.ref a, v]) G hr hx I (.cons rfl (.cons rx .nil)) hs) fun r s' hq => ?_))
  cases r with
  | error er => exact hq
  | ok fl =>
    cases fl with
    | ret u =>
      obtain ⟨z, H', I2, rv, b, rfl, q⟩ := hq
      exact wpAny_mono (tru_ok pins s' σ H' (.bl b) u (fun c H2 => Q (.bl c) H2) I2 rv ⟨b, rfl, q⟩) (fun c s2 hc => by
        obtain ⟨H3, I3, q3⟩ := hc
        exact ⟨.bl c, H3, I3, rfl, q3⟩) fun _ _ z => z
    | next => exact hq
    | brk => exact hq
    | cont => exact hq
def rGetT (C : Addr) (sp : Sp) (E : XK) : R2 := fun x y H Q => ∃ a dx fs, x = .ref a ∧ H a = some (.ins C dx fs) ∧ sp [.ref a, y] H Q E
theorem pe_getT {X : Cx} {CX : CXT} {k : Nat} {sp : Sp} {E : XK} {e i : Expr} {te ti : TE} {pos : Pos} (Y : Ty X.K) (G : FnR X.prog X.w X.K X.mg X.base CX k (mT X.K "__getitem__") sp) (hr : Room (k + 1) X.A) (hx : Passes CX X E) (he : PE X e te) (hi : PE X i ti)
    (hsl : ∀ x u, subscripted i true x u = runValue (.builtin "lifetime.subscript" ⟨[x, u], []⟩) := by intro _ _; with_unfolding_all rfl) :
    PE X (.Subscript e i pos) (tOp (rGetT (CT X.K) sp E) te ti) := by
  refine ⟨fun pins s σ H Q I h => ?_⟩
  refine Subscript_ (binT he hi I h fun v u s2 x y H2 I2 rx ry q => ?_)
  obtain ⟨a, dx, fs, rfl, ha, hs⟩ := q
  cases rx
  obtain ⟨m, F⟩ := I2.fr
  obtain ⟨mA, O, _⟩ := ins_get I2.hok ha
  obtain ⟨od, J, _⟩ := O.look
  refine PySem.W.sub_K F I2.ok.mod.kin J Y.at_get Y.fi_get Y.fn_get ?_ (hsl _ _)
  refine wpAny_call (codeAny_mono (G X.A.in1 X.stack s2 H2 [.ref a, u] [.ref a, y] Q E hr.in1 I2.env0.in1 (.cons rfl (.cons ry .nil)) hs) fun r s' hq => ?_)
  cases r with
  | error er => exact hx pins σ H2 s2 er s' I2 hq
  | ok fl =>
    cases fl with
    | ret u => exact I2.after hq
    | next => exact False.elim hq
    | brk => exact False.elim hq
    | cont => exact False.elim hq
/-! ### a place's path leads to it -/
theorem pathV_ints (p : List Nat) : pathV p = (p.map Int.ofNat).map V.int := by
  rw [List.map_map]
  rfl
mutual
theorem wk_at : ∀ (t : Tr) (x : List Nat × Tr), x ∈ wk t [] → atP t (x.1.map Int.ofNat) = some x.2
  | .nd n ks, x, h => by
    rw [wk] at h
    rcases List.mem_cons.mp h with e | h
    · rw [e]
      rfl
    · obtain ⟨j, k, y, hk, hy, e⟩ := wks_mem h
      have z := wks_at ks j k hk y hy
      rw [e, Nat.zero_add]
      have e1 : stp (Int.ofNat j) (.nd n ks) = some k := by
        show (if 0 ≤ Int.ofNat j then ks[(Int.ofNat j).toNat]? else none) = some k
        rw [if_pos (show (0 : Int) ≤ Int.ofNat j from Int.natCast_nonneg j)]
        exact hk
      show List.foldl (fun o x => o.bind (stp x)) (stp (Int.ofNat j) (.nd n ks)) (y.1.map Int.ofNat) = _
      rw [e1]
      exact z
theorem wks_at : ∀ (ks : List Tr) (j : Nat) (k : Tr), ks[j]? = some k → ∀ y, y ∈ wk k [] → atP k (y.1.map Int.ofNat) = some y.2
  | [], _, _, h => by cases h
  | t :: r, 0, k, h => by
    have e : t = k := Option.some.inj h
    intro y hy
    rw [← e] at hy ⊢
    exact wk_at t y hy
  | t :: r, j + 1, k, h => wks_at r j k h
end
/-! ### lists of paths as data -/
theorem dpPaths {K : PySem.W.Frag} {H : Hp} : ∀ {vs : List V} {xs : List (List Nat × Tr)}, All2 (PQ H) vs xs → DpAll K H vs (xs.map fun x => PyData.tuple ((x.1.map Int.ofNat).map PyData.int))
  | _, _, .nil => .nil
  | _, _, .cons (b := x) ⟨q, e, hq⟩ t => by
    subst e
    rw [pathV_ints] at hq
    exact .cons (.tup (SqT.of hq) (dpInts _)) (dpPaths t)
theorem layPaths : ∀ xs : List (List Nat × Tr), PyData.canLayAll0 (xs.map fun x => PyData.tuple ((x.1.map Int.ofNat).map PyData.int)) = true
  | [] => rfl
  | x :: r => by
    show (PyData.canLayAll0 ((x.1.map Int.ofNat).map PyData.int) && PyData.canLayAll0 (r.map fun x => PyData.tuple ((x.1.map Int.ofNat).map PyData.int))) = true
    rw [layPaths r, layInts]
    rfl
theorem depthPaths : ∀ xs : List (List Nat × Tr), PyData.depthAll (xs.map fun x => PyData.tuple ((x.1.map Int.ofNat).map PyData.int)) ≤ 1
  | [] => Nat.zero_le _
  | x :: r => by
    show max (PyData.depthAll ((x.1.map Int.ofNat).map PyData.int) + 1) (PyData.depthAll (r.map fun x => PyData.tuple ((x.1.map Int.ofNat).map PyData.int))) ≤ 1
    have := depthPaths r
    rw [depthInts]
    omega
theorem shapedPaths (xs : List (List Nat × Tr)) : SeqAt.shaped (.list (xs.map fun x => PyData.tuple ((x.1.map Int.ofNat).map PyData.int))) = true := by
  show (PyData.canLayAll0 (xs.map fun x => PyData.tuple ((x.1.map Int.ofNat).map PyData.int)) && decide (PyData.depthAll (xs.map fun x => PyData.tuple ((x.1.map Int.ofNat).map PyData.int)) + 1 ≤ 64)) = true
  have := depthPaths xs
  rw [layPaths, decide_eq_true (show PyData.depthAll (xs.map fun x => PyData.tuple ((x.1.map Int.ofNat).map PyData.int)) + 1 ≤ 64 by omega)]
  rfl
theorem eqvInts (ns : List Int) : PyData.eqvAll (ns.map PyData.int) (ns.map PyData.int) = true := by
  induction ns with
  | nil => rfl
  | cons n r ih =>
    show ((n == n) && PyData.eqvAll (r.map PyData.int) (r.map PyData.int)) = true
    rw [ih, beq_self_eq_true]
    rfl
theorem eqvPaths (xs : List (List Nat × Tr)) : PyData.eqv (.list (xs.map fun x => PyData.tuple ((x.1.map Int.ofNat).map PyData.int))) (.list (xs.map fun x => PyData.tuple ((x.1.map Int.ofNat).map PyData.int))) = true := by
  show PyData.eqvAll (xs.map fun x => PyData.tuple ((x.1.map Int.ofNat).map PyData.int)) (xs.map fun x => PyData.tuple ((x.1.map Int.ofNat).map PyData.int)) = true
  induction xs with
  | nil => rfl
  | cons x r ih =>
    show (PyData.eqvAll ((x.1.map Int.ofNat).map PyData.int) ((x.1.map Int.ofNat).map PyData.int) && PyData.eqvAll (r.map fun x => PyData.tuple ((x.1.map Int.ofNat).map PyData.int)) (r.map fun x => PyData.tuple ((x.1.map Int.ofNat).map PyData.int))) = true
    rw [ih, eqvInts]
    rfl
theorem wd_split {ok : Addr → Prop} {H : Hp} : ∀ {us : List V} {xs : List (List Nat × Tr)}, All2 (WD ok H) us xs → ∃ fs, fs.length = us.length ∧ All2 (PQ H) fs xs ∧ ∀ (i : Nat) (v f : V), us[i]? = some v → fs[i]? = some f → ∃ a d, v = .ref a ∧ H a = some (.tup [f, d])
  | _, _, .nil => ⟨[], rfl, .nil, fun i v f h => by simp at h⟩
  | _, _, .cons ⟨a, q, d, e, h1, h2, h3⟩ t => by
    obtain ⟨fs, l, w, g⟩ := wd_split t
    refine ⟨.ref q :: fs, congrArg Nat.succ l, .cons ⟨q, rfl, h2⟩ w, fun i v f hv hf => ?_⟩
    cases i with
    | zero =>
      have e1 := Option.some.inj hv
      have e2 := Option.some.inj hf
      rw [← e1, ← e2]
      exact ⟨a, d, e, h1⟩
    | succ i => exact g i v f hv hf
theorem PQ.same {H H' : Hp} (s : Same H H') {v : V} {x : List Nat × Tr} (h : PQ H v x) : PQ H' v x := by
  obtain ⟨q, e, h1⟩ := h
  exact ⟨q, e, s _ _ h1⟩
end TW

namespace TW
open PySem PySem.Spec PyProof.Rows L2
/-- an expression that is not reached -/
structure To (K : PySem.W.Frag) : Prop where
  at_lt : PySem.W.findIn K (.ref (CT K)) "__lt__" = some (some (.ref (mT K "__lt__")))
  fn_lt : PySem.W.isFn K (.ref (mT K "__lt__")) = true
  d_lt : DefAt K "__lt__" "Tree.__lt__" s_Tree_lt (mT K "__lt__")
  at_le : PySem.W.findIn K (.ref (CT K)) "__le__" = some (some (.ref (mT K "__le__")))
  fn_le : PySem.W.isFn K (.ref (mT K "__le__")) = true
  d_le : DefAt K "__le__" "Tree.__le__" s_Tree_le (mT K "__le__")
  at_eq : PySem.W.findIn K (.ref (CT K)) "__eq__" = some (some (.ref (mT K "__eq__")))
  fn_eq : PySem.W.isFn K (.ref (mT K "__eq__")) = true
  d_eq : DefAt K "__eq__" "Tree.__eq__" s_Tree_eq (mT K "__eq__")
  m_place : Meth K (CT K) "place" (mT K "place")
  d_place : DefAt K "place" "Tree.place" s_Tree_place (mT K "place")
/-! ### x op y by the class's own def -/
def rCmpT (C : Addr) (sp : Sp) (E : XK) : R2 := fun x y H Q => ∃ a dx fs b dy gs, x = .ref a ∧ y = .ref b ∧ H a = some (.ins C dx fs) ∧ H b = some (.ins C dy gs) ∧ sp [x, y] H Q E
theorem op_cmpT {X : Cx} {CX : CXT} {k : Nat} {sp : Sp} {E : XK} {C g : Addr} {op : CmpOp} (hop : ∀ a b, compareOp op a b = richCompare op a b) (hs : PySem.W.findIn X.K (.ref C) (cmpInfo op).2.1 = some (some (.ref g))) (hf : PySem.W.isFn X.K (.ref g) = true)
    (G : FnR X.prog X.w X.K X.mg X.base CX k g sp) (hr : Room k X.A) (hx : Passes CX X E) : OpR X (compareOp op) (rCmpT C sp E) := by
  intro pins s σ H x y v u Q I rx ry h
  obtain ⟨a, dx, fs, b, dy, gs, rfl, rfl, ha, hb, q⟩ := h
  cases (show v = Value.ref a from rx)
  cases (show u = Value.ref b from ry)
  obtain ⟨m, F⟩ := I.fr
  obtain ⟨mA, O, _⟩ := ins_get I.hok ha
  obtain ⟨od, J, _⟩ := O.look
  obtain ⟨mB, O2, _⟩ := ins_get I.hok hb
  obtain ⟨od2, J2, _⟩ := O2.look
  rw [hop]
  refine PySem.W.cmp_K (op := op) (tb := .ref C) hr.units0 F I.ok.mod.kin J J2.type (by unfold PySem.W.notFirst; rw [beq_self_eq_true]; rfl) hs hf ?_
  refine wpAny_mono (wpAny_call (run_fnR (us := [.ref a, .ref b]) (vs := [.ref a, .ref b]) G hr hx I (.cons rfl (.cons rfl .nil)) q)) (fun w s' z => ?_) fun _ _ x => x
  obtain ⟨z', H', I', rz, qz⟩ := z
  exact SlX.cmpback rz ⟨z', H', I', rz, qz⟩
/-! ### place, and what is decided by it -/
abbrev nt (t : Tr) : NT := ((sz t : Int), mk (tm t))
def sp_place (C : Addr) : Sp := fun vs H Q _ => ∃ v t, vs = [v] ∧ TO C H v t ∧ ∀ a, H a = none → Q (.ref a) (upd H a (.tup [.int (sz t : Int), .str (mk (tm t))]))
def sp_cmp (C : Addr) (f : NT → NT → Bool) : Sp := fun vs H Q _ => ∃ x y t u, vs = [x, y] ∧ TO C H x t ∧ TO C H y u ∧ ∀ H', Same H H' → Q (.bl (f (nt t) (nt u))) H'
theorem dp_nt {K : PySem.W.Frag} {H : Hp} {a : Addr} {t : Tr} (h : H a = some (.tup [.int (sz t : Int), .str (mk (tm t))])) : Dp K H (.ref a) (ntD (nt t)) := .tup (SqT.of h) (.cons (.int _) (.cons (.str _) .nil))
section
variable {P : Program} {w : World} {K : PySem.W.Frag} {mg : Str → Option Value} {base : Heap}
theorem ok_place (Z : Tc K mg) (O : To K) : ∃ fd, FnOk P w K mg base CX0 1 (mT K "place") fd ["self"] (sp_place (CT K)) ∧ Binds K fd ["self"] [] := by
  refine fnO0 O.d_place sc_Tree_place (fun _ _ _ _ _ _ us hl => match us, hl with | [_], _ => rfl) (fun vs H Q E h => ?_) (fun cdv A outer s H vs Q E hr h => ?_)
  · obtain ⟨a, t, rfl, _⟩ := h
    rfl
  · obtain ⟨v, t, rfl, ht, q⟩ := h
    refine ⟨_, (pss_one (ps_ret (pe_tup (pa_cons (pe_fldK K (pv 0) rfl) (pa_cons (pe_fldK K (pv 0) rfl) pa_nil))))), ?_⟩
    obtain ⟨a, dx, p, rfl, ha⟩ := ht.at
    obtain ⟨n, ks⟩ := t
    exact ⟨.ref a, rfl, a, _, dx, _, _, rfl, ha, Z.cl, Z.a_size, rfl, .ref a, rfl, a, _, dx, _, _, rfl, ha, Z.cl, Z.a_term, rfl, szle, q⟩
theorem ok_lt (T : Tx K mg) (Z : Tc K mg) (W : Tw K) (O : To K) : FnR P w K mg base CX0 2 (mT K "__lt__") (sp_cmp (CT K) fun p q => PySem.W.DatumOrd.lt p q) := by
  obtain ⟨fdp, G_place, B_place⟩ := ok_place (P := P) (w := w) (base := base) Z O
  refine fnR0 O.d_lt sc_Tree_lt (fun _ _ _ _ _ _ us hl => match us, hl with | [_, _], _ => rfl) (fun vs H Q E h => ?_) (fun cdv A outer s H vs Q E hr h => ?_)
  · obtain ⟨x, y, t, u, rfl, _⟩ := h
    rfl
  · obtain ⟨x, y, t, u, rfl, ht, hu, q⟩ := h
    refine ⟨_, (pss_cons (ps_if (pt_not (pt_val (pe_callB call_isi (by rfl) T.z_isinstance (by decide +kernel) (pa_cons (pv 1) (pa_cons (pe_glob (v := .ref (CT K)) (by rfl) Z.v_Tree rfl) pa_nil)))))
(pss_one (ps_ret pe_dead))
pss_nil)
(pss_one (ps_ret (pe_cmpR (op_ltN hr.units) (pe_meth0 (pv 0) Z.cl O.m_place G_place (hr.mono (by omega)) B_place .nil pass0) (pe_meth0 (pv 1) Z.cl O.m_place G_place (hr.mono (by omega)) B_place .nil pass0) (nomark _))))), ?_⟩
    obtain ⟨a, dx, p, rfl, ha⟩ := ht.at
    obtain ⟨b, dy, r, rfl, hb⟩ := hu.at
    have ins : TyX K H (.ref b) (.ref (CT K)) := .base (.ins hb Z.cl W.ic W.ig W.it W.im)
    refine ⟨.ref b, rfl, .ref b, .ref (CT K), _, _, _, rfl, .own _, ins, kit_same _, true, rfl, ?_⟩
    refine iteF ?_
    refine ⟨.ref a, rfl, a, dx, _, rfl, ha, by cases t; rfl, .ref a, t, rfl, ht, fun c nc => ?_⟩
    have s1 : Same H (upd H c (.tup [.int (sz t : Int), .str (mk (tm t))])) := Same.new nc
    refine ⟨.ref b, rfl, b, dy, _, rfl, s1 _ _ hb, by cases u; rfl, .ref b, u, rfl, TO.same s1 hu, fun e ne => ?_⟩
    have s2 := s1.trans (Same.new (o := .tup [.int (sz u : Int), .str (mk (tm u))]) ne)
    exact ⟨nt t, nt u, dp_nt (Same.new ne _ _ upd_same), dp_nt upd_same, q _ s2⟩
theorem ok_le (T : Tx K mg) (Z : Tc K mg) (W : Tw K) (O : To K) : FnR P w K mg base CX0 2 (mT K "__le__") (sp_cmp (CT K) fun p q => !PySem.W.DatumOrd.lt q p) := by
  obtain ⟨fdp, G_place, B_place⟩ := ok_place (P := P) (w := w) (base := base) Z O
  refine fnR0 O.d_le sc_Tree_le (fun _ _ _ _ _ _ us hl => match us, hl with | [_, _], _ => rfl) (fun vs H Q E h => ?_) (fun cdv A outer s H vs Q E hr h => ?_)
  · obtain ⟨x, y, t, u, rfl, _⟩ := h
    rfl
  · obtain ⟨x, y, t, u, rfl, ht, hu, q⟩ := h
    refine ⟨_, (pss_cons (ps_if (pt_not (pt_val (pe_callB call_isi (by rfl) T.z_isinstance (by decide +kernel) (pa_cons (pv 1) (pa_cons (pe_glob (v := .ref (CT K)) (by rfl) Z.v_Tree rfl) pa_nil)))))
(pss_one (ps_ret pe_dead))
pss_nil)
(pss_one (ps_ret (pe_cmpR (op_leN hr.units) (pe_meth0 (pv 0) Z.cl O.m_place G_place (hr.mono (by omega)) B_place .nil pass0) (pe_meth0 (pv 1) Z.cl O.m_place G_place (hr.mono (by omega)) B_place .nil pass0) (nomark _))))), ?_⟩
    obtain ⟨a, dx, p, rfl, ha⟩ := ht.at
    obtain ⟨b, dy, r, rfl, hb⟩ := hu.at
    have ins : TyX K H (.ref b) (.ref (CT K)) := .base (.ins hb Z.cl W.ic W.ig W.it W.im)
    refine ⟨.ref b, rfl, .ref b, .ref (CT K), _, _, _, rfl, .own _, ins, kit_same _, true, rfl, ?_⟩
    refine iteF ?_
    refine ⟨.ref a, rfl, a, dx, _, rfl, ha, by cases t; rfl, .ref a, t, rfl, ht, fun c nc => ?_⟩
    have s1 : Same H (upd H c (.tup [.int (sz t : Int), .str (mk (tm t))])) := Same.new nc
    refine ⟨.ref b, rfl, b, dy, _, rfl, s1 _ _ hb, by cases u; rfl, .ref b, u, rfl, TO.same s1 hu, fun e ne => ?_⟩
    have s2 := s1.trans (Same.new (o := .tup [.int (sz u : Int), .str (mk (tm u))]) ne)
    exact ⟨nt t, nt u, dp_nt (Same.new ne _ _ upd_same), dp_nt upd_same, q _ s2⟩
theorem ok_eq (T : Tx K mg) (Z : Tc K mg) (W : Tw K) (O : To K) : FnR P w K mg base CX0 2 (mT K "__eq__") (sp_cmp (CT K) fun p q => decide (p = q)) := by
  obtain ⟨fdp, G_place, B_place⟩ := ok_place (P := P) (w := w) (base := base) Z O
  refine fnR0 O.d_eq sc_Tree_eq (fun _ _ _ _ _ _ us hl => match us, hl with | [_, _], _ => rfl) (fun vs H Q E h => ?_) (fun cdv A outer s H vs Q E hr h => ?_)
  · obtain ⟨x, y, t, u, rfl, _⟩ := h
    rfl
  · obtain ⟨x, y, t, u, rfl, ht, hu, q⟩ := h
    refine ⟨_, (pss_cons (ps_if (pt_not (pt_val (pe_callB call_isi (by rfl) T.z_isinstance (by decide +kernel) (pa_cons (pv 1) (pa_cons (pe_glob (v := .ref (CT K)) (by rfl) Z.v_Tree rfl) pa_nil)))))
(pss_one (ps_ret pe_dead))
pss_nil)
(pss_one (ps_ret (pe_cmpR (op_eqN hr.units) (pe_meth0 (pv 0) Z.cl O.m_place G_place (hr.mono (by omega)) B_place .nil pass0) (pe_meth0 (pv 1) Z.cl O.m_place G_place (hr.mono (by omega)) B_place .nil pass0) (nomark _))))), ?_⟩
    obtain ⟨a, dx, p, rfl, ha⟩ := ht.at
    obtain ⟨b, dy, r, rfl, hb⟩ := hu.at
    have ins : TyX K H (.ref b) (.ref (CT K)) := .base (.ins hb Z.cl W.ic W.ig W.it W.im)
    refine ⟨.ref b, rfl, .ref b, .ref (CT K), _, _, _, rfl, .own _, ins, kit_same _, true, rfl, ?_⟩
    refine iteF ?_
    refine ⟨.ref a, rfl, a, dx, _, rfl, ha, by cases t; rfl, .ref a, t, rfl, ht, fun c nc => ?_⟩
    have s1 : Same H (upd H c (.tup [.int (sz t : Int), .str (mk (tm t))])) := Same.new nc
    refine ⟨.ref b, rfl, b, dy, _, rfl, s1 _ _ hb, by cases u; rfl, .ref b, u, rfl, TO.same s1 hu, fun e ne => ?_⟩
    have s2 := s1.trans (Same.new (o := .tup [.int (sz u : Int), .str (mk (tm u))]) ne)
    exact ⟨nt t, nt u, dp_nt (Same.new ne _ _ upd_same), dp_nt upd_same, q _ s2⟩
end
end TW

namespace TW
open PySem PySem.Spec PyProof.Rows L2
theorem u1 {k : Nat} {A : Around} (hr : Room k A) : A.units + 1 < cLine := by
  have := hr.units
  omega
theorem fld_count : PySem.TWX.Fld "count" := ⟨rfl, rfl, rfl, by decide, by decide, fun _ _ _ _ _ _ _ _ _ _ _ _ => by with_unfolding_all rfl⟩
abbrev CC (K : PySem.W.Frag) : Addr := He.ga K "BadCount"
structure Tb (P : Program) (K : PySem.W.Frag) (mg : Str → Option Value) : Prop where
  v_BadCount : mg "BadCount" = some (.ref (CC K))
  e_cnt : PySem.TWX.Err P K mg (CC K) (He.ma K (CC K) "__init__") "BadCount.__init__" "count" "this number is not allowed"
  x_cnt : XfC K (CC K)
  c_cnt : ExcC K (CC K)
  m_cnt : PySem.W.exmOne K (.ref (CC K)) (.ref (CC K)) = some true
  i_cnt_w : PySem.W.kitOne K (.ref (CC K)) (.ref (CW K)) = some true
  i_cnt_n : PySem.W.kitOne K (.ref (CC K)) (.ref (CN K)) = some false
  m_filled : Meth K (CT K) "filled" (mT K "filled")
  d_filled : DefAt K "filled" "Tree.filled" s_Tree_filled (mT K "filled")
/-! ### what trees stand on is kept -/
structure Ki (H H' : Hp) : Prop where
  ins : ∀ b C dx fs, H b = some (.ins C dx fs) → H' b = some (.ins C dx fs)
  tup : ∀ b vs, H b = some (.tup vs) → H' b = some (.tup vs)
theorem Kp.ki {H H' : Hp} (k : Kp H H') : Ki H H' := ⟨fun b C dx fs e => k _ _ e (fun _ z => nomatch z), fun b vs e => k _ _ e (fun _ z => nomatch z)⟩
theorem Same.ki {H H' : Hp} (s : Same H H') : Ki H H' := (Same.kp s).ki
theorem Ki.refl {H : Hp} : Ki H H := ⟨fun _ _ _ _ e => e, fun _ _ e => e⟩
theorem Ki.trans {H H1 H2 : Hp} (a : Ki H H1) (b : Ki H1 H2) : Ki H H2 := ⟨fun _ _ _ _ e => b.ins _ _ _ _ (a.ins _ _ _ _ e), fun _ _ e => b.tup _ _ (a.tup _ _ e)⟩
theorem Ki.dict {H : Hp} {g : Addr} {kvs : List (List Key × V)} {o : HO} (e : H g = some (.dT kvs)) : Ki H (upd H g o) := ⟨fun b C dx fs h => by
  rw [upd_ne (fun z => by rw [z, e] at h; cases h)]
  exact h, fun b vs h => by
  rw [upd_ne (fun z => by rw [z, e] at h; cases h)]
  exact h⟩
mutual
theorem TO.ki {C : Addr} {H H' : Hp} (k : Ki H H') : ∀ (v : V) (t : Tr), TO C H v t → TO C H' v t
  | v, .nd n ks, h => by
    rw [TO] at h ⊢
    obtain ⟨a, dx, p, vs, e, h1, h2, h3⟩ := h
    exact ⟨a, dx, p, vs, e, k.ins _ _ _ _ h1, k.tup _ _ h2, TOs.ki k vs ks h3⟩
theorem TOs.ki {C : Addr} {H H' : Hp} (k : Ki H H') : ∀ (vs : List V) (ts : List Tr), TOs C H vs ts → TOs C H' vs ts
  | [], [], h => by rw [TOs]; trivial
  | v :: vs, t :: ts, h => by
    rw [TOs] at h ⊢
    exact ⟨TO.ki k v t h.1, TOs.ki k vs ts h.2⟩
  | [], _ :: _, h => by simp [TOs] at h
  | _ :: _, [], h => by simp [TOs] at h
end
abbrev keyP (p : List Nat) : List Key := p.map fun (n : Nat) => Sum.inl (n : Int)
theorem pathV_key (p : List Nat) : pathV p = (keyP p).map kV := by
  rw [List.map_map]
  rfl
theorem filt_get {α : Type} (f : α → Bool) : ∀ (l : List α) (j : Nat) (x : α), l[j]? = some x → f x = true → (l.filter f)[((l.take j).filter f).length]? = some x
  | [], _, _, h, _ => by simp at h
  | y :: r, 0, x, h, e => by
    have : y = x := Option.some.inj h
    subst this
    rw [List.filter_cons, e]
    rfl
  | y :: r, j + 1, x, h, e => by
    have ih := filt_get f r j x h e
    rw [List.take_succ_cons, List.filter_cons, List.filter_cons]
    cases f y with
    | true => exact ih
    | false => exact ih
theorem filt_yes {α : Type} {f : α → Bool} {l : List α} {j : Nat} {x : α} (h : l[j]? = some x) (e : f x = true) : ((l.take (j + 1)).filter f).length = ((l.take j).filter f).length + 1 := by
  rw [List.take_add_one, h, List.filter_append, List.length_append]
  show _ + ([x].filter f).length = _
  rw [List.filter_cons, e]
  rfl
theorem filt_no {α : Type} {f : α → Bool} {l : List α} {j : Nat} {x : α} (h : l[j]? = some x) (e : f x = false) : ((l.take (j + 1)).filter f).length = ((l.take j).filter f).length := by
  rw [List.take_add_one, h, List.filter_append, List.length_append]
  show _ + ([x].filter f).length = _
  rw [List.filter_cons, e]
  rfl
theorem atN_wf : ∀ (p : List Nat) (t u : Tr), atN t p = some u → wf t = true → wf u = true ∧ sz u ≤ sz t
  | [], t, u, h, w => by
    have e : t = u := Option.some.inj (show some t = some u from h)
    subst e
    exact ⟨w, Nat.le_refl _⟩
  | i :: p, .nd n ks, u, h, w => by
    obtain ⟨k, hk, hu⟩ := atN_cons h
    have m := List.mem_of_getElem? hk
    have r := atN_wf p k u hu (wfs_mem (wf_of w).1 m)
    have z := szs_mem m
    rw [sz]
    exact ⟨r.1, by omega⟩
theorem keyP_inj {p q : List Nat} (h : keyP p = keyP q) : p = q := by
  induction p generalizing q with
  | nil => cases q with
    | nil => rfl
    | cons _ _ => cases h
  | cons a r ih => cases q with
    | nil => cases h
    | cons b s =>
      have h1 := List.cons.inj h
      have h2 : (a : Int) = (b : Int) := Sum.inl.inj h1.1
      rw [ih h1.2, Int.ofNat.inj h2]
def sp_filled (C B : Addr) : Sp := fun vs H Q E => ∃ (x : V) (p : Addr) (us : List V) (c : Tr), vs = [x, .ref p] ∧ H p = some (.tup us) ∧ TO C H x c ∧ wf c = true ∧ sz c ≤ 900 ∧
  ((us.length ≠ (gp c []).length ∧ ∀ H' d, Same H H' → H' d = none → E (.ref B) (some d) (upd H' d (.xd [(("count" : Str), .int us.length)]))) ∨
   ∃ a, ov c a = true ∧ wf a = true ∧ sz a ≤ 900 ∧ TOs C H us (gaT c a) ∧ ∀ H' v, Same H H' → TO C H' v a → Q v H')
def sp_filledS (C B : Addr) : Sp := fun vs H Q E => ∃ ws rest, vs = ws ++ rest ∧ ws.length = ["self"].length ∧ rest.length ≤ sizeLine ∧ ∀ p, H p = none → sp_filled C B (ws ++ [V.ref p]) (upd H p (.tup rest)) Q E
section
variable {P : Program} {w : World} {K : PySem.W.Frag} {mg : Str → Option Value} {base : Heap}
theorem rd_makeF (Z : Tc K mg) {i j : Nat} {σ : L2.St} {H : Hp} {Q : VK} {E : XK} {ad dx p g : Addr} {nm : List Nat} {ks js : List Tr} {ys : List V} (hi : σ[i]? = some (some (.ref ad))) (had : H ad = some (.ins (CT K) dx (tfs (.nd nm ks) p))) (hj : σ[j]? = some (some (.ref g))) (eg : H g = some (.lst ys))
    (hy : TOs (CT K) H ys js) (hw : wf (.nd nm js) = true) (hz : sz (.nd nm js) ≤ 1000) (c : ∀ H' a', Same H H' → TO (CT K) H' (.ref a') (.nd nm js) → Q (.ref a') H') :
    StX.tMakeR (CT K) (sp_star (CT K)) E (tCons (tFld K (tVar i) "name") (StX.tStar K (tVar j) tNil)) σ H Q := by
  refine ⟨.ref ad, hi, ad, _, dx, _, _, rfl, had, Z.cl, Z.a_name, rfl, .ref g, hj, g, ys, rfl, .inr (SqL.of eg), ?_⟩
  exact mk_tree (C := CT K) (H := H) (Q := Q) (n := nm) (us := ys ++ []) (ks := js) (by rw [List.append_nil]; exact hy) hw hz fun H' a' s5 _ to5 => c H' a' s5 to5
theorem ok_filled (T : Tx K mg) (Z : Tc K mg) (A2 : Th K) (J2 : Tb P K mg) : FnR P w K mg base (L2.CX P w) 4 (mT K "filled") (sp_filledS (CT K) (CC K)) := by
  have G_walked : FnR P w K mg base CX0 1 (He.ga K "walked") (sp_walked (CT K)) := ok_walked T Z
  have G_is_hole : FnR P w K mg base CX0 1 (He.ga K "is_hole") (sp_ishole (CT K)) := ok_ishole T Z
  have G_init : FnR P w K mg base CX0 1 (mT K "__init__") (sp_star (CT K)) := ok_init T Z
  obtain ⟨fh, G_holes, B_holes⟩ := ok_holes (P := P) (w := w) (base := base) T Z A2
  obtain ⟨fd, F⟩ := J2.d_filled
  obtain ⟨oc, od, dV, kW, doc, pm, an, cdv, ct, osl, rfl, lk, hcd, hD, hK⟩ := F.ex
  rcases hD with ⟨_, rfl⟩ | ⟨e, _⟩
  case inr => exact absurd rfl e
  refine StX.fn_star (ps := ["self"]) (pv := "trees") (N := N_Tree_filled) (sp := sp_filled (CT K) (CC K)) lk hcd sc_Tree_filled StX.cxUp ?_ ?_
  · refine StX.bind_star1 (B := fun vs => bindArgs (PySem.W.fnOf "filled" "Tree.filled" (defArgs s_Tree_filled) (defBody s_Tree_filled) (defScope s_Tree_filled) Value.none kW doc pm an cdv ct) ⟨vs, []⟩) ?_ ?_
    · intro a
      rfl
    · intro a r rs
      rfl
  intro A outer s H vs Q E hr h
  obtain ⟨x, p, us, c, rfl, hp, hx, wc, zc, h⟩ := h
  refine ⟨_, (pss_cons (ps_if (pt_cmpR op_ne (pe_callB call_len (by rfl) T.z_len (by decide +kernel) (pa_cons (pv 1) pa_nil)) (pe_callB call_len (by rfl) T.z_len (by decide +kernel) (pa_cons (pe_meth0 (pv 0) Z.cl A2.m_holes G_holes (hr.mono (by omega)) B_holes .nil pass0) pa_nil)) (nomark _))
(pss_one (ps_raiseE J2.e_cnt fld_count (hr.mono (by omega)) J2.v_BadCount rfl (takes_of rfl rfl rfl rfl) (pa_cons (pe_callB call_len (by rfl) T.z_len (by decide +kernel) (pa_cons (pv 1) pa_nil)) pa_nil) (by rfl)))
pss_nil)
(pss_cons (ps_set (i := 2) sc_Tree_filled.nd rfl (.inl rfl) (pe_callTy call_list_of (by rfl) T.z_list (by decide +kernel) (pa_cons (pv 1) pa_nil)))
(pss_cons (ps_set (i := 3) sc_Tree_filled.nd rfl (.inr rfl) pe_dnewT)
(pss_cons (ps_for PassesOwn.leaving rfl (pi_list (pe_revL (pe_cr G_walked (hr.mono (by omega)) (by rfl) T.v_walked T.k_walked pass0 (pa_cons (pv 0) pa_nil)))) (pg_tup (by rfl) (pgs_cons (pg_name (i := 4) sc_Tree_filled.nd rfl (.inr rfl)) (pgs_cons (pg_name (i := 5) sc_Tree_filled.nd rfl (.inl rfl)) pgs_nil)))
(pss_one (ps_if (pt_val (pe_cr G_is_hole (hr.mono (by omega)) (by rfl) T.v_is_hole T.k_is_hole pass0 (pa_cons (pv 5) pa_nil)))
(pss_one (ps_asg (pe_bm0 PySem.F.plainAttrs_list PySem.F.slot_list_pop PySem.F.type_list_pop mt_pop (pv 2)) (pg_sub (pv 3) (pv 4) (set_dict (u1 hr)))))
(pss_cons (ps_setLc (i := 6) (own := [("index", 7)]) (g := gName 7) rfl sc_Tree_filled.nd rfl rfl (sw_true rfl rfl rfl (by decide +kernel)) (pi_range1 (by rfl) T.z_range (pa_cons (pe_callB call_len (by rfl) T.z_len (by decide +kernel) (pa_cons (pe_fldK K (pv 5) rfl) pa_nil)) pa_nil)) (blkOk_by (own := [("index", 7)]) (N := N_Tree_filled) (sc := defScope s_Tree_filled) (by decide +kernel)) (fun _ _ _ _ _ => pg_name (i := 7) sc_Tree_filled.nd rfl (.inl rfl)) (fun _ _ _ _ _ => pts_nil) (fun _ _ _ _ _ => (pe_dget (u1 hr) (pv 3) (pe_op (r := rCatA K) op_catA (pv 4) (pe_tup (pa_cons (pv 7) pa_nil))) (fun _ _ => rfl))))
(pss_one (ps_asg (pe_makeGS Z.mk_ G_init (hr.mono (by omega)) (by rfl) Z.v_Tree pass0 (pa_cons (pe_fldK K (pv 5) rfl) (StX.pa_star (pv 6) pa_nil))) (pg_sub (pv 3) (pv 4) (set_dict (u1 hr)))))))))
(pss_one (ps_ret (pe_dget (u1 hr) (pv 3) (pe_tup pa_nil) (fun _ _ => rfl)))))))), ?_⟩
  obtain ⟨a0, dx0, p0, rfl, ha0⟩ := hx.at
  refine ⟨.ref p, rfl, .ref p, us.length, rfl, .inr ⟨_, SqT.of hp, rfl⟩, .ref a0, rfl, a0, dx0, _, rfl, ha0, by cases c; rfl, .ref a0, c, rfl, hx, wc, zc, fun H1 l hs s1 n1 e1 h1 => ?_⟩
  refine ⟨.ref l, hs.length, rfl, .inl ⟨_, SqL.of e1, rfl⟩, rfl, _, rfl, ite2 (fun e => ?_) (fun e => ?_)⟩
  · have ne : us.length ≠ (gp c []).length := fun z => by
      have hl : hs.length = (gp c []).length := h1.len
      rw [decide_eq_true (show V.int (us.length : Int) = V.int (hs.length : Int) by rw [z, hl])] at e
      cases e
    rcases h with ⟨_, c0⟩ | ⟨a, oa, wa, za, ta, _⟩
    · exact ⟨.ref p, rfl, .ref p, us.length, rfl, .inr ⟨_, SqT.of (s1 _ _ hp), rfl⟩, _, rfl, fun d nd => c0 _ d s1 nd⟩
    · exact absurd (ta.length.trans (ga_at c a [] oa).len.symm) ne
  have hl : us.length = (gp c []).length := by
    have hl : hs.length = (gp c []).length := h1.len
    rw [← hl]
    refine Decidable.byContradiction fun z => ?_
    rw [decide_eq_false (fun y => z (by have := V.int.inj y; omega))] at e
    exact e rfl
  rcases h with ⟨ne, _⟩ | ⟨a, oa, wa, za, ta, q0⟩
  · exact absurd hl ne
  refine ⟨.ref p, rfl, p, us, rfl, .inr (SqT.of (s1 _ _ hp)), fun L nL => ?_⟩
  intro D nD
  have s2 := s1.trans (Same.new (o := .lst us) nL)
  have s3 := s2.trans (Same.new (o := .dT []) nD)
  have L3 := Same.new (o := .dT []) nD _ _ (upd_same (H := H1) (a := L) (o := .lst us))
  have D3 : upd (upd H1 L (.lst us)) D (.dT []) D = some (.dT []) := upd_same
  generalize upd (upd H1 L (.lst us)) D (.dT []) = H3 at s3 L3 D3
  refine ⟨.ref a0, rfl, .ref a0, c, rfl, TO.same s3 hx, zc, fun H4 l4 ws s4 n4 e4 w4 => ⟨l4, ws, rfl, SqL.of e4, fun R nR => ?_⟩⟩
  have s5 : Same H4 (upd H4 R (.lst ws.reverse)) := Same.new nR
  have R5 : upd H4 R (.lst ws.reverse) R = some (.lst ws.reverse) := upd_same
  have L5 := s5 _ _ (s4 _ _ L3)
  have D5 := s5 _ _ (s4 _ _ D3)
  have w5 : All2 (WO (CT K) (upd H4 R (.lst ws.reverse))) ws (wk c []) := All2.kp (Same.kp s5) w4
  have s05 := s3.trans (s4.trans s5)
  have nRL : R ≠ L := fun z => by rw [z, s4 _ _ L3] at nR; cases nR
  have nRD : R ≠ D := fun z => by rw [z, s4 _ _ D3] at nR; cases nR
  have nHL : H L = none := s1.free nL
  have nHD : H D = none := s2.free nD
  have nLD : L ≠ D := fun z => by rw [z, D3] at L3; cases L3
  generalize upd H4 R (.lst ws.reverse) = H5 at s5 R5 L5 D5 w5 s05
  have wl : ws.length = (wk c []).length := w5.len
  have wz : (wk c []).length = sz c := wk_len c []
  refine ⟨R, rfl, ⟨_, SqL.of R5⟩, for_list (xs := ws.reverse) (fun i σ H6 => ∃ y4 y5 y6 y7 kvs, σ = [some (.ref a0), some (.ref p), some (.ref L), some (.ref D), y4, y5, y6, y7] ∧
    H6 L = some (.lst (us.take (((wk c []).take ((wk c []).length - i)).filter fun x => isH x.2).length)) ∧ H6 D = some (.dT kvs) ∧ H6 R = some (.lst ws.reverse) ∧ kvs.length ≤ i ∧ i ≤ (wk c []).length ∧ Ki H5 H6 ∧ Same H H6 ∧
    (∀ j, (wk c []).length - i ≤ j → ∀ q s, (wk c [])[j]? = some (q, s) → ∃ v t, valV kvs (keyP q) = some v ∧ atN a q = some t ∧ TO (CT K) H6 v t)) ?_ ?_ ?_ ?_⟩
  · refine ⟨none, none, none, none, [], rfl, ?_, D5, R5, Nat.le_refl _, Nat.zero_le _, Ki.refl, s05, fun j hj q s e => ?_⟩
    · rw [Nat.sub_zero, List.take_length, ← List.length_map (f := Prod.fst), show List.map Prod.fst ((wk c []).filter fun x => isH x.2) = gp c [] from (gp_wk c [] wc).symm, ← hl, List.take_length]
      exact L5
    · have := (List.getElem?_eq_some_iff.mp e).1
      omega
  · rintro i σ H6 _ ⟨y4, y5, y6, y7, kvs, _, _, _, eR, _⟩
    exact SqL.of eR
  · rintro i x σ H6 hx6 ⟨y4, y5, y6, y7, kvs, rfl, eL, eD, eR, kl, hi, ki, sh, inv⟩
    have hlt : i < ws.length := by
      have := (List.getElem?_eq_some_iff.mp hx6).1
      rw [List.length_reverse] at this
      exact this
    rw [List.getElem?_reverse hlt] at hx6
    rw [show ws.length - 1 - i = (wk c []).length - (i + 1) by omega] at hx6
    obtain ⟨⟨q, sn⟩, ez, b, q', d, rfl, hb, hq, hd⟩ := w5.get hx6
    have ej : (wk c []).length - i = ((wk c []).length - (i + 1)) + 1 := by omega
    have mem := List.mem_of_getElem? ez
    have ql : q.length ≤ 900 := by
      have h1 := (wk_atN c (q, sn) mem).2
      have h2 := lv_sz c
      have h3 : (q, sn).1.length = q.length := rfl
      omega
    obtain ⟨q1, s1', eq1, hs1, os1⟩ := ov_at c a [] wc oa (q, sn) mem
    have eq2 : q = q1 := eq1
    subst eq2
    have wsn := wk_wf c [] wc (q, sn) mem
    have hq6 := ki.tup _ _ hq
    rw [pathV_key] at hq6
    have hd6 := TO.ki ki _ _ hd
    refine ⟨b, _, rfl, SqT.of (ki.tup _ _ hb), rfl, .ref q', [d], rfl, d, [], rfl, rfl, d, rfl, d, sn, rfl, hd6, wsn, isH sn, rfl, ?_⟩
    -- what is put into the dict
    have fin : ∀ (H7 : Hp) (y : V) (y6 y7 : Option V), H7 L = some (.lst (us.take (((wk c []).take ((wk c []).length - (i + 1))).filter fun x => isH x.2).length)) → Ki H6 H7 → Same H H7 → H7 D = some (.dT kvs) → H7 R = some (.lst ws.reverse) → TO (CT K) H7 y s1' →
        ∃ H8, DPut H7 D (.ref q') y H8 ∧ ∃ y4 y5 y6' y7' kvs', [some (V.ref a0), some (.ref p), some (.ref L), some (.ref D), some (.ref q'), some d, y6, y7] = [some (.ref a0), some (.ref p), some (.ref L), some (.ref D), y4, y5, y6', y7'] ∧
          H8 L = some (.lst (us.take (((wk c []).take ((wk c []).length - (i + 1))).filter fun x => isH x.2).length)) ∧ H8 D = some (.dT kvs') ∧ H8 R = some (.lst ws.reverse) ∧ kvs'.length ≤ i + 1 ∧ i + 1 ≤ (wk c []).length ∧ Ki H5 H8 ∧ Same H H8 ∧
          (∀ j, (wk c []).length - (i + 1) ≤ j → ∀ q s, (wk c [])[j]? = some (q, s) → ∃ v t, valV kvs' (keyP q) = some v ∧ atN a q = some t ∧ TO (CT K) H8 v t) := by
      intro H7 y y6 y7 h7L k7 s7 h7D h7R t7
      have k8 : Ki H7 (upd H7 D (.dT (putK kvs (keyP q) y))) := Ki.dict h7D
      refine ⟨_, DPut.t h7D (k7.tup _ _ hq6) (small1000 (by omega)), _, _, _, _, putK kvs (keyP q) y, rfl, ?_, upd_same, ?_, ?_, by omega, (ki.trans k7).trans k8, ?_, ?_⟩
      · rw [upd_ne nLD]
        exact h7L
      · rw [upd_ne nRD]
        exact h7R
      · have := length_putK kvs (keyP q) y
        omega
      · intro b' o e'
        rw [upd_ne (ne_of_none e' nHD)]
        exact s7 _ _ e'
      · intro j hj r u er
        rw [valV_put]
        by_cases eqk : keyP r = keyP q
        · rw [if_pos eqk]
          have := keyP_inj eqk
          subst this
          exact ⟨y, s1', rfl, hs1, TO.ki k8 _ _ t7⟩
        · rw [if_neg eqk]
          have nj : j ≠ (wk c []).length - (i + 1) := fun z => by
            rw [z, ez] at er
            have := congrArg Prod.fst (Option.some.inj er)
            exact eqk (by rw [show r = q from this.symm])
          obtain ⟨v, t, h1, h2, h3⟩ := inv j (by omega) r u er
          exact ⟨v, t, h1, h2, TO.ki (k7.trans k8) _ _ h3⟩
    rw [ej] at eL
    cases eh : isH sn with
    | true =>
      rw [filt_yes ez eh] at eL
      have fl := filt_get (fun (x : List Nat × Tr) => isH x.2) (wk c []) ((wk c []).length - (i + 1)) (q, sn) ez eh
      have fg : (gp c [])[(((wk c []).take ((wk c []).length - (i + 1))).filter fun x => isH x.2).length]? = some q := by
        rw [gp_wk c [] wc, List.getElem?_map, fl]
        rfl
      have gl := (List.getElem?_eq_some_iff.mp fg).1
      obtain ⟨tq, etq, p', ep', hat⟩ := (ga_at c a [] oa).get fg
      have ep2 : q = p' := ep'
      subst ep2
      have esame : tq = s1' := Option.some.inj (hat.symm.trans hs1)
      subst esame
      obtain ⟨m, em⟩ : ∃ m, m = (((wk c []).take ((wk c []).length - (i + 1))).filter fun x => isH x.2).length := ⟨_, rfl⟩
      rw [← em] at eL gl etq
      have mu : m < us.length := by omega
      obtain ⟨tq', etq', htq⟩ := ta.get (List.getElem?_eq_getElem mu)
      rw [etq] at etq'
      have := Option.some.inj etq'
      subst this
      refine iteT ⟨.ref L, rfl, .inl ⟨rfl, _, SqL.of eL⟩, L, _, us[m], rfl, rfl, eL, ?_, .ref D, rfl, .ref q', rfl, ?_⟩
      · rw [List.length_take, Nat.min_eq_left (by omega), Nat.add_sub_cancel, List.getElem?_take, if_pos (Nat.lt_succ_self _)]
        exact List.getElem?_eq_getElem mu
      have dl : (us.take (m + 1)).dropLast = us.take m := by
        rw [List.dropLast_eq_take, List.length_take, Nat.min_eq_left (by omega), Nat.add_sub_cancel, List.take_take, Nat.min_eq_left (by omega)]
      rw [dl]
      obtain ⟨H8, pu, fin⟩ := fin (upd H6 L (.lst (us.take m))) us[m] y6 y7 (by rw [← em]; exact upd_same) (Kp.lst eL).ki (fun b' o e' => by rw [upd_ne (ne_of_none e' nHL)]; exact sh _ _ e') (by rw [upd_ne nLD.symm]; exact eD) (by rw [upd_ne nRL]; exact eR)
        (TO.kp (Kp.lst eL) _ _ (TO.same sh htq))
      exact ⟨D, H8, rfl, pu, fin⟩
    | false =>
      rw [filt_no ez eh] at eL
      obtain ⟨nm, ks⟩ := sn
      obtain ⟨om, js⟩ := s1'
      have n95 : nm ≠ [95] := of_decide_eq_false eh
      obtain ⟨en, el, _⟩ := ov_parts os1 n95
      subst en
      obtain ⟨wsj, zsj⟩ := atN_wf q a _ hs1 wa
      have hd6' := hd6
      rw [TO] at hd6'
      obtain ⟨ad, dxd, pd, vd, rfl, had, hpd, hkd⟩ := hd6'
      have vl := hkd.length
      have k3 := (wf_of wsn).2
      refine iteF ⟨.ref ad, rfl, ad, _, dxd, _, _, rfl, had, Z.cl, Z.a_parts, rfl, .ref pd, vd.length, rfl, .inr ⟨_, SqT.of hpd, rfl⟩, vd.length, rfl, by omega, by omega, fun G nG => ?_⟩
      refine lc_range (lo := 0) (n := ((vd.length : Int)).toNat) (fun i H7 => ∃ ys, H7 G = some (.lst ys) ∧ Same H6 H7 ∧ TOs (CT K) H7 ys (js.take i)) ?_ ?_ ?_
      · exact ⟨[], upd_same, Same.new nG, by rw [List.take_zero, TOs]; trivial⟩
      · rintro k H7 hk ⟨ys, eG, s7, hy⟩
        have hk' : k < vd.length := hk
        have e0 : ((0 : Int) + (k : Nat)) = (k : Nat) := by omega
        rw [e0]
        refine ⟨rfl, ?_⟩
        unfold tYes
        dsimp only
        rw [if_pos rfl]
        obtain ⟨m', lm, em⟩ := wk_next c [] _ q nm ks k _ ez (List.getElem?_eq_getElem (show k < ks.length by omega))
        obtain ⟨v, t, hv, hat, ht⟩ := inv m' (by omega) _ _ em
        rw [atN_snoc q a nm js k hs1] at hat
        refine ⟨.ref D, rfl, rd_path (kn := k) rfl rfl rfl (s7 _ _ (ki.tup _ _ hq)) (Nat.le_trans ql (by decide)) fun H8 t2 s8' h8 => ?_⟩
        have s8 := s7.trans s8'
        have eG8 := s8' _ _ eG
        have dg : DGet H8 D (.ref t2) (some v) := by
          rw [← hv]
          refine DGet.t (s8 _ _ eD) ?_
          rw [h8, pathV_key]
        refine ⟨D, v, rfl, dg, ?_⟩
        have kk : Kp H8 (upd H8 G (.lst (ys ++ [v]))) := Kp.lst eG8
        refine ⟨ys, eG8, small1000 (by rw [hy.length, List.length_take]; omega), ys ++ [v], upd_same, ?_, ?_⟩
        · intro b' o e'
          rw [upd_ne (ne_of_none e' nG)]
          exact s8 _ _ e'
        · rw [take_get hat]
          exact TOs.snoc (TO.kp kk _ _ (TO.same s8 ht)) (TOs.kp ((Same.kp s8').trans kk) _ _ hy)
      rintro H7 ⟨ys, eG, s7, hy⟩
      rw [show ((vd.length : Int)).toNat = js.length by omega, List.take_length] at hy
      unfold gName
      dsimp only
      unfold tAsg
      refine rd_makeF (i := 5) (j := 6) (E := E0) Z ?_ (s7 _ _ had) ?_ eG hy wsj (by omega) fun H' a' s8 to8 => ?_
      · rfl
      · rfl
      have s68 := s7.trans s8
      obtain ⟨H8, pu, fin⟩ := fin H' _ (some (.ref G)) y7 (s68 _ _ eL) (Same.ki s68) (sh.trans s68) (s68 _ _ eD) (s68 _ _ eR) to8
      exact ⟨.ref D, rfl, .ref q', rfl, D, H8, rfl, pu, fin⟩
  · rintro σ H6 ⟨y4, y5, y6, y7, kvs, rfl, eL, eD, eR, kl, hi, ki, sh, inv⟩
    rw [List.length_reverse] at inv
    have z0 : (wk c [])[0]? = some ([], c) := by
      obtain ⟨n, ks⟩ := c
      rw [wk]
      rfl
    obtain ⟨v, t, hv, hat, ht⟩ := inv 0 (by omega) _ _ z0
    have et : a = t := Option.some.inj (show some a = some t from hat)
    subst et
    refine ⟨.ref D, rfl, szle, fun t1 nt1 => ⟨D, v, rfl, ?_, q0 _ _ (sh.trans (Same.new nt1)) (TO.same (Same.new nt1) ht)⟩⟩
    rw [← hv]
    exact DGet.t (k := []) (Same.new nt1 _ _ eD) upd_same
end
end TW

namespace TW
open PySem PySem.Spec PyProof.Rows L2
/-! ### calls whose error leaves with the slots -/
def tMethRS (C : Addr) (m : Str) (sp : Sp) (E : L2.St → XK) (ta : TE) (t : TA) : TE := fun σ H Q => ta σ H fun x H1 => ∃ a dx fs, x = .ref a ∧ H1 a = some (.ins C dx fs) ∧ fs.lookup m = none ∧ t σ H1 fun vs H2 => sp (x :: vs) H2 Q (E σ)
def tCrS (sp : Sp) (E : L2.St → XK) (t : TA) : TE := fun σ H Q => t σ H fun vs H1 => sp vs H1 Q (E σ)
section
variable {X : Cx} {CX : CXT} {k : Nat} {C p g : Addr} {sp : Sp} {E : L2.St → XK} {o e : Expr} {es : List Expr} {m x : Str} {pos np apos : Pos} {ta : TE} {t : TA} {pl : Sem Bool}
theorem run_fnRS {pins : List (Addr × Obj)} {σ : L2.St} {H : Hp} {s : Shared} {E : XK} {Q : VK} {us : List Value} {vs : List V} (F : FnR X.prog X.w X.K X.mg X.base CX k g sp) (hr : Room k X.A) (hx : PassesAt CX X σ E) (I : Inv X pins σ H s) (r : Vals vs us) (h : sp vs H Q E) :
    codeAny (model X.prog X.w) X.A (.call (.ref g) ⟨us, []⟩) (fun r s' => match r with | .ok (.ret v) => EP X pins σ Q v s' | .ok _ => False | .error e => X.xe e s') s := by
  refine codeAny_mono (F X.A X.stack s H us vs Q E hr I.env0 r h) fun r s' hq => ?_
  cases r with
  | error e => exact hx pins H s e s' I hq
  | ok fl =>
    cases fl with
    | ret u => exact I.after hq
    | next => exact False.elim hq
    | brk => exact False.elim hq
    | cont => exact False.elim hq
theorem pe_methRS (he : PE X o ta) (c : Cls X.K C) (hm : Meth X.K C m g) (F : FnR X.prog X.w X.K X.mg X.base CX k g sp) (hr : Room k X.A) (hx : ∀ σ, PassesAt CX X σ (E σ)) (ha : PA X (e :: es) t)
    (hst : starEach (e :: es) X.env = (false, eval e X.env) :: starEach es X.env := by rfl) (hpl : (backTo pos (starEach es X.env)).any (·.1) = false := by rfl)
    (ht : eval (.Call (.Attribute o m apos) (e :: es) [] pos) X.env = (do
      let ov ← eval o X.env
      standAt apos.atName
      let (f, first) ← holding [ov] (getMethod ov m pl)
      callWith pos f first (backTo pos (starEach (e :: es) X.env)) (backToKw pos (keywordEach [] X.env))) := by rfl) :
    PE X (.Call (.Attribute o m apos) (e :: es) [] pos) (tMethRS C m sp E ta t) := by
  refine ⟨fun pins s σ H Q I h => ?_⟩
  refine PySem.W.methodCall_KW (pl := pl) (thn (he.run pins s σ H _ I h) fun u s1 ⟨x, H1, I1, rx, a, dx, fs, ex, ea, l, q⟩ => ?_) ht
  subst ex
  obtain rfl : u = Value.ref a := rx
  refine getmeth_ok I1 ea c hm l ?_
  refine PySem.W.callWith_K (first := [.ref a]) (h₀ := X.base) I.ok.mod.kin hm.kp (thn (ha.run pos pins s1 σ H1 _ I1 q) fun us s2 ⟨vs, H2, I2, r, q2⟩ => ⟨I2.kIn, ?_⟩) hst hpl
  exact wpAny_call (run_fnRS (us := .ref a :: us) (vs := .ref a :: vs) F hr (hx σ) I2 (.cons rfl r) q2)
theorem pe_methRS0 (he : PE X o ta) (c : Cls X.K C) (hm : Meth X.K C m g) (F : FnR X.prog X.w X.K X.mg X.base CX k g sp) (hr : Room k X.A) (hx : ∀ σ, PassesAt CX X σ (E σ))
    (ht : eval (.Call (.Attribute o m apos) [] [] pos) X.env = (do
      let ov ← eval o X.env
      standAt apos.atName
      let (f, first) ← holding [ov] (getMethod ov m pl)
      callWith pos f first (backTo pos (starEach [] X.env)) (backToKw pos (keywordEach [] X.env))) := by rfl) :
    PE X (.Call (.Attribute o m apos) [] [] pos) (tMethRS C m sp E ta tNil) := by
  refine ⟨fun pins s σ H Q I h => ?_⟩
  refine PySem.W.methodCall_KW (pl := pl) (thn (he.run pins s σ H _ I h) fun u s1 ⟨x, H1, I1, rx, a, dx, fs, ex, ea, l, q⟩ => ?_) ht
  subst ex
  obtain rfl : u = Value.ref a := rx
  refine getmeth_ok I1 ea c hm l ?_
  exact PySem.W.callWith_K0 (first := [.ref a]) I1.kIn hm.kp (wpAny_call (run_fnRS (us := [.ref a]) (vs := [.ref a]) F hr (hx σ) I1 (.cons rfl .nil) q))
theorem pe_crS (F : FnR X.prog X.w X.K X.mg X.base CX k g sp) (hr : Room k X.A) (hg : Gl X x) (hm : X.mg x = some (.ref g)) (hk : PySem.W.keepIn X.K (.ref g) = true) (hx : ∀ σ, PassesAt CX X σ (E σ)) (ha : PA X (e :: es) t)
    (hdb : (x == ("__debug__" : Str)) = false := by decide) (he : starEach (e :: es) X.env = (false, eval e X.env) :: starEach es X.env := by rfl)
    (hpl : (backTo pos (starEach es X.env)).any (·.1) = false := by rfl) : PE X (.Call (.Name x np) (e :: es) [] pos) (tCrS sp E t) := by
  refine ⟨fun pins s σ H Q I h => ?_⟩
  refine wpAny_Call_Name_kw (ld_glob I hg hm ?_ hdb)
  refine PySem.W.callWith_K (h₀ := X.base) I.ok.mod.kin hk (thn (ha.run pos pins s σ H _ I h) fun us s1 hh => ?_) he hpl
  obtain ⟨vs, H1, I1, r, q⟩ := hh
  exact ⟨I1.kIn, wpAny_call (run_fnRS F hr (hx σ) I1 r q)⟩
end
/-! ### a def that raises nothing, called in an except suite -/
def FnP (P : Program) (w : World) (K : PySem.W.Frag) (mg : Str → Option Value) (base : Heap) (k : Nat) (f : Addr) (sp : Sp) : Prop :=
  ∀ (A : Around) (outer : List Env) (s : Shared) (H : Hp) (us : List Value) (vs : List V) (Q : VK) (E : XK) (p : Addr × Obj), L2H.RoomH k A → L2H.PinOk outer H s p → Env0 P w K mg base A outer s H → Vals vs us → sp vs H Q E →
    codeAny (model P w) A (.call (.ref f) ⟨us, []⟩) (CR CX0 outer P w H s Q E) s
theorem fnP {P : Program} {w : World} {K : PySem.W.Frag} {mg : Str → Option Value} {base : Heap} {x q : Str} {st : Stmt} {f : Addr} {N ps : List Str} {k : Nat} {sp : Sp} (D : DefAt K x q st f) (S : FnScope N ps (defScope st)) (hb : BindsWell x q st ps)
    (len : ∀ vs H Q E, sp vs H Q E → vs.length = ps.length)
    (body : ∀ (cdv : Value) (A : Around) (outer : List Env) (s : Shared) (H : Hp) (vs : List V) (Q : VK) (E : XK) (p : Addr × Obj), L2H.RoomH k (A.deeper (envOfC q (defScope st) s.heap.objs.size f cdv)) → sp vs H Q E →
      ∃ t, PSs (L2H.cxH CX0 P w K mg base N q (defScope st) f cdv A outer s H E p) (defBody st) t ∧ t { nx := fun _ H' => Q .non H', rt := Q } (start N vs) H) :
    FnP P w K mg base (k + 1) f sp := by
  obtain ⟨fd, F⟩ := D
  have B := F.bindsN hb
  obtain ⟨oc, od, dV, kV, doc, pm, an, cdv, ct, osl, rfl, lk, hcd, hD, hK⟩ := F.ex
  intro A outer s H us vs Q E p hr hpin e0 r hsp
  have hl := len _ _ _ _ hsp
  have KX : K.In s.heap := e0.mod.kin.keeps fun b o e => (e0.bs b o e).1
  have lim : s.heap.NoLimit := e0.mod.nolimit.keeps fun b o e => (e0.bs b o e).1
  have hlu : us.length = ps.length := by rw [← r.length]; exact hl
  have b := B s us KX (by rw [List.append_nil]; exact hlu)
  rw [List.append_nil] at b
  have hkind : ∀ y ∈ ps.zip us, (defScope st).names.lookup y.1 = some .local ∨ ((defScope st).names.lookup y.1 = some .cell ∧ ((cellsFrom (s.heap.objs.size + 1) (defScope st).names []).lookup y.1).isSome = true) := fun ⟨n, v⟩ hy => by
    rcases S.par n (List.of_mem_zip hy).1 with q | q
    · exact .inl q
    · exact .inr ⟨q, PySem.W.cellsFrom_some _ _ _ (.inl q)⟩
  refine codeAny_call_function hr.depth (KX _ _ lk) rfl S.co S.gen rfl (PySem.W.codeRec_of KX hcd) (b _ _ _ _ ?_)
  refine wpAny_newFunctionEnv_cells S.kind hkind fun env he s1 x => ?_
  subst he
  refine ⟨lim.keeps x.toInCall.keep, codeAny_func ?_⟩
  obtain ⟨t, ht, hq⟩ := body cdv A outer s H vs Q E p (hr.deeper _) hsp
  have I := L2H.inv_startH (CX := CX0) (E := E) S hpin e0 hl r x
  refine wpAny_mono (ht.run [] s1 (start N vs) H _ I hq) (fun fl s' hs => ?_) fun e s' hs => hs
  cases fl with
  | ret u =>
    obtain ⟨v, σ', H', J, rv, q⟩ := hs
    exact ⟨v, H', J.os, J.bare, J.base, J.hok, rv, q⟩
  | next =>
    obtain ⟨σ', H', J, q⟩ := hs
    exact ⟨V.non, H', J.os, J.bare, J.base, J.hok, rfl, q⟩
  | brk =>
    obtain ⟨_, _, _, q⟩ := hs
    exact False.elim q
  | cont =>
    obtain ⟨_, _, _, q⟩ := hs
    exact False.elim q
theorem pe_crP {X : Cx} {k : Nat} {f : Addr} {sp : Sp} {E : XK} {x : Str} {e : Expr} {es : List Expr} {t : TA} {p pos : Pos} {pp : Addr × Obj} (F : FnP X.prog X.w X.K X.mg X.base k f sp) (hr : L2H.RoomH k X.A) (hp : pp ∈ X.pn) (hg : Gl X x) (hm : X.mg x = some (.ref f)) (hk : PySem.W.keepIn X.K (.ref f) = true) (ha : PA X (e :: es) t)
    (hdb : (x == ("__debug__" : Str)) = false := by decide) (he : starEach (e :: es) X.env = (false, eval e X.env) :: starEach es X.env := by rfl)
    (hpl : (backTo pos (starEach es X.env)).any (·.1) = false := by rfl) : PE X (.Call (.Name x p) (e :: es) [] pos) (tCr sp E t) := by
  refine ⟨fun pins s σ H Q I h => ?_⟩
  refine wpAny_Call_Name_kw (ld_glob I hg hm ?_ hdb)
  refine PySem.W.callWith_K (h₀ := X.base) I.ok.mod.kin hk (thn (ha.run pos pins s σ H _ I h) fun us s1 hh => ?_) he hpl
  obtain ⟨vs, H1, I1, r, q⟩ := hh
  have P1 := I1.pin pp (List.mem_append_left _ hp)
  have hpin : L2H.PinOk X.stack H1 s1 pp := ⟨P1.1, P1.2.1, fun hm => (List.mem_cons.mp (I1.stkSub pp.1 hm)).elim P1.2.2.1 P1.2.2.2.1, P1.2.2.2.2⟩
  refine ⟨I1.kIn, wpAny_call (codeAny_mono (F X.A X.stack s1 H1 us vs Q E pp hr hpin I1.env0 r q) fun r s' hq => ?_)⟩
  cases r with
  | error e => exact False.elim hq
  | ok fl =>
    cases fl with
    | ret u => exact I1.after hq
    | next => exact False.elim hq
    | brk => exact False.elim hq
    | cont => exact False.elim hq
/-- what filled answers: the error, or the tree -/
def Fil (C B : Addr) (c : Tr) (us : List V) (H : Hp) (Q : VK) (E : XK) : Prop := (us.length ≠ (gp c []).length ∧ ∀ H' d, Same H H' → H' d = none → E (.ref B) (some d) (upd H' d (.xd [(("count" : Str), .int us.length)]))) ∨
   ∃ a, ov c a = true ∧ wf a = true ∧ sz a ≤ 900 ∧ TOs C H us (gaT c a) ∧ ∀ H' v, Same H H' → TO C H' v a → Q v H'
theorem Fil.same {C B : Addr} {c : Tr} {us : List V} {H H1 : Hp} {Q : VK} {E : XK} (h : Fil C B c us H Q E) (s : Same H H1) : Fil C B c us H1 Q E := by
  rcases h with ⟨ne, h⟩ | ⟨a, h1, h2, h3, h4, h5⟩
  · exact .inl ⟨ne, fun H' d s' nd => h H' d (s.trans s') nd⟩
  · exact .inr ⟨a, h1, h2, h3, TOs.kp (Same.kp s) _ _ h4, fun H' v s' => h5 H' v (s.trans s')⟩
theorem fil_sp {C B : Addr} {c : Tr} {x : V} {us : List V} {H : Hp} {Q : VK} {E : XK} (hx : TO C H x c) (wc : wf c = true) (zc : sz c ≤ 900) (hl : us.length ≤ 5) (h : Fil C B c us H Q E) : sp_filledS C B (x :: us) H Q E := by
  refine ⟨[x], us, rfl, rfl, Nat.le_trans (Nat.le_trans hl (by decide)) (szle (n := 5)), fun p np => ?_⟩
  exact ⟨x, p, us, c, rfl, upd_same, TO.same (Same.new np) hx, wc, zc, h.same (Same.new np)⟩
def sp_lfilled (C B : Addr) : Sp := fun vs H Q E => ∃ (x : V) (l : Addr) (us : List V) (c : Tr), vs = [x, .ref l] ∧ H l = some (.lst us) ∧ us.length ≤ 5 ∧ TO C H x c ∧ wf c = true ∧ sz c ≤ 900 ∧ Fil C B c us H Q E
/-- the suite of _law_miscounted -/
def tSuiteC (K : PySem.W.Frag) : Addr → Value → Option Addr → TS := fun a cls d =>
  tSeq (tIfS (tOr (tNot (tB (tCB (rIsX K a cls d (CC K)) (tCons (tVar 2) (tCons (tC (.ref (CW K))) tNil))))) (tB (tCB (rIsX K a cls d (CC K)) (tCons (tVar 2) (tCons (tC (.ref (CN K))) tNil))))) (tRet (tC (.bl false))) tNext)
    (tRet (tCr sp_is E0 (tCons (tXf a cls d (CC K) "count" (tVar 2)) (tCons (tLen K (tVar 1)) tNil))))
def sp_mis (C : Addr) : Sp := fun vs H Q _ => ∃ (x : V) (l : Addr) (us : List V) (c : Tr), vs = [x, .ref l] ∧ H l = some (.lst us) ∧ us.length ≤ 5 ∧ TO C H x c ∧ wf c = true ∧ sz c ≤ 900 ∧ us.length ≠ (gp c []).length ∧ ∀ H', Same H H' → Q (.bl true) H'
section
variable {P : Program} {w : World} {K : PySem.W.Frag} {mg : Str → Option Value} {base : Heap}
theorem ok_lfilled (T : Tx K mg) (Z : Tc K mg) (A2 : Th K) (J2 : Tb P K mg) : FnR P w K mg base (L2.CX P w) 5 (He.ga K "_law_filled") (sp_lfilled (CT K) (CC K)) := by
  have G_filled : FnR P w K mg base (L2.CX P w) 4 (mT K "filled") (sp_filledS (CT K) (CC K)) := ok_filled T Z A2 J2
  refine fnRX T.d_law_filled sc_law_filled (fun _ _ _ _ _ _ us hl => match us, hl with | [_, _], _ => rfl) (fun vs H Q E h => ?_) (fun cdv A outer s H vs Q E hr h => ?_)
  · obtain ⟨x, l, us, c, rfl, _⟩ := h
    rfl
  · obtain ⟨x, l, us, c, rfl, hl, l5, hx, wc, zc, h⟩ := h
    refine ⟨_, (pss_cons (ps_if (pt_cmpR op_eq (pe_callB call_len (by rfl) T.z_len (by decide +kernel) (pa_cons (pv 1) pa_nil)) pe_int (nomark _))
(pss_one (ps_ret (pe_methRS0 (pv 0) Z.cl J2.m_filled G_filled (hr.mono (by omega)) (fun σ => passAt (takes_of rfl rfl rfl rfl) σ))))
pss_nil)
(pss_cons (ps_if (pt_cmpR op_eq (pe_callB call_len (by rfl) T.z_len (by decide +kernel) (pa_cons (pv 1) pa_nil)) pe_int (nomark _))
(pss_one (ps_ret (pe_methRS (pv 0) Z.cl J2.m_filled G_filled (hr.mono (by omega)) (fun σ => passAt (takes_of rfl rfl rfl rfl) σ) (pa_cons (pe_ix (r := rIxL K) ix_list (pv 1) pe_int (fun _ _ => rfl)) pa_nil))))
pss_nil)
(pss_cons (ps_if (pt_cmpR op_eq (pe_callB call_len (by rfl) T.z_len (by decide +kernel) (pa_cons (pv 1) pa_nil)) pe_int (nomark _))
(pss_one (ps_ret (pe_methRS (pv 0) Z.cl J2.m_filled G_filled (hr.mono (by omega)) (fun σ => passAt (takes_of rfl rfl rfl rfl) σ) (pa_cons (pe_ix (r := rIxL K) ix_list (pv 1) pe_int (fun _ _ => rfl)) (pa_cons (pe_ix (r := rIxL K) ix_list (pv 1) pe_int (fun _ _ => rfl)) pa_nil)))))
pss_nil)
(pss_cons (ps_if (pt_cmpR op_eq (pe_callB call_len (by rfl) T.z_len (by decide +kernel) (pa_cons (pv 1) pa_nil)) pe_int (nomark _))
(pss_one (ps_ret (pe_methRS (pv 0) Z.cl J2.m_filled G_filled (hr.mono (by omega)) (fun σ => passAt (takes_of rfl rfl rfl rfl) σ) (pa_cons (pe_ix (r := rIxL K) ix_list (pv 1) pe_int (fun _ _ => rfl)) (pa_cons (pe_ix (r := rIxL K) ix_list (pv 1) pe_int (fun _ _ => rfl)) (pa_cons (pe_ix (r := rIxL K) ix_list (pv 1) pe_int (fun _ _ => rfl)) pa_nil))))))
pss_nil)
(pss_cons (ps_if (pt_cmpR op_eq (pe_callB call_len (by rfl) T.z_len (by decide +kernel) (pa_cons (pv 1) pa_nil)) pe_int (nomark _))
(pss_one (ps_ret (pe_methRS (pv 0) Z.cl J2.m_filled G_filled (hr.mono (by omega)) (fun σ => passAt (takes_of rfl rfl rfl rfl) σ) (pa_cons (pe_ix (r := rIxL K) ix_list (pv 1) pe_int (fun _ _ => rfl)) (pa_cons (pe_ix (r := rIxL K) ix_list (pv 1) pe_int (fun _ _ => rfl)) (pa_cons (pe_ix (r := rIxL K) ix_list (pv 1) pe_int (fun _ _ => rfl)) (pa_cons (pe_ix (r := rIxL K) ix_list (pv 1) pe_int (fun _ _ => rfl)) pa_nil)))))))
pss_nil)
(pss_one (ps_ret (pe_methRS (pv 0) Z.cl J2.m_filled G_filled (hr.mono (by omega)) (fun σ => passAt (takes_of rfl rfl rfl rfl) σ) (pa_cons (pe_ix (r := rIxL K) ix_list (pv 1) pe_int (fun _ _ => rfl)) (pa_cons (pe_ix (r := rIxL K) ix_list (pv 1) pe_int (fun _ _ => rfl)) (pa_cons (pe_ix (r := rIxL K) ix_list (pv 1) pe_int (fun _ _ => rfl)) (pa_cons (pe_ix (r := rIxL K) ix_list (pv 1) pe_int (fun _ _ => rfl)) (pa_cons (pe_ix (r := rIxL K) ix_list (pv 1) pe_int (fun _ _ => rfl)) pa_nil))))))))))))), ?_⟩
    obtain ⟨a, dx, p, rfl, ha⟩ := hx.at
    have sl := SqL.of (K := K) hl
    have fin := fil_sp hx wc zc l5 h
    have lk : (tfs c p).lookup ("filled" : Str) = none := by cases c; rfl
    clear h
    have no : ∀ n k : Nat, n ≠ k → decide (V.int (n : Int) = V.int (k : Int)) = true → False := fun n k ne e => ne (Int.ofNat.inj (V.int.inj (of_decide_eq_true e)))
    match us, l5, sl, fin with
    | [], l5, sl, fin => exact ⟨.ref l, rfl, .ref l, 0, rfl, .inl ⟨_, sl, rfl⟩, rfl, _, rfl, ite2 (fun _ => ⟨.ref a, rfl, a, dx, _, rfl, ha, lk, fin⟩) (fun e => absurd (decide_eq_true rfl) e)⟩
    | [v0], l5, sl, fin => exact ⟨.ref l, rfl, .ref l, 1, rfl, .inl ⟨_, sl, rfl⟩, rfl, _, rfl, ite2 (fun e => (no 1 0 (by decide) e).elim) (fun _ => ⟨.ref l, rfl, .ref l, 1, rfl, .inl ⟨_, sl, rfl⟩, rfl, _, rfl, ite2 (fun _ => ⟨.ref a, rfl, a, dx, _, rfl, ha, lk, .ref l, rfl, l, _, 0, v0, rfl, rfl, sl, rfl, fin⟩) (fun e => absurd (decide_eq_true rfl) e)⟩)⟩
    | [v0, v1], l5, sl, fin => exact ⟨.ref l, rfl, .ref l, 2, rfl, .inl ⟨_, sl, rfl⟩, rfl, _, rfl, ite2 (fun e => (no 2 0 (by decide) e).elim) (fun _ => ⟨.ref l, rfl, .ref l, 2, rfl, .inl ⟨_, sl, rfl⟩, rfl, _, rfl, ite2 (fun e => (no 2 1 (by decide) e).elim) (fun _ => ⟨.ref l, rfl, .ref l, 2, rfl, .inl ⟨_, sl, rfl⟩, rfl, _, rfl, ite2 (fun _ => ⟨.ref a, rfl, a, dx, _, rfl, ha, lk, .ref l, rfl, l, _, 0, v0, rfl, rfl, sl, rfl, .ref l, rfl, l, _, 1, v1, rfl, rfl, sl, rfl, fin⟩) (fun e => absurd (decide_eq_true rfl) e)⟩)⟩)⟩
    | [v0, v1, v2], l5, sl, fin => exact ⟨.ref l, rfl, .ref l, 3, rfl, .inl ⟨_, sl, rfl⟩, rfl, _, rfl, ite2 (fun e => (no 3 0 (by decide) e).elim) (fun _ => ⟨.ref l, rfl, .ref l, 3, rfl, .inl ⟨_, sl, rfl⟩, rfl, _, rfl, ite2 (fun e => (no 3 1 (by decide) e).elim) (fun _ => ⟨.ref l, rfl, .ref l, 3, rfl, .inl ⟨_, sl, rfl⟩, rfl, _, rfl, ite2 (fun e => (no 3 2 (by decide) e).elim) (fun _ => ⟨.ref l, rfl, .ref l, 3, rfl, .inl ⟨_, sl, rfl⟩, rfl, _, rfl, ite2 (fun _ => ⟨.ref a, rfl, a, dx, _, rfl, ha, lk, .ref l, rfl, l, _, 0, v0, rfl, rfl, sl, rfl, .ref l, rfl, l, _, 1, v1, rfl, rfl, sl, rfl, .ref l, rfl, l, _, 2, v2, rfl, rfl, sl, rfl, fin⟩) (fun e => absurd (decide_eq_true rfl) e)⟩)⟩)⟩)⟩
    | [v0, v1, v2, v3], l5, sl, fin => exact ⟨.ref l, rfl, .ref l, 4, rfl, .inl ⟨_, sl, rfl⟩, rfl, _, rfl, ite2 (fun e => (no 4 0 (by decide) e).elim) (fun _ => ⟨.ref l, rfl, .ref l, 4, rfl, .inl ⟨_, sl, rfl⟩, rfl, _, rfl, ite2 (fun e => (no 4 1 (by decide) e).elim) (fun _ => ⟨.ref l, rfl, .ref l, 4, rfl, .inl ⟨_, sl, rfl⟩, rfl, _, rfl, ite2 (fun e => (no 4 2 (by decide) e).elim) (fun _ => ⟨.ref l, rfl, .ref l, 4, rfl, .inl ⟨_, sl, rfl⟩, rfl, _, rfl, ite2 (fun e => (no 4 3 (by decide) e).elim) (fun _ => ⟨.ref l, rfl, .ref l, 4, rfl, .inl ⟨_, sl, rfl⟩, rfl, _, rfl, ite2 (fun _ => ⟨.ref a, rfl, a, dx, _, rfl, ha, lk, .ref l, rfl, l, _, 0, v0, rfl, rfl, sl, rfl, .ref l, rfl, l, _, 1, v1, rfl, rfl, sl, rfl, .ref l, rfl, l, _, 2, v2, rfl, rfl, sl, rfl, .ref l, rfl, l, _, 3, v3, rfl, rfl, sl, rfl, fin⟩) (fun e => absurd (decide_eq_true rfl) e)⟩)⟩)⟩)⟩)⟩
    | [v0, v1, v2, v3, v4], l5, sl, fin => exact ⟨.ref l, rfl, .ref l, 5, rfl, .inl ⟨_, sl, rfl⟩, rfl, _, rfl, ite2 (fun e => (no 5 0 (by decide) e).elim) (fun _ => ⟨.ref l, rfl, .ref l, 5, rfl, .inl ⟨_, sl, rfl⟩, rfl, _, rfl, ite2 (fun e => (no 5 1 (by decide) e).elim) (fun _ => ⟨.ref l, rfl, .ref l, 5, rfl, .inl ⟨_, sl, rfl⟩, rfl, _, rfl, ite2 (fun e => (no 5 2 (by decide) e).elim) (fun _ => ⟨.ref l, rfl, .ref l, 5, rfl, .inl ⟨_, sl, rfl⟩, rfl, _, rfl, ite2 (fun e => (no 5 3 (by decide) e).elim) (fun _ => ⟨.ref l, rfl, .ref l, 5, rfl, .inl ⟨_, sl, rfl⟩, rfl, _, rfl, ite2 (fun e => (no 5 4 (by decide) e).elim) (fun _ => ⟨.ref a, rfl, a, dx, _, rfl, ha, lk, .ref l, rfl, l, _, 0, v0, rfl, rfl, sl, rfl, .ref l, rfl, l, _, 1, v1, rfl, rfl, sl, rfl, .ref l, rfl, l, _, 2, v2, rfl, rfl, sl, rfl, .ref l, rfl, l, _, 3, v3, rfl, rfl, sl, rfl, .ref l, rfl, l, _, 4, v4, rfl, rfl, sl, rfl, fin⟩)⟩)⟩)⟩)⟩)⟩
    | _ :: _ :: _ :: _ :: _ :: _ :: r, l5, _, _ => exact absurd l5 (by simp only [List.length_cons]; omega)
theorem ok_isP (T : Tx K mg) : FnP P w K mg base 1 (He.ga K "_law_is") sp_is := by
  refine fnP T.d_law_is sc_law_is (fun _ _ _ _ _ _ us hl => match us, hl with | [_, _], _ => rfl) (fun vs H Q E h => ?_) (fun cdv A outer s H vs Q E pp hr h => ?_)
  · obtain ⟨i, j, rfl, _⟩ := h
    rfl
  · obtain ⟨i, j, rfl, q⟩ := h
    refine ⟨_, (pss_cons (ps_if (PW.pt (pw_or (pt_not (pt_val (pe_callB call_isi (by rfl) T.z_isinstance (by decide +kernel) (pa_cons (pv 0) (pa_cons (pe_bltn (v := .ty "int") (by rfl) T.z_int (by decide +kernel) rfl) pa_nil))))) (pw_or1 (pt_val (pe_callB call_isi (by rfl) T.z_isinstance (by decide +kernel) (pa_cons (pv 0) (pa_cons (pe_bltn (v := .ty "bool") (by rfl) T.z_bool (by decide +kernel) rfl) pa_nil)))))))
(pss_one (ps_ret pe_bl))
pss_nil)
(pss_one (ps_ret (pe_cmpR op_eq (pv 0) (pv 1) (nomark _))))), ?_⟩
    refine ⟨.int i, rfl, .int i, .ty "int", _, _, _, rfl, .ty "int", .base (.int i), kit_ty (r := true) (by decide +kernel), true, rfl, ?_⟩
    refine iteF ?_
    refine ⟨.int i, rfl, .int i, .ty "bool", _, _, _, rfl, .ty "bool", .base (.int i), kit_ty (r := false) (by decide +kernel), false, rfl, ?_⟩
    refine iteF ?_
    refine ⟨.int i, rfl, .int j, rfl, rfl, ?_⟩
    have e : decide (V.int i = V.int j) = decide (i = j) := by
      by_cases z : i = j
      · rw [z, decide_eq_true rfl, decide_eq_true rfl]
      · rw [decide_eq_false z, decide_eq_false fun y => z (V.int.inj y)]
    rw [e]
    exact q
theorem ok_mis (T : Tx K mg) (Z : Tc K mg) (A2 : Th K) (J : Te P K mg) (J2 : Tb P K mg) : FnR P w K mg base CX0 7 (He.ga K "_law_miscounted") (sp_mis (CT K)) := by
  have G_law_filled : FnR P w K mg base (L2.CX P w) 5 (He.ga K "_law_filled") (sp_lfilled (CT K) (CC K)) := ok_lfilled T Z A2 J2
  have G_law_isP : FnP P w K mg base 1 (He.ga K "_law_is") sp_is := ok_isP T
  refine fnR0 T.d_law_miscounted sc_law_miscounted (fun _ _ _ _ _ _ us hl => match us, hl with | [_, _], _ => rfl) (fun vs H Q E h => ?_) (fun cdv A outer s H vs Q E hr h => ?_)
  · obtain ⟨x, l, us, c, rfl, _⟩ := h
    rfl
  · obtain ⟨x, l, us, c, rfl, hl, l5, hx, wc, zc, ne, q⟩ := h
    refine ⟨_, (pss_cons (ps_try_as (i := 2) (tb := fun W => tDrop (tCrS (sp_lfilled (CT K) (CC K)) (WE W) (tCons (tVar 0) (tCons (tVar 1) tNil)))) (ts := tSuiteC K) (Wout := fun _ _ _ _ => False) rfl rfl sc_law_miscounted.nd rfl rfl ⟨rfl, by decide, .inl J2.v_BadCount⟩ takes0 (fun W pn xe tk _ => pss_one (ps_expr (pe_crS (k := 5) G_law_filled (hr.mono (by decide)) (by rfl) T.v_law_filled T.k_law_filled (fun σ => passAt tk σ) (pa_cons (pv 0) (pa_cons (pv 1) pa_nil))))) (fun a oe cls d pn hz hf => pss_cons (ps_if (PW.pt (pw_or (pt_not (pt_val (pe_callB (call_isX J2.c_cnt hz hf) (by rfl) T.z_isinstance (by decide +kernel) (pa_cons (pv 2) (pa_cons (pe_glob (v := .ref (CW K)) (by rfl) J.v_WorkError rfl) pa_nil))))) (pw_or1 (pt_val (pe_callB (call_isX J2.c_cnt hz hf) (by rfl) T.z_isinstance (by decide +kernel) (pa_cons (pv 2) (pa_cons (pe_glob (v := .ref (CN K)) (by rfl) J.v_NoPlace rfl) pa_nil))))))) (pss_one (ps_ret pe_bl)) pss_nil) (pss_one (ps_ret (pe_crP (k := 1) (pp := (a, oe)) (E := E0) G_law_isP ⟨(hr.mono (show 1 ≤ 6 by decide)).dp, (hr.mono (show 1 ≤ 6 by decide)).un⟩ List.mem_cons_self (by rfl) T.v_law_is T.k_law_is (pa_cons (pe_xf J2.x_cnt J2.e_cnt.no hz hf (pv 2)) (pa_cons (pe_callB call_len (by rfl) T.z_len (by decide +kernel) (pa_cons (pv 1) pa_nil)) pa_nil)))))))
(pss_one (ps_ret pe_bl))), ?_⟩
    refine ⟨x, rfl, .ref l, rfl, x, l, us, c, rfl, hl, l5, hx, wc, zc, .inl ⟨ne, fun H1 d s1 nd => ?_⟩⟩
    have s2 : Same H (upd H1 d (.xd [(("count" : Str), .int us.length)])) := s1.trans (Same.new nd)
    refine ⟨true, J2.m_cnt, fun _ a0 na => ?_, fun z => nomatch z⟩
    refine ⟨.ref a0, rfl, .ref (CW K), .ref (CW K), true, d, _, rfl, fun u h => h, rfl, rfl, upd_same, J2.i_cnt_w, true, rfl, ?_⟩
    refine iteF ?_
    refine ⟨.ref a0, rfl, .ref (CN K), .ref (CN K), false, d, _, rfl, fun u h => h, rfl, rfl, upd_same, J2.i_cnt_n, false, rfl, ?_⟩
    refine iteF ?_
    refine ⟨.ref a0, rfl, rfl, rfl, d, _, .int us.length, rfl, upd_same, rfl, .ref l, rfl, .ref l, us.length, rfl, .inl ⟨_, SqL.of (s2 _ _ hl), rfl⟩, us.length, us.length, rfl, ?_⟩
    rw [decide_eq_true rfl]
    exact q _ s2
end
end TW

namespace TW
open PySem PySem.Spec PyProof.Rows L2
/-! ### the law's trees as data -/
mutual
def tD : Tr → PyData
  | .nd n ks => .tuple [.str (mk n), .tuple (tDs ks)]
def tDs : List Tr → List PyData
  | [] => []
  | k :: r => tD k :: tDs r
end
mutual
theorem dpT {K : PySem.W.Frag} {H : Hp} : ∀ (v : V) (t : Tr), LT H v t → Dp K H v (tD t)
  | v, .nd n ks, h => by
    rw [LT] at h
    obtain ⟨a, b, vs, rfl, ha, hb, hk⟩ := h
    rw [tD]
    exact .tup (SqT.of ha) (.cons (.str _) (.cons (.tup (SqT.of hb) (dpTs vs ks hk)) .nil))
theorem dpTs {K : PySem.W.Frag} {H : Hp} : ∀ (vs : List V) (ts : List Tr), LTs H vs ts → DpAll K H vs (tDs ts)
  | [], [], _ => by rw [tDs]; exact .nil
  | v :: vs, t :: ts, h => by
    rw [LTs] at h
    rw [tDs]
    exact .cons (dpT v t h.1) (dpTs vs ts h.2)
  | [], _ :: _, h => by simp [LTs] at h
  | _ :: _, [], h => by simp [LTs] at h
end
theorem name_asc {n : List Nat} {ks : List Tr} (h : wf (.nd n ks) = true) : ∀ c ∈ n, c < 128 := by
  rcases name_cases h with z | z
  · intro c hc
    have a := big_aln z c hc
    unfold alnC capC at a
    simp only [Bool.or_eq_true, Bool.and_eq_true, Nat.ble_eq] at a
    omega
  · have z1 := z.1
    match n, z1 with
    | [c], h' =>
      intro x hx
      rw [List.mem_singleton.mp hx]
      have h'' : (c == 95 || digC c) = true := h'
      unfold digC at h''
      simp only [Bool.or_eq_true, Bool.and_eq_true, Nat.ble_eq, beq_iff_eq] at h''
      omega
mutual
theorem layT : ∀ t : Tr, wf t = true → (tD t).canLay0 = true
  | .nd n ks, h => by
    rw [tD]
    show (PyData.strOk (mk n) && (PyData.canLayAll0 (tDs ks) && true)) = true
    rw [strOk_of (name_asc h), layTs ks (wf_of h).1]
    rfl
theorem layTs : ∀ ts : List Tr, wfs ts = true → PyData.canLayAll0 (tDs ts) = true
  | [], _ => by rw [tDs]; rfl
  | t :: r, h => by
    obtain ⟨h1, h2⟩ := wfs_cons h
    rw [tDs]
    show ((tD t).canLay0 && PyData.canLayAll0 (tDs r)) = true
    rw [layT t h1, layTs r h2]
    rfl
end
mutual
theorem depT : ∀ t : Tr, (tD t).depth ≤ 2 * lv t
  | .nd n ks => by
    have := depTs ks
    rw [tD, lv]
    show max 0 (max (PyData.depthAll (tDs ks) + 1) 0) + 1 ≤ _
    omega
theorem depTs : ∀ ts : List Tr, PyData.depthAll (tDs ts) ≤ 2 * lvs ts
  | [] => by rw [tDs, lvs]; exact Nat.le_refl _
  | t :: r => by
    have h1 := depT t
    have h2 := depTs r
    rw [tDs, lvs]
    show max (tD t).depth (PyData.depthAll (tDs r)) ≤ _
    omega
end
theorem shapedT {t : Tr} (h : wf t = true) (l : lv t ≤ 32) : SeqAt.shaped (tD t) = true := by
  have := depT t
  show ((tD t).canLay0 && decide ((tD t).depth ≤ 64)) = true
  rw [layT t h, decide_eq_true (show (tD t).depth ≤ 64 by omega)]
  rfl
mutual
theorem eqvT : ∀ t u : Tr, (tD t).eqv (tD u) = true ↔ t = u
  | .nd n ks, .nd m js => by
    rw [tD, tD]
    show ((mk n == mk m) && (PyData.eqvAll (tDs ks) (tDs js) && true)) = true ↔ _
    rw [Bool.and_true, Bool.and_eq_true_iff, eqvTs ks js, beq_iff_eq]
    constructor
    · rintro ⟨h1, h2⟩
      rw [mk_inj h1, h2]
    · intro h
      cases h
      exact ⟨rfl, rfl⟩
theorem eqvTs : ∀ ts us : List Tr, PyData.eqvAll (tDs ts) (tDs us) = true ↔ ts = us
  | [], [] => by rw [tDs]; exact ⟨fun _ => rfl, fun _ => rfl⟩
  | [], _ :: _ => by rw [tDs, tDs]; exact ⟨fun h => (nomatch h), fun h => (nomatch h)⟩
  | _ :: _, [] => by rw [tDs, tDs]; exact ⟨fun h => (nomatch h), fun h => (nomatch h)⟩
  | t :: r, u :: s => by
    rw [tDs, tDs]
    show ((tD t).eqv (tD u) && PyData.eqvAll (tDs r) (tDs s)) = true ↔ _
    rw [Bool.and_eq_true_iff, eqvT t u, eqvTs r s]
    constructor
    · rintro ⟨h1, h2⟩
      rw [h1, h2]
    · intro h
      cases h
      exact ⟨rfl, rfl⟩
end
theorem eqv_ov {a b : Tr} (ha : wf a = true) (hb : wf b = true) : (tD a).eqv (tD (cm a b)) = ov a (cm a b) := by
  have h1 := eqvT a (cm a b)
  have h2 := ov_eq ha hb
  cases e2 : ov a (cm a b) with
  | true => exact h1.mpr (h2.mp e2)
  | false =>
    cases e1 : (tD a).eqv (tD (cm a b)) with
    | false => rfl
    | true =>
      rw [h2.mpr (h1.mp e1)] at e2
      cases e2
mutual
theorem cm_lv : ∀ a b : Tr, lv (cm a b) ≤ lv a
  | .nd n ks, .nd m js => by
    rw [cm]
    by_cases h : n = m ∧ ks.length = js.length
    · rw [if_pos h, lv, lv]
      have := cms_lv ks js
      omega
    · rw [if_neg h, lv, lv, lvs]
      omega
theorem cms_lv : ∀ ks js : List Tr, lvs (cms ks js) ≤ lvs ks
  | [], _ => by rw [cms]; exact Nat.le_refl _
  | _ :: _, [] => by rw [cms, lvs]; exact Nat.zero_le _
  | k :: r, j :: q => by
    have a := cm_lv k j
    have b := cms_lv r q
    rw [cms, lvs, lvs]
    omega
end
end TW

namespace TW
open PySem PySem.Spec PyProof.Rows L2
/-- the trees and what is made of them -/
structure LP (C a m : Addr) (vs ms : List V) (ts : List Tr) (H : Hp) : Prop where
  al : H a = some (.lst vs)
  ml : H m = some (.lst ms)
  lts : LTs H vs ts
  tos : TOs C H ms ts
theorem LP.same {C a m : Addr} {vs ms : List V} {ts : List Tr} {H H' : Hp} (h : LP C a m vs ms ts H) (s : Same H H') : LP C a m vs ms ts H' := ⟨s _ _ h.al, s _ _ h.ml, LTs.kp (Same.kp s) _ _ h.lts, TOs.kp (Same.kp s) _ _ h.tos⟩
structure TB (ts : List Tr) : Prop where
  len : ts.length = 3
  wfs : wfs ts = true
  sz : ∀ t ∈ ts, sz t ≤ 96
  lv : ∀ t ∈ ts, lv t ≤ 19
theorem LP.at {C a m : Addr} {vs ms : List V} {ts : List Tr} {H : Hp} (h : LP C a m vs ms ts H) (b : TB ts) {i : Nat} (hi : i < 3) :
    ∃ v x t, vs[i]? = some v ∧ ms[i]? = some x ∧ ts[i]? = some t ∧ wf t = true ∧ TW.sz t ≤ 96 ∧ TW.lv t ≤ 19 := by
  have l1 := h.lts.length
  have l2 := h.tos.length
  have l3 := b.len
  have g : ts[i]? = some ts[i] := List.getElem?_eq_getElem (by omega)
  have m := List.mem_of_getElem? g
  exact ⟨vs[i], ms[i], ts[i], List.getElem?_eq_getElem (by omega), List.getElem?_eq_getElem (by omega), g, wfs_mem b.wfs m, b.sz _ m, b.lv _ m⟩
theorem LP.lt {C a m : Addr} {vs ms : List V} {ts : List Tr} {H : Hp} (h : LP C a m vs ms ts H) {i : Nat} {v : V} {t : Tr} (h1 : vs[i]? = some v) (h2 : ts[i]? = some t) : LT H v t := by
  obtain ⟨t', e, l⟩ := h.lts.get h1
  rw [h2] at e
  have := Option.some.inj e
  subst this
  exact l
theorem LP.to {C a m : Addr} {vs ms : List V} {ts : List Tr} {H : Hp} (h : LP C a m vs ms ts H) {i : Nat} {v : V} {t : Tr} (h1 : ms[i]? = some v) (h2 : ts[i]? = some t) : TO C H v t := by
  obtain ⟨t', e, l⟩ := h.tos.get h1
  rw [h2] at e
  have := Option.some.inj e
  subst this
  exact l
def sp_pairs (C : Addr) : Sp := fun vs H Q _ => ∃ (a m : Addr) (us ms : List V) (ts : List Tr), vs = [.ref a, .ref m] ∧ LP C a m us ms ts H ∧ TB ts ∧ ∀ H', Same H H' → Q (.bl true) H'
section
variable {P : Program} {w : World} {K : PySem.W.Frag} {mg : Str → Option Value} {base : Heap}
theorem ok_pairs (T : Tx K mg) (Z : Tc K mg) (I3 : Ti K) (W : Tw K) (A1 : Ta K) : FnR P w K mg base CX0 204 (He.ga K "_law_pairs") (sp_pairs (CT K)) := by
  have G_and : FnR P w K mg base CX0 100 (mT K "__and__") (sp_and (CT K) 97) := ok_and T Z W A1 97
  have G_law_common : FnR P w K mg base CX0 98 (He.ga K "_law_common") (sp_common 97) := ok_common T 97
  have G_law_over : FnR P w K mg base CX0 98 (He.ga K "_law_over") (sp_over 97) := ok_over T 97
  have G_law_told : FnR P w K mg base CX0 98 (He.ga K "_law_told") (sp_told 97) := ok_told T 97
  have G_law_is : FnR P w K mg base CX0 1 (He.ga K "_law_is") sp_is := ok_is T
  have G_law_good : FnR P w K mg base CX0 100 (He.ga K "_law_good") (sp_good (CT K) 97) := ok_good T Z I3 W G_law_is 97
  have G_law_covers : FnR P w K mg base CX0 203 (He.ga K "_law_covers") (sp_lcovers (CT K)) := ok_lcovers T Z A1
  refine fnR0 T.d_law_pairs sc_law_pairs (fun _ _ _ _ _ _ us hl => match us, hl with | [_, _], _ => rfl) (fun vs H Q E h => ?_) (fun cdv A outer s H vs Q E hr h => ?_)
  · obtain ⟨a, m, us, ms, ts, rfl, _⟩ := h
    rfl
  · obtain ⟨a, m, us, ms, ts, rfl, lp, tb, c⟩ := h
    refine ⟨_, (pss_cons (ps_for PassesOwn.never rfl (pi_range1 (by rfl) T.z_range (pa_cons pe_int pa_nil)) (pg_name (i := 2) sc_law_pairs.nd rfl (.inl rfl))
(pss_one (ps_for PassesOwn.never rfl (pi_range1 (by rfl) T.z_range (pa_cons pe_int pa_nil)) (pg_name (i := 3) sc_law_pairs.nd rfl (.inl rfl))
(pss_cons (ps_set (i := 4) sc_law_pairs.nd rfl (.inl rfl) (pe_op (op_binT (op := .BitAnd) A1.sf A1.at_and A1.fn_and G_and (hr.mono (by omega)) (E := E0) pass0) (pe_ix (r := rIxL K) ix_list (pv 1) (pv 2) (fun _ _ => rfl)) (pe_ix (r := rIxL K) ix_list (pv 1) (pv 3) (fun _ _ => rfl))))
(pss_cons (ps_set (i := 5) sc_law_pairs.nd rfl (.inl rfl) (pe_cr G_law_common (hr.mono (by omega)) (by rfl) T.v_law_common T.k_law_common pass0 (pa_cons (pe_ix (r := rIxL K) ix_list (pv 0) (pv 2) (fun _ _ => rfl)) (pa_cons (pe_ix (r := rIxL K) ix_list (pv 0) (pv 3) (fun _ _ => rfl)) pa_nil))))
(pss_cons (ps_if (pt_not (pt_val (pe_cr G_law_good (hr.mono (by omega)) (by rfl) T.v_law_good T.k_law_good pass0 (pa_cons (pv 4) (pa_cons (pe_cr G_law_told (hr.mono (by omega)) (by rfl) T.v_law_told T.k_law_told pass0 (pa_cons (pv 5) pa_nil)) pa_nil)))))
(pss_one (ps_ret pe_bl))
pss_nil)
(pss_cons (ps_if (pt_not (pt_val (pe_cr G_law_covers (hr.mono (by omega)) (by rfl) T.v_law_covers T.k_law_covers pass0 (pa_cons (pv 4) (pa_cons (pe_ix (r := rIxL K) ix_list (pv 1) (pv 2) (fun _ _ => rfl)) (pa_cons pe_bl pa_nil))))))
(pss_one (ps_ret pe_bl))
pss_nil)
(pss_cons (ps_if (pt_not (pt_val (pe_cr G_law_covers (hr.mono (by omega)) (by rfl) T.v_law_covers T.k_law_covers pass0 (pa_cons (pv 4) (pa_cons (pe_ix (r := rIxL K) ix_list (pv 1) (pv 3) (fun _ _ => rfl)) (pa_cons pe_bl pa_nil))))))
(pss_one (ps_ret pe_bl))
pss_nil)
(pss_cons (ps_set (i := 6) sc_law_pairs.nd rfl (.inl rfl) (pe_cr G_law_over (hr.mono (by omega)) (by rfl) T.v_law_over T.k_law_over pass0 (pa_cons (pe_ix (r := rIxL K) ix_list (pv 0) (pv 2) (fun _ _ => rfl)) (pa_cons (pe_ix (r := rIxL K) ix_list (pv 0) (pv 3) (fun _ _ => rfl)) pa_nil))))
(pss_cons (ps_if (pt_not (pt_val (pe_cr G_law_covers (hr.mono (by omega)) (by rfl) T.v_law_covers T.k_law_covers pass0 (pa_cons (pe_ix (r := rIxL K) ix_list (pv 1) (pv 2) (fun _ _ => rfl)) (pa_cons (pe_ix (r := rIxL K) ix_list (pv 1) (pv 3) (fun _ _ => rfl)) (pa_cons (pv 6) pa_nil))))))
(pss_one (ps_ret pe_bl))
pss_nil)
(pss_one (ps_if (pt_not (pt_val (pe_cr G_law_covers (hr.mono (by omega)) (by rfl) T.v_law_covers T.k_law_covers pass0 (pa_cons (pe_ix (r := rIxL K) ix_list (pv 1) (pv 2) (fun _ _ => rfl)) (pa_cons (pv 4) (pa_cons (pe_cmpR (op_eqD hr.units) (pe_ix (r := rIxL K) ix_list (pv 0) (pv 2) (fun _ _ => rfl)) (pv 5) (nomark _)) pa_nil))))))
(pss_one (ps_ret pe_bl))
pss_nil))))))))))))
(pss_one (ps_ret pe_bl))), ?_⟩
    refine ⟨3, rfl, by decide, by decide, for_range (lo := 0) (n := 3) (fun i σ H1 => ∃ y2 y3 y4 y5 y6, σ = [some (.ref a), some (.ref m), y2, y3, y4, y5, y6] ∧ LP (CT K) a m us ms ts H1 ∧ Same H H1) ⟨_, _, _, _, _, rfl, lp, Same.refl _⟩ ?_ ?_⟩
    · rintro i σ H1 hi ⟨y2, y3, y4, y5, y6, rfl, lp1, s1⟩
      have hi' : i < 3 := hi
      have e0 : ((0 : Int) + (i : Nat)) = (i : Nat) := by omega
      rw [e0]
      refine ⟨3, rfl, by decide, by decide, for_range (lo := 0) (n := 3) (fun j σ H1 => ∃ y3 y4 y5 y6, σ = [some (.ref a), some (.ref m), some (.int (i : Nat)), y3, y4, y5, y6] ∧ LP (CT K) a m us ms ts H1 ∧ Same H H1) ⟨_, _, _, _, rfl, lp1, s1⟩ ?_ ?_⟩
      · rintro j σ H2 hj ⟨y3, y4, y5, y6, rfl, lp2, s2⟩
        have hj' : j < 3 := hj
        have e0 : ((0 : Int) + (j : Nat)) = (j : Nat) := by omega
        rw [e0]
        obtain ⟨vi, mi, ti, gvi, gmi, gti, wi, zi, li⟩ := lp2.at tb hi'
        obtain ⟨vj, mj, tj, gvj, gmj, gtj, wj, zj, lj⟩ := lp2.at tb hj'
        have toi := lp2.to gmi gti
        have toj := lp2.to gmj gtj
        obtain ⟨a1, d1, p1, rfl, ha1⟩ := toi.at
        obtain ⟨b1, d2, p2, rfl, hb1⟩ := toj.at
        have wc := cm_wf ti tj wi wj
        have zc := cm_sz ti tj
        have lc := cm_lv ti tj
        refine ⟨.ref m, rfl, .int i, rfl, m, ms, i, _, rfl, rfl, SqL.of lp2.ml, atI_nat gmi, .ref m, rfl, .int j, rfl, m, ms, j, _, rfl, rfl, SqL.of lp2.ml, atI_nat gmj, a1, d1, _, b1, d2, _, rfl, rfl, ha1, hb1, .ref a1, .ref b1, ti, tj, rfl, toi, toj, wi, wj, by omega, by omega, fun H3 both s3 to3 => ?_⟩
        have lp3 := lp2.same s3
        refine ⟨.ref a, rfl, .int i, rfl, a, us, i, _, rfl, rfl, SqL.of lp3.al, atI_nat gvi, .ref a, rfl, .int j, rfl, a, us, j, _, rfl, rfl, SqL.of lp3.al, atI_nat gvj, vi, vj, ti, tj, rfl, lp3.lt gvi gti, lp3.lt gvj gtj, wi, wj, by omega, by omega, fun H4 due s4 lt4 => ?_⟩
        refine ⟨both, rfl, due, rfl, due, cm ti tj, rfl, lt4, wc, by omega, by omega, fun H5 d s5 du5 => ?_⟩
        have to5 := TO.same (s4.trans s5) to3
        refine ⟨both, d, cm ti tj, _, rfl, to5, du5, wc, by omega, by omega, fun H6 s6 => ⟨true, rfl, iteF ?_⟩⟩
        have lp6 := lp3.same (s4.trans (s5.trans s6))
        have to6 := TO.same s6 to5
        refine ⟨both, rfl, .ref m, rfl, .int i, rfl, m, ms, i, _, rfl, rfl, SqL.of lp6.ml, atI_nat gmi, both, .ref a1, cm ti tj, ti, by rw [cm_ov], to6, lp6.to gmi gti, wc, wi, by omega, fun H7 s7 => ⟨true, rfl, iteF ?_⟩⟩
        have lp7 := lp6.same s7
        have to7 := TO.same s7 to6
        refine ⟨both, rfl, .ref m, rfl, .int j, rfl, m, ms, j, _, rfl, rfl, SqL.of lp7.ml, atI_nat gmj, both, .ref b1, cm ti tj, tj, by rw [cm_ov2], to7, lp7.to gmj gtj, wc, wj, by omega, fun H8 s8 => ⟨true, rfl, iteF ?_⟩⟩
        have lp8 := lp7.same s8
        have to8 := TO.same s8 to7
        refine ⟨.ref a, rfl, .int i, rfl, a, us, i, _, rfl, rfl, SqL.of lp8.al, atI_nat gvi, .ref a, rfl, .int j, rfl, a, us, j, _, rfl, rfl, SqL.of lp8.al, atI_nat gvj, vi, vj, ti, tj, rfl, lp8.lt gvi gti, lp8.lt gvj gtj, wi, wj, by omega, by omega, ?_⟩
        refine ⟨.ref m, rfl, .int i, rfl, m, ms, i, _, rfl, rfl, SqL.of lp8.ml, atI_nat gmi, .ref m, rfl, .int j, rfl, m, ms, j, _, rfl, rfl, SqL.of lp8.ml, atI_nat gmj, _, rfl, .ref a1, .ref b1, ti, tj, rfl, lp8.to gmi gti, lp8.to gmj gtj, wi, wj, by omega, fun H9 s9 => ⟨true, rfl, iteF ?_⟩⟩
        have lp9 := lp8.same s9
        have to9 := TO.same s9 to8
        have lt9 := LT.kp (Same.kp (s5.trans (s6.trans (s7.trans (s8.trans s9))))) _ _ lt4
        refine ⟨.ref m, rfl, .int i, rfl, m, ms, i, _, rfl, rfl, SqL.of lp9.ml, atI_nat gmi, both, rfl, .ref a, rfl, .int i, rfl, a, us, i, _, rfl, rfl, SqL.of lp9.al, atI_nat gvi, due, rfl, tD ti, tD (cm ti tj), dpT _ _ (lp9.lt gvi gti), dpT _ _ lt9, shapedT wi (by omega), shapedT wc (by omega), ?_⟩
        rw [eqv_ov wi wj]
        refine ⟨.ref a1, both, ti, cm ti tj, rfl, lp9.to gmi gti, to9, wi, wc, by omega, fun HA sA => ⟨true, rfl, iteF ?_⟩⟩
        exact ⟨_, _, _, _, rfl, lp9.same sA, s2.trans (s3.trans (s4.trans (s5.trans (s6.trans (s7.trans (s8.trans (s9.trans sA)))))))⟩
      · rintro σ H2 ⟨y3, y4, y5, y6, rfl, lp2, s2⟩
        exact ⟨_, _, _, _, _, rfl, lp2, s2⟩
    · rintro σ H1 ⟨y2, y3, y4, y5, y6, rfl, lp1, s1⟩
      exact c _ s1
end
end TW

namespace TW
open PySem PySem.Spec PyProof.Rows L2
theorem pe_getTK {X : Cx} {CX : CXT} {k : Nat} {sp : Sp} {E : XK} {e i : Expr} {te ti : TE} {pos : Pos} (K : PySem.W.Frag) (Y : Ty K) (G : FnR X.prog X.w K X.mg X.base CX k (mT K "__getitem__") sp) (hr : Room (k + 1) X.A) (hx : Passes CX X E) (he : PE X e te) (hi : PE X i ti) (hK : X.K = K := by rfl)
    (hsl : ∀ x u, subscripted i true x u = runValue (.builtin "lifetime.subscript" ⟨[x, u], []⟩) := by intro _ _; with_unfolding_all rfl) :
    PE X (.Subscript e i pos) (tOp (rGetT (CT K) sp E) te ti) := by
  subst hK
  exact pe_getT Y G hr hx he hi hsl
theorem atP_atN : ∀ (p : List Nat) (t u : Tr), atN t p = some u → atP t (p.map Int.ofNat) = some u
  | [], t, u, h => h
  | i :: p, .nd n ks, u, h => by
    obtain ⟨k, hk, hu⟩ := atN_cons h
    have e1 : stp (Int.ofNat i) (.nd n ks) = some k := by
      show (if 0 ≤ Int.ofNat i then ks[(Int.ofNat i).toNat]? else none) = some k
      rw [if_pos (show (0 : Int) ≤ Int.ofNat i from Int.natCast_nonneg i)]
      exact hk
    show List.foldl (fun o x => o.bind (stp x)) (stp (Int.ofNat i) (.nd n ks)) (p.map Int.ofNat) = _
    rw [e1]
    exact atP_atN p k u hu
theorem cut4 (xs : List V) (h : 4 < xs.length) : (cutV xs none (some 4)).length = 4 := by
  unfold cutV
  rw [show (some (4 : Int)) = some ((4 : Nat) : Int) from rfl, HT.sIx_nat, HT.sIx_none, List.length_take, List.length_drop]
  omega
theorem cut1 (xs : List V) (h : 0 < xs.length) : (cutV xs (some 1) none).length = xs.length - 1 := by
  unfold cutV
  rw [show (some (1 : Int)) = some ((1 : Nat) : Int) from rfl, HT.sIx_nat, HT.sIx_none, List.length_take, List.length_drop]
  omega
def sp_ref (C : Addr) : Sp := fun vs H Q _ => ∃ (x y z : V) (g : Addr) (us : List V) (t c : Tr), vs = [x, y, z, .ref g] ∧ LT H x t ∧ TO C H y t ∧ TO C H z c ∧ ov c t = true ∧ wf t = true ∧ wf c = true ∧ sz t ≤ 96 ∧ sz c ≤ 96 ∧ H g = some (.lst us) ∧ All2 (PP H) us (gp c []) ∧
  ∀ H', Same H H' → Q (.bl true) H'
section
variable {P : Program} {w : World} {K : PySem.W.Frag} {mg : Str → Option Value} {base : Heap}
theorem ok_ref (T : Tx K mg) (Z : Tc K mg) (I3 : Ti K) (W : Tw K) (Y : Ty K) (A2 : Th K) (J : Te P K mg) (J2 : Tb P K mg) : FnR P w K mg base CX0 101 (He.ga K "_law_refilled") (sp_ref (CT K)) := by
  have G_getitem : FnR P w K mg base (L2.CX P w) 2 (mT K "__getitem__") (sp_get (CT K) (CN K)) := ok_get T Z Y J
  have G_law_filled : FnR P w K mg base (L2.CX P w) 5 (He.ga K "_law_filled") (sp_lfilled (CT K) (CC K)) := ok_lfilled T Z A2 J2
  have G_law_miscounted : FnR P w K mg base CX0 7 (He.ga K "_law_miscounted") (sp_mis (CT K)) := ok_mis T Z A2 J J2
  have G_law_told : FnR P w K mg base CX0 98 (He.ga K "_law_told") (sp_told 97) := ok_told T 97
  have G_law_is : FnR P w K mg base CX0 1 (He.ga K "_law_is") sp_is := ok_is T
  have G_law_good : FnR P w K mg base CX0 100 (He.ga K "_law_good") (sp_good (CT K) 97) := ok_good T Z I3 W G_law_is 97
  refine fnR0 T.d_law_refilled sc_law_refilled (fun _ _ _ _ _ _ us hl => match us, hl with | [_, _, _, _], _ => rfl) (fun vs H Q E h => ?_) (fun cdv A outer s H vs Q E hr h => ?_)
  · obtain ⟨x, y, z, g, us, t, c, rfl, _⟩ := h
    rfl
  · obtain ⟨x, y, z, g, us, t, c, rfl, lx, ty, tz, oc, wt, wc, zt, zc, hg, hus, q⟩ := h
    refine ⟨_, (pss_cons (ps_setLc (i := 4) (own := [("_law_gap", 5)]) (g := gName 5) rfl sc_law_refilled.nd rfl rfl (sw_true rfl rfl rfl (by decide +kernel)) (pi_list (pv 3)) (blkOk_by (own := [("_law_gap", 5)]) (N := N_law_refilled) (sc := defScope s_law_refilled) (by decide +kernel)) (fun _ _ _ _ _ => pg_name (i := 5) sc_law_refilled.nd rfl (.inl rfl)) (fun _ _ _ _ _ => pts_nil) (fun _ _ _ _ _ => (pe_getTK (k := 2) K Y G_getitem (hr.mono (by decide)) (E := E0) passE0 (pv 1) (pv 5))))
(pss_cons (ps_if (pt_cmpR op_gt (pe_callB call_len (by rfl) T.z_len (by decide +kernel) (pa_cons (pv 3) pa_nil)) pe_int (nomark _))
(pss_one (ps_ret (pe_cr G_law_miscounted (hr.mono (by omega)) (by rfl) T.v_law_miscounted T.k_law_miscounted pass0 (pa_cons (pv 2) (pa_cons (pe_slice sl_list (pv 4) po_none (po_some pe_int)) pa_nil)))))
pss_nil)
(pss_cons (ps_if (pt_not (pt_val (pe_cr G_law_good (hr.mono (by omega)) (by rfl) T.v_law_good T.k_law_good pass0 (pa_cons (pe_cr G_law_filled (hr.mono (by omega)) (by rfl) T.v_law_filled T.k_law_filled (E := E0) passE0 (pa_cons (pv 2) (pa_cons (pv 4) pa_nil))) (pa_cons (pe_cr G_law_told (hr.mono (by omega)) (by rfl) T.v_law_told T.k_law_told pass0 (pa_cons (pv 0) pa_nil)) pa_nil)))))
(pss_one (ps_ret pe_bl))
pss_nil)
(pss_cons (ps_if (PW.pt (pw_and (pt_cmpR op_gt (pe_callB call_len (by rfl) T.z_len (by decide +kernel) (pa_cons (pv 3) pa_nil)) pe_int (nomark _)) (pw_and1 (pt_not (pt_val (pe_cr G_law_miscounted (hr.mono (by omega)) (by rfl) T.v_law_miscounted T.k_law_miscounted pass0 (pa_cons (pv 2) (pa_cons (pe_slice sl_list (pv 4) (po_some pe_int) po_none) pa_nil))))))))
(pss_one (ps_ret pe_bl))
pss_nil)
(pss_one (ps_ret (pe_cr G_law_miscounted (hr.mono (by omega)) (by rfl) T.v_law_miscounted T.k_law_miscounted pass0 (pa_cons (pv 2) (pa_cons (pe_op op_cat (pv 4) (pe_lst (pa_cons (pv 1) pa_nil))) pa_nil))))))))), ?_⟩
    have ga := ga_at c t [] oc
    have ul : us.length = (gp c []).length := hus.len
    have gl : (gp c []).length = (gaT c t).length := ga.len
    have gz := gp_len c []
    obtain ⟨ay, dy, py, rfl, hay⟩ := ty.at
    refine ⟨.ref g, rfl, g, rfl, ⟨_, SqL.of hg⟩, fun D nD => ?_⟩
    refine lc_list (xs := us) (fun i H3 => ∃ ys, H3 D = some (.lst ys) ∧ Same H H3 ∧ TOs (CT K) H3 ys ((gaT c t).take i)) ?_ ?_ ?_ ?_
    · exact ⟨[], upd_same, Same.new nD, by rw [List.take_zero, TOs]; trivial⟩
    · rintro i H3 _ ⟨ys, _, s3, _⟩
      exact SqL.of (s3 _ _ hg)
    · rintro i v H3 hv ⟨ys, eD, s3, hy⟩
      obtain ⟨p, ep, a, rfl, ha⟩ := hus.get hv
      obtain ⟨u, eu, p', ep', hat⟩ := ga.get ep
      have ep2 : p = p' := ep'
      subst ep2
      have ha3 := s3 _ _ ha
      rw [pathV_ints] at ha3
      have hat' := atP_atN p t u hat
      refine ⟨rfl, .ref ay, rfl, .ref a, rfl, ay, dy, _, rfl, s3 _ _ hay, .ref ay, t, a, _, rfl, TO.same s3 ty, ha3, fun u' hu' z' tz' => ?_, fun hn => ?_⟩
      · rw [hat'] at hu'
        have := Option.some.inj hu'
        subst this
        have kk : Kp H3 (upd H3 D (.lst (ys ++ [z']))) := Kp.lst eD
        refine ⟨ys, eD, small1000 (by rw [hy.length, List.length_take]; omega), ys ++ [z'], upd_same, ?_, ?_⟩
        · intro b' o e
          rw [upd_ne (ne_of_none e nD)]
          exact s3 _ _ e
        · rw [take_get eu]
          exact TOs.snoc (TO.kp kk _ _ tz') (TOs.kp kk _ _ hy)
      · rw [hat'] at hn
        cases hn
    rintro H3 ⟨ys, eD, s3, hy⟩
    rw [show us.length = (gaT c t).length by omega, List.take_length] at hy
    have yl := hy.length
    have sm : ∀ xs : List V, xs.length ≤ 1000 → xs.length ≤ sizeLine := fun xs h => Nat.le_trans h szle
    refine ⟨.ref g, rfl, .ref g, us.length, rfl, .inl ⟨_, SqL.of (s3 _ _ hg), rfl⟩, us.length, 4, rfl, rfl, _, rfl, ite2 (fun e => ?_) (fun e => ?_)⟩
    · have h4 : 4 < us.length := by
        have := of_decide_eq_true e
        omega
      refine ⟨z, rfl, .ref D, rfl, 4, rfl, D, ys, rfl, SqL.of eD, fun p np => ?_⟩
      have c4 := cut4 ys (by omega)
      have s4 := s3.trans (Same.new (o := .lst (cutV ys none (some 4))) np)
      exact ⟨z, p, _, c, rfl, upd_same, by omega, TO.same s4 tz, wc, by omega, by omega, fun H' s' => q _ (s4.trans s')⟩
    have h4 : us.length ≤ 4 := by
      refine Decidable.byContradiction fun z => e (decide_eq_true ?_)
      omega
    refine ⟨z, rfl, .ref D, rfl, z, D, ys, c, rfl, eD, by omega, TO.same s3 tz, wc, by omega, .inr ⟨t, oc, wt, by omega, hy, fun H4 v s4 to4 => ?_⟩⟩
    refine ⟨x, rfl, x, t, rfl, LT.kp (Same.kp (s3.trans s4)) _ _ lx, wt, by omega, by omega, fun H5 d s5 du5 => ?_⟩
    refine ⟨v, d, t, _, rfl, TO.same s5 to4, du5, wt, by omega, by omega, fun H6 s6 => ⟨true, rfl, iteF ?_⟩⟩
    have s06 := s3.trans (s4.trans (s5.trans s6))
    have eD6 := s6 _ _ (s5 _ _ (s4 _ _ eD))
    have last : ∀ H7, Same H6 H7 → tRet (tCr (sp_mis (CT K)) E0 (tCons (tVar 2) (tCons (tOp rCat (tVar 4) (tLst (tCons (tVar 1) tNil))) tNil))) { nx := fun _ H' => Q .non H', rt := Q } [some x, some (.ref ay), some z, some (.ref g), some (.ref D), none] H7 := fun H7 s7 => by
      refine ⟨z, rfl, .ref D, rfl, .ref ay, rfl, szle, fun b nb => ?_⟩
      refine ⟨D, b, ys, [.ref ay], rfl, rfl, Same.new nb _ _ (s7 _ _ eD6), upd_same, ?_, fun p np => ?_⟩
      · exact Nat.le_trans (show ys.length + 1 ≤ 1000 by omega) szle
      have s8 := s06.trans (s7.trans ((Same.new (o := .lst [.ref ay]) nb).trans (Same.new (o := .lst (ys ++ [.ref ay])) np)))
      refine ⟨z, p, _, c, rfl, upd_same, ?_, TO.same s8 tz, wc, by omega, ?_, fun H' s' => q _ (s8.trans s')⟩
      · rw [List.length_append]
        show ys.length + 1 ≤ 5
        omega
      · rw [List.length_append]
        show ys.length + 1 ≠ _
        omega
    refine ⟨.ref g, rfl, .ref g, us.length, rfl, .inl ⟨_, SqL.of (s06 _ _ hg), rfl⟩, us.length, 0, rfl, rfl, _, rfl, ite2 (fun e => ?_) (fun e => ?_)⟩
    · have h0 : 0 < us.length := by
        have := of_decide_eq_true e
        omega
      have c1 := cut1 ys (by omega)
      refine ⟨z, rfl, .ref D, rfl, 1, rfl, D, ys, rfl, SqL.of eD6, fun p np => ?_⟩
      have s7 := Same.new (o := .lst (cutV ys (some 1) none)) np
      exact ⟨z, p, _, c, rfl, upd_same, by omega, TO.same (s06.trans s7) tz, wc, by omega, by omega, fun H' s' => ⟨true, rfl, iteF (last _ (s7.trans s'))⟩⟩
    · exact iteF (last _ (Same.refl _))
end
end TW

namespace TW
open PySem PySem.Spec PyProof.Rows L2
theorem pq_of {H : Hp} : ∀ {us : List V} {xs : List (List Nat × Tr)}, All2 (PP H) us (fsts xs) → All2 (PQ H) us xs
  | [], [], _ => .nil
  | u :: us, x :: xs, h => by
    have h' : All2 (PP H) (u :: us) (x.1 :: fsts xs) := h
    cases h' with
    | cons a b => exact .cons a (pq_of b)
  | [], _ :: _, h => by cases (show All2 (PP H) [] (_ :: _) from h)
  | _ :: _, [], h => by cases (show All2 (PP H) (_ :: _) [] from h)
theorem dpPP {K : PySem.W.Frag} {H : Hp} {a : Addr} {us : List V} {c : Tr} (w : wf c = true) (e : H a = some (.lst us)) (h : All2 (PP H) us (gp c [])) :
    Dp K H (.ref a) (.list (((wk c []).filter fun x => isH x.2).map fun x => PyData.tuple ((x.1.map Int.ofNat).map PyData.int))) := by
  rw [gp_wk c [] w] at h
  exact .lst (SqL.of e) (dpPaths (pq_of h))
theorem LP.kp {C a m : Addr} {vs ms : List V} {ts : List Tr} {H H' : Hp} (h : LP C a m vs ms ts H) (k : Kp H H') (ha : H' a = H a) (hm : H' m = H m) : LP C a m vs ms ts H' := ⟨ha.trans h.al, hm.trans h.ml, LTs.kp k _ _ h.lts, TOs.kp k _ _ h.tos⟩
def sp_law (K : PySem.W.Frag) : Sp := fun vs H Q _ => ∃ (a : Addr) (ns : List Int), vs = [.ref a] ∧ SqL K H a (ns.map V.int) ∧ ns.length ≤ 63 ∧ ∀ H', Q (.bl true) H'
section
variable {P : Program} {w : World} {K : PySem.W.Frag} {mg : Str → Option Value} {base : Heap}
theorem ok_lawF {fd : FuncData} (F : FunD K "law" "law" (defArgs s_law) (defBody s_law) (defScope s_law) [] [] (He.ga K "law") fd) (T : Tx K mg) (Z : Tc K mg) (I3 : Ti K) (W : Tw K) (Y : Ty K) (O : To K) (A1 : Ta K) (A2 : Th K) (J : Te P K mg) (J2 : Tb P K mg) : FnOk P w K mg base CX0 207 (He.ga K "law") fd ["_law_script"] (sp_law K) := by
  have G_law_draw : FnR P w K mg base CX0 1 (He.ga K "_law_draw") sp_draw := ok_draw T
  have G_law_pool_of : FnR P w K mg base CX0 1 (He.ga K "_law_pool_of") (sp_pool K) := ok_pool T
  have G_law_three : FnR P w K mg base CX0 205 (He.ga K "_law_three") sp_three := ok_three T G_law_draw
  have G_law_opened : FnR P w K mg base CX0 204 (He.ga K "_law_opened") sp_opened := ok_opened T G_law_draw
  have G_init : FnR P w K mg base CX0 1 (mT K "__init__") (sp_star (CT K)) := ok_init T Z
  have G_law_make : FnR P w K mg base CX0 100 (He.ga K "_law_make") (sp_made (CT K) 97) := ok_made T Z G_init 97
  have G_law_pairs : FnR P w K mg base CX0 204 (He.ga K "_law_pairs") (sp_pairs (CT K)) := ok_pairs T Z I3 W A1
  have G_and : FnR P w K mg base CX0 100 (mT K "__and__") (sp_and (CT K) 97) := ok_and T Z W A1 97
  have G_law_common : FnR P w K mg base CX0 98 (He.ga K "_law_common") (sp_common 97) := ok_common T 97
  have G_law_over : FnR P w K mg base CX0 98 (He.ga K "_law_over") (sp_over 97) := ok_over T 97
  have G_law_gaps : FnR P w K mg base CX0 98 (He.ga K "_law_gaps") (sp_paths1 gp 97) := ok_gaps T 97
  have G_law_told : FnR P w K mg base CX0 98 (He.ga K "_law_told") (sp_told 97) := ok_told T 97
  have G_law_is : FnR P w K mg base CX0 1 (He.ga K "_law_is") sp_is := ok_is T
  have G_law_good : FnR P w K mg base CX0 100 (He.ga K "_law_good") (sp_good (CT K) 97) := ok_good T Z I3 W G_law_is 97
  have G_law_covers : FnR P w K mg base CX0 203 (He.ga K "_law_covers") (sp_lcovers (CT K)) := ok_lcovers T Z A1
  have G_law_refilled : FnR P w K mg base CX0 101 (He.ga K "_law_refilled") (sp_ref (CT K)) := ok_ref T Z I3 W Y A2 J J2
  have G_eq : FnR P w K mg base CX0 2 (mT K "__eq__") (sp_cmp (CT K) fun p q => decide (p = q)) := ok_eq T Z W O
  obtain ⟨fc, GC, B_covers⟩ := ok_covers (P := P) (w := w) (base := base) T Z A1
  have G_covers : FnOk P w K mg base CX0 202 (mT K "covers") fc ["self", "other"] (sp_covers (CT K) 201) := GC 201
  obtain ⟨fh, G_holes, B_holes⟩ := ok_holes (P := P) (w := w) (base := base) T Z A2
  refine fnF0 F sc_law (fun vs H Q E h => ?_) (fun cdv A outer s H vs Q E hr h => ?_)
  · obtain ⟨a, ns, rfl, _⟩ := h
    rfl
  · obtain ⟨sa, ns, rfl, hs, hn, q⟩ := h
    refine ⟨_, (pss_cons (ps_set (i := 1) sc_law.nd rfl (.inl rfl) (pe_cr G_law_pool_of (hr.mono (by omega)) (by rfl) T.v_law_pool_of T.k_law_pool_of pass0 (pa_cons (pv 0) pa_nil)))
(pss_cons (ps_set (i := 2) sc_law.nd rfl (.inl rfl) (pe_cr G_law_three (hr.mono (by omega)) (by rfl) T.v_law_three T.k_law_three pass0 (pa_cons (pv 1) pa_nil)))
(pss_cons (ps_setLc (i := 3) (own := [("_law_tree", 7)]) (g := gName 7) rfl sc_law.nd rfl rfl (sw_true rfl rfl rfl (by decide +kernel)) (pi_list (pv 2)) (blkOk_by (own := [("_law_tree", 7)]) (N := N_law) (sc := defScope s_law) (by decide +kernel)) (fun _ _ _ _ _ => pg_name (i := 7) sc_law.nd rfl (.inl rfl)) (fun _ _ _ _ _ => pts_nil) (fun _ _ _ _ _ => (pe_cr G_law_make (hr.mono (by omega)) (by rfl) T.v_law_make T.k_law_make pass0 (pa_cons (pv 7) pa_nil))))
(pss_cons (ps_if (pt_not (pt_val (pe_cr G_law_pairs (hr.mono (by omega)) (by rfl) T.v_law_pairs T.k_law_pairs pass0 (pa_cons (pv 2) (pa_cons (pv 3) pa_nil)))))
(pss_one (ps_ret pe_bl))
pss_nil)
(pss_cons (ps_set (i := 4) sc_law.nd rfl (.inl rfl) (pe_cr G_law_common (hr.mono (by omega)) (by rfl) T.v_law_common T.k_law_common pass0 (pa_cons (pe_ix (r := rIxL K) ix_list (pv 2) pe_int (fun _ _ => rfl)) (pa_cons (pe_ix (r := rIxL K) ix_list (pv 2) pe_int (fun _ _ => rfl)) pa_nil))))
(pss_cons (ps_set (i := 5) sc_law.nd rfl (.inl rfl) (pe_cr G_law_opened (hr.mono (by omega)) (by rfl) T.v_law_opened T.k_law_opened pass0 (pa_cons (pv 1) (pa_cons (pv 4) pa_nil))))
(pss_cons (ps_set (i := 6) sc_law.nd rfl (.inl rfl) (pe_cr G_law_opened (hr.mono (by omega)) (by rfl) T.v_law_opened T.k_law_opened pass0 (pa_cons (pv 1) (pa_cons (pe_ix (r := rIxL K) ix_list (pv 2) pe_int (fun _ _ => rfl)) pa_nil))))
(pss_cons (ps_for PassesOwn.never rfl (pi_list (pe_lst (pa_cons (pv 5) (pa_cons (pv 6) pa_nil)))) (pg_name (i := 7) sc_law.nd rfl (.inl rfl))
(pss_cons (ps_set (i := 8) sc_law.nd rfl (.inl rfl) (pe_cr G_law_make (hr.mono (by omega)) (by rfl) T.v_law_make T.k_law_make pass0 (pa_cons (pv 7) pa_nil)))
(pss_cons (ps_for PassesOwn.never rfl (pi_range1 (by rfl) T.z_range (pa_cons pe_int pa_nil)) (pg_name (i := 9) sc_law.nd rfl (.inl rfl))
(pss_one (ps_if (pt_not (pt_val (pe_cr G_law_covers (hr.mono (by omega)) (by rfl) T.v_law_covers T.k_law_covers pass0 (pa_cons (pv 8) (pa_cons (pe_ix (r := rIxL K) ix_list (pv 3) (pv 9) (fun _ _ => rfl)) (pa_cons (pe_cr G_law_over (hr.mono (by omega)) (by rfl) T.v_law_over T.k_law_over pass0 (pa_cons (pv 7) (pa_cons (pe_ix (r := rIxL K) ix_list (pv 2) (pv 9) (fun _ _ => rfl)) pa_nil))) pa_nil))))))
(pss_one (ps_ret pe_bl))
pss_nil)))
(pss_cons (ps_set (i := 10) sc_law.nd rfl (.inl rfl) (pe_and (pe_meth (pv 8) Z.cl A1.m_covers G_covers (hr.mono (by omega)) B_covers .nil pass0 (pa_cons (pe_ix (r := rIxL K) ix_list (pv 3) pe_int (fun _ _ => rfl)) pa_nil)) (pe_one (pe_meth (pv 8) Z.cl A1.m_covers G_covers (hr.mono (by omega)) B_covers .nil pass0 (pa_cons (pe_ix (r := rIxL K) ix_list (pv 3) pe_int (fun _ _ => rfl)) pa_nil)))))
(pss_one (ps_if (pt_not (pt_val (pe_cr G_law_covers (hr.mono (by omega)) (by rfl) T.v_law_covers T.k_law_covers pass0 (pa_cons (pv 8) (pa_cons (pe_op (op_binT (op := .BitAnd) A1.sf A1.at_and A1.fn_and G_and (hr.mono (by omega)) (E := E0) pass0) (pe_ix (r := rIxL K) ix_list (pv 3) pe_int (fun _ _ => rfl)) (pe_ix (r := rIxL K) ix_list (pv 3) pe_int (fun _ _ => rfl))) (pa_cons (pv 10) pa_nil))))))
(pss_one (ps_ret pe_bl))
pss_nil))))))
(pss_cons (ps_set (i := 11) sc_law.nd rfl (.inl rfl) (pe_cr G_law_told (hr.mono (by omega)) (by rfl) T.v_law_told T.k_law_told pass0 (pa_cons (pe_cr G_law_common (hr.mono (by omega)) (by rfl) T.v_law_common T.k_law_common pass0 (pa_cons (pv 4) (pa_cons (pe_ix (r := rIxL K) ix_list (pv 2) pe_int (fun _ _ => rfl)) pa_nil))) pa_nil)))
(pss_cons (ps_set (i := 12) sc_law.nd rfl (.inl rfl) (pe_op (op_binT (op := .BitAnd) A1.sf A1.at_and A1.fn_and G_and (hr.mono (by omega)) (E := E0) pass0) (pe_op (op_binT (op := .BitAnd) A1.sf A1.at_and A1.fn_and G_and (hr.mono (by omega)) (E := E0) pass0) (pe_ix (r := rIxL K) ix_list (pv 3) pe_int (fun _ _ => rfl)) (pe_ix (r := rIxL K) ix_list (pv 3) pe_int (fun _ _ => rfl))) (pe_ix (r := rIxL K) ix_list (pv 3) pe_int (fun _ _ => rfl))))
(pss_cons (ps_set (i := 13) sc_law.nd rfl (.inl rfl) (pe_op (op_binT (op := .BitAnd) A1.sf A1.at_and A1.fn_and G_and (hr.mono (by omega)) (E := E0) pass0) (pe_ix (r := rIxL K) ix_list (pv 3) pe_int (fun _ _ => rfl)) (pe_op (op_binT (op := .BitAnd) A1.sf A1.at_and A1.fn_and G_and (hr.mono (by omega)) (E := E0) pass0) (pe_ix (r := rIxL K) ix_list (pv 3) pe_int (fun _ _ => rfl)) (pe_ix (r := rIxL K) ix_list (pv 3) pe_int (fun _ _ => rfl)))))
(pss_cons (ps_set (i := 14) sc_law.nd rfl (.inl rfl) (pe_op (op_binT (op := .BitAnd) A1.sf A1.at_and A1.fn_and G_and (hr.mono (by omega)) (E := E0) pass0) (pe_op (op_binT (op := .BitAnd) A1.sf A1.at_and A1.fn_and G_and (hr.mono (by omega)) (E := E0) pass0) (pe_ix (r := rIxL K) ix_list (pv 3) pe_int (fun _ _ => rfl)) (pe_ix (r := rIxL K) ix_list (pv 3) pe_int (fun _ _ => rfl))) (pe_ix (r := rIxL K) ix_list (pv 3) pe_int (fun _ _ => rfl))))
(pss_cons (ps_if (PW.pt (pw_or (pt_not (pt_val (pe_cr G_law_good (hr.mono (by omega)) (by rfl) T.v_law_good T.k_law_good pass0 (pa_cons (pv 12) (pa_cons (pv 11) pa_nil))))) (pw_or1 (pt_not (pt_val (pe_cr G_law_good (hr.mono (by omega)) (by rfl) T.v_law_good T.k_law_good pass0 (pa_cons (pv 13) (pa_cons (pv 11) pa_nil))))))))
(pss_one (ps_ret pe_bl))
pss_nil)
(pss_cons (ps_if (PW.pt (pw_or (pt_not (pt_val (pe_cr G_law_good (hr.mono (by omega)) (by rfl) T.v_law_good T.k_law_good pass0 (pa_cons (pv 14) (pa_cons (pv 11) pa_nil))))) (pw_or (pt_not (pt_cmpR (op_cmpT (op := .Eq) (fun _ _ => rfl) O.at_eq O.fn_eq G_eq (hr.mono (by omega)) (E := E0) pass0) (pv 12) (pv 13) (nomark _))) (pw_or1 (pt_not (pt_cmpR (op_cmpT (op := .Eq) (fun _ _ => rfl) O.at_eq O.fn_eq G_eq (hr.mono (by omega)) (E := E0) pass0) (pv 14) (pv 12) (nomark _)))))))
(pss_one (ps_ret pe_bl))
pss_nil)
(pss_cons (ps_set (i := 10) sc_law.nd rfl (.inl rfl) (pe_op (op_binT (op := .BitAnd) A1.sf A1.at_and A1.fn_and G_and (hr.mono (by omega)) (E := E0) pass0) (pe_ix (r := rIxL K) ix_list (pv 3) pe_int (fun _ _ => rfl)) (pe_ix (r := rIxL K) ix_list (pv 3) pe_int (fun _ _ => rfl))))
(pss_cons (ps_set (i := 15) sc_law.nd rfl (.inl rfl) (pe_cr G_law_gaps (hr.mono (by omega)) (by rfl) T.v_law_gaps T.k_law_gaps pass0 (pa_cons (pv 4) (pa_cons (pe_tup pa_nil) pa_nil))))
(pss_cons (ps_set (i := 16) sc_law.nd rfl (.inl rfl) (pe_meth0 (pv 10) Z.cl A2.m_holes G_holes (hr.mono (by omega)) B_holes .nil pass0))
(pss_cons (ps_if (PW.pt (pw_or (pt_not (pt_val (pe_callB call_isi (by rfl) T.z_isinstance (by decide +kernel) (pa_cons (pv 16) (pa_cons (pe_bltn (v := .ty "list") (by rfl) T.z_list (by decide +kernel) rfl) pa_nil))))) (pw_or1 (pt_cmpR (op_neD hr.units) (pv 16) (pv 15) (nomark _)))))
(pss_one (ps_ret pe_bl))
pss_nil)
(pss_cons (ps_for PassesOwn.never rfl (pi_range1 (by rfl) T.z_range (pa_cons pe_int pa_nil)) (pg_name (i := 9) sc_law.nd rfl (.inl rfl))
(pss_one (ps_if (pt_not (pt_val (pe_cr G_law_refilled (hr.mono (by omega)) (by rfl) T.v_law_refilled T.k_law_refilled pass0 (pa_cons (pe_ix (r := rIxL K) ix_list (pv 2) (pv 9) (fun _ _ => rfl)) (pa_cons (pe_ix (r := rIxL K) ix_list (pv 3) (pv 9) (fun _ _ => rfl)) (pa_cons (pv 10) (pa_cons (pv 15) pa_nil)))))))
(pss_one (ps_ret pe_bl))
pss_nil)))
(pss_cons (ps_expr (pe_bm PySem.F.plainAttrs_list PySem.F.slot_list_append PySem.F.type_list_append mt_append (pv 16) (pa_cons (pe_tup pa_nil) pa_nil)))
(pss_cons (ps_if (pt_cmpR (op_neD hr.units) (pe_meth0 (pv 10) Z.cl A2.m_holes G_holes (hr.mono (by omega)) B_holes .nil pass0) (pv 15) (nomark _))
(pss_one (ps_ret pe_bl))
pss_nil)
(pss_one (ps_ret (pe_and (pe_cr G_law_good (hr.mono (by omega)) (by rfl) T.v_law_good T.k_law_good pass0 (pa_cons (pv 10) (pa_cons (pe_cr G_law_told (hr.mono (by omega)) (by rfl) T.v_law_told T.k_law_told pass0 (pa_cons (pv 4) pa_nil)) pa_nil))) (pe_one (pe_cr G_law_pairs (hr.mono (by omega)) (by rfl) T.v_law_pairs T.k_law_pairs pass0 (pa_cons (pv 2) (pa_cons (pv 3) pa_nil)))))))))))))))))))))))))))), ?_⟩
    refine ⟨.ref sa, rfl, sa, ns, rfl, hs, hn, fun H1 p r s1 np nr P1 => ?_⟩
    refine ⟨.ref p, rfl, p, r, rfl, P1, fun H2 a v0 v1 v2 t0 t1 t2 d2 na e2 l0 l1 l2 w0 w1 w2 zz ll => ?_⟩
    have P2 := d2.pool
    have nPa : ¬ PR p r a := fun z => PoolAt.some P1 a z na
    have lts : LTs H2 [v0, v1, v2] [t0, t1, t2] := by
      rw [LTs, LTs, LTs, LTs]
      exact ⟨l0, l1, l2, trivial⟩
    have tbz : ∀ t ∈ [t0, t1, t2], sz t ≤ 96 := fun t ht => by
      rcases List.mem_cons.mp ht with rfl | ht
      · exact zz.1
      rcases List.mem_cons.mp ht with rfl | ht
      · exact zz.2.1
      rcases List.mem_cons.mp ht with rfl | ht
      · exact zz.2.2
      · cases ht
    have tbl : ∀ t ∈ [t0, t1, t2], lv t ≤ 19 := fun t ht => by
      rcases List.mem_cons.mp ht with rfl | ht
      · exact ll.1
      rcases List.mem_cons.mp ht with rfl | ht
      · exact ll.2.1
      rcases List.mem_cons.mp ht with rfl | ht
      · exact ll.2.2
      · cases ht
    have tb : TB [t0, t1, t2] := ⟨rfl, by rw [wfs, wfs, wfs, wfs, w0, w1, w2]; rfl, tbz, tbl⟩
    have z0 := zz.1
    -- the made ones
    refine ⟨.ref a, rfl, a, rfl, ⟨_, SqL.of e2⟩, fun m nm => ?_⟩
    refine lc_list (xs := [v0, v1, v2]) (fun i H4 => ∃ ys, H4 m = some (.lst ys) ∧ Same H2 H4 ∧ TOs (CT K) H4 ys ([t0, t1, t2].take i)) ?_ ?_ ?_ ?_
    · exact ⟨[], upd_same, Same.new nm, by rw [List.take_zero, TOs]; trivial⟩
    · rintro i H4 _ ⟨ys, _, s4, _⟩
      exact SqL.of (s4 _ _ e2)
    · rintro i x H4 hx ⟨ys, eD, s4, hy⟩
      obtain ⟨t, et, lt'⟩ := lts.get hx
      have mt := List.mem_of_getElem? et
      have zt := tb.sz t mt
      refine ⟨rfl, x, rfl, x, t, rfl, LT.kp (Same.kp s4) _ _ lt', wfs_mem tb.wfs mt, by omega, by omega, fun H5 v' s5 l5 => ?_⟩
      have eD5 := s5 _ _ eD
      have il : ys.length ≤ 1000 := by
        rw [hy.length, List.length_take]
        show min i 3 ≤ 1000
        omega
      have kk : Kp H5 (upd H5 m (.lst (ys ++ [v']))) := Kp.lst eD5
      refine ⟨ys, eD5, small1000 il, ys ++ [v'], upd_same, ?_, ?_⟩
      · intro b o e
        rw [upd_ne (ne_of_none e nm)]
        exact s5 _ _ (s4 _ _ e)
      · rw [take_get et]
        exact TOs.snoc (TO.kp kk _ _ l5) (TOs.kp ((Same.kp s5).trans kk) _ _ hy)
    rintro H3 ⟨ms, em, s3, hms⟩
    replace hms : TOs (CT K) H3 ms [t0, t1, t2] := hms
    have nPm : ¬ PR p r m := fun z => PoolAt.some P2 m z nm
    have lp3 : LP (CT K) a m [v0, v1, v2] ms [t0, t1, t2] H3 := ⟨s3 _ _ e2, em, LTs.kp (Same.kp s3) _ _ lts, hms⟩
    have z1 := zz.2.1
    have z2 := zz.2.2
    obtain ⟨m0, m1, m2, rfl⟩ : ∃ m0 m1 m2, ms = [m0, m1, m2] := by
      have := hms.length
      match ms, this with
      | [x, y, z], _ => exact ⟨x, y, z, rfl⟩
    -- the pairs, the common part, the opened ones
    refine ⟨.ref a, rfl, .ref m, rfl, a, m, _, _, _, rfl, lp3, tb, fun H4 s4 => ⟨true, rfl, iteF ?_⟩⟩
    have lp4 := lp3.same s4
    have P4 := (P2.keep s3).keep s4
    refine ⟨.ref a, rfl, a, _, 0, v0, rfl, rfl, SqL.of lp4.al, rfl, .ref a, rfl, a, _, 1, v1, rfl, rfl, SqL.of lp4.al, rfl, v0, v1, t0, t1, rfl, lp4.lt (i := 0) rfl rfl, lp4.lt (i := 1) rfl rfl, w0, w1, by omega, by omega, fun H5 cv s5 lc5 => ?_⟩
    have lp5 := lp4.same s5
    have P5 := P4.keep s5
    have wc := cm_wf t0 t1 w0 w1
    have zc := cm_sz t0 t1
    refine ⟨.ref p, rfl, cv, rfl, p, r, cv, _, rfl, P5, lc5, wc, by omega, fun H6 wv tw d6 lw6 ww zw => ?_⟩
    have kp6 := d6.kp P5
    have lp6 : LP (CT K) a m _ _ _ H6 := lp5.kp kp6 ((d6.frm _ _ nPa lp5.al).trans lp5.al.symm) ((d6.frm _ _ nPm lp5.ml).trans lp5.ml.symm)
    have lc6 := LT.kp kp6 _ _ lc5
    refine ⟨.ref p, rfl, .ref a, rfl, a, _, 0, v0, rfl, rfl, SqL.of lp6.al, rfl, p, r, v0, t0, rfl, d6.pool, lp6.lt (i := 0) rfl rfl, w0, by omega, fun H7 hv th d7 lh7 wh zh => ?_⟩
    have kp7 := d7.kp d6.pool
    have lp7 : LP (CT K) a m _ _ _ H7 := lp6.kp kp7 ((d7.frm _ _ nPa lp6.al).trans lp6.al.symm) ((d7.frm _ _ nPm lp6.ml).trans lp6.ml.symm)
    have lc7 := LT.kp kp7 _ _ lc6
    have lw7 := LT.kp kp7 _ _ lw6
    -- what covers
    refine ⟨wv, rfl, hv, rfl, szle, fun l nl => ?_⟩
    have s8 : Same H7 (upd H7 l (.lst [wv, hv])) := Same.new nl
    have l8 : upd H7 l (.lst [wv, hv]) l = some (.lst [wv, hv]) := upd_same
    generalize upd H7 l (.lst [wv, hv]) = H8 at s8 l8
    have lp8 := lp7.same s8
    have lc8 := LT.kp (Same.kp s8) _ _ lc7
    refine ⟨l, rfl, ⟨_, SqL.of l8⟩, for_list (xs := [wv, hv]) (fun i σ H9 => ∃ y7 y8 y9 y10, σ = [some (.ref sa), some (.ref p), some (.ref a), some (.ref m), some cv, some wv, some hv, y7, y8, y9, y10, none, none, none, none, none, none] ∧ Same H8 H9) ⟨_, _, _, _, rfl, Same.refl _⟩ ?_ ?_ ?_⟩
    · rintro i σ H9 _ ⟨y7, y8, y9, y10, _, s9⟩
      exact SqL.of (s9 _ _ l8)
    · rintro i x σ H9 hx ⟨y7, y8, y9, y10, rfl, s9⟩
      obtain ⟨t, lt, wt, zt⟩ : ∃ t, LT H8 x t ∧ wf t = true ∧ sz t ≤ 96 := by
        match i, hx with
        | 0, hx =>
          have e : wv = x := Option.some.inj hx
          subst e
          exact ⟨tw, LT.kp (Same.kp s8) _ _ lw7, ww, by omega⟩
        | 1, hx =>
          have e : hv = x := Option.some.inj hx
          subst e
          exact ⟨th, LT.kp (Same.kp s8) _ _ lh7, wh, by omega⟩
        | n + 2, hx => exact absurd hx (by simp)
      refine ⟨x, rfl, x, t, rfl, LT.kp (Same.kp s9) _ _ lt, wt, by omega, by omega, fun HA o sA toA => ?_⟩
      have s8A := s9.trans sA
      refine ⟨3, rfl, by decide, by decide, for_range (lo := 0) (n := 3) (fun k σ HB => ∃ y9 y10, σ = [some (.ref sa), some (.ref p), some (.ref a), some (.ref m), some cv, some wv, some hv, some x, some o, y9, y10, none, none, none, none, none, none] ∧ Same HA HB) ⟨_, _, rfl, Same.refl _⟩ ?_ ?_⟩
      · rintro k σ HB hk ⟨y9, y10, rfl, sB⟩
        have hk' : k < 3 := hk
        have e0 : ((0 : Int) + (k : Nat)) = (k : Nat) := by omega
        rw [e0]
        have lpB := lp8.same (s8A.trans sB)
        obtain ⟨vk, mk', tk, gv, gm, gt, wk', zk, lk⟩ := lpB.at tb hk'
        refine ⟨o, rfl, .ref m, rfl, .int k, rfl, m, _, k, _, rfl, rfl, SqL.of lpB.ml, atI_nat gm, x, rfl, .ref a, rfl, .int k, rfl, a, _, k, _, rfl, rfl, SqL.of lpB.al, atI_nat gv, x, vk, t, tk, rfl, LT.kp (Same.kp (s8A.trans sB)) _ _ lt, lpB.lt gv gt, wt, wk', by omega, by omega, ?_⟩
        exact ⟨o, mk', t, tk, rfl, TO.same sB toA, lpB.to gm gt, wt, wk', by omega, fun HC sC => ⟨true, rfl, iteF ⟨_, _, rfl, sB.trans sC⟩⟩⟩
      · rintro σ HB ⟨y9, y10, rfl, sB⟩
        have lpB := lp8.same (s8A.trans sB)
        have toB := TO.same sB toA
        obtain ⟨ao, do_, po, rfl, hao⟩ := toB.at
        have key := ov_cm t t0 t1 wt w0 w1
        obtain ⟨a0, d0, p0, rfl, ha0⟩ := (lpB.to (i := 0) (v := m0) rfl rfl).at
        obtain ⟨a1, d1, p1, rfl, ha1⟩ := (lpB.to (i := 1) (v := m1) rfl rfl).at
        have rest : ∀ HC b, Same HB HC → b = ov t (cm t0 t1) → (tIfS (tNot (tB (tCr (sp_lcovers (CT K)) E0 (tCons (tVar 8) (tCons (tOp (rBinT (CT K) (sp_and (CT K) 97) E0) (tOp (rIxL K) (tVar 3) (tC (.int 0))) (tOp (rIxL K) (tVar 3) (tC (.int 1)))) (tCons (tVar 10) tNil)))))) (tRet (tC (.bl false))) tNext)
            { nx := fun σ H9 => ∃ y7 y8 y9 y10, σ = [some (.ref sa), some (.ref p), some (.ref a), some (.ref m), some cv, some wv, some hv, y7, y8, y9, y10, none, none, none, none, none, none] ∧ Same H8 H9, rt := Q }
            [some (.ref sa), some (.ref p), some (.ref a), some (.ref m), some cv, some wv, some hv, some x, some (.ref ao), y9, some (.bl b), none, none, none, none, none, none] HC := fun HC b sC eb => by
          have lpC := lpB.same sC
          refine ⟨.ref ao, rfl, .ref m, rfl, m, _, 0, .ref a0, rfl, rfl, SqL.of lpC.ml, rfl, .ref m, rfl, m, _, 1, .ref a1, rfl, rfl, SqL.of lpC.ml, rfl, a0, d0, _, a1, d1, _, rfl, rfl, sC _ _ ha0, sC _ _ ha1, .ref a0, .ref a1, t0, t1, rfl, lpC.to (i := 0) rfl rfl, lpC.to (i := 1) rfl rfl, w0, w1, by omega, by omega, fun HD bo sD toD => ?_⟩
          subst eb
          exact ⟨_, rfl, .ref ao, bo, t, cm t0 t1, rfl, TO.same (sC.trans sD) toB, toD, wt, wc, by omega, fun HE sE => ⟨true, rfl, iteF ⟨_, _, _, _, rfl, s8A.trans (sB.trans (sC.trans (sD.trans sE)))⟩⟩⟩
        refine ⟨.ref ao, rfl, ao, do_, _, rfl, hao, by cases t; rfl, .ref m, rfl, m, _, 0, .ref a0, rfl, rfl, SqL.of lpB.ml, rfl, .ref ao, .ref a0, t, t0, rfl, toB, lpB.to (i := 0) rfl rfl, wt, w0, by omega, by omega, fun HC sC => ⟨_, rfl, ite2 (fun e => ?_) (fun e => ?_)⟩⟩
        · have lpC := lpB.same sC
          rw [e, Bool.true_and] at key
          exact ⟨.ref ao, rfl, ao, do_, _, rfl, sC _ _ hao, by cases t; rfl, .ref m, rfl, m, _, 1, .ref a1, rfl, rfl, SqL.of lpC.ml, rfl, .ref ao, .ref a1, t, t1, rfl, TO.same sC toB, lpC.to (i := 1) rfl rfl, wt, w1, by omega, by omega, fun HD sD => rest HD _ (sC.trans sD) key.symm⟩
        · rw [show ov t t0 = false from Bool.eq_false_iff.mpr e, Bool.false_and] at key
          exact rest HC _ sC key.symm
    rintro σ H9 ⟨y7, y8, y9, y10, rfl, s9⟩
    have lp9 := lp8.same s9
    have lc9 := LT.kp (Same.kp s9) _ _ lc8
    have lk : ∀ (c : Tr) (x : Addr), (tfs c x).lookup ("holes" : Str) = none := fun c x => by cases c; rfl
    obtain ⟨a0, d0, p0, rfl, ha0⟩ := (lp9.to (i := 0) (v := m0) rfl rfl).at
    obtain ⟨a1, d1, p1, rfl, ha1⟩ := (lp9.to (i := 1) (v := m1) rfl rfl).at
    obtain ⟨a2, d2', p2, rfl, ha2⟩ := (lp9.to (i := 2) (v := m2) rfl rfl).at
    have w12 := cm_wf t1 t2 w1 w2
    have w20 := cm_wf t2 t0 w2 w0
    have w3 := cm_wf (cm t0 t1) t2 wc w2
    have z12 := cm_sz t1 t2
    have z20 := cm_sz t2 t0
    have z3 := cm_sz (cm t0 t1) t2
    have eR : cm t0 (cm t1 t2) = cm (cm t0 t1) t2 := (cm_assoc t0 t1 t2 w0 w1 w2).symm
    have eT : cm (cm t2 t0) t1 = cm (cm t0 t1) t2 := by rw [cm_assoc t2 t0 t1 w2 w0 w1, cm_comm]
    -- three of them
    refine ⟨cv, rfl, .ref a, rfl, a, _, 2, v2, rfl, rfl, SqL.of lp9.al, rfl, cv, v2, cm t0 t1, t2, rfl, lc9, lp9.lt (i := 2) rfl rfl, wc, w2, by omega, by omega, fun HA c3 sA lA => ⟨c3, _, rfl, lA, w3, by omega, by omega, fun HB due sB duB => ?_⟩⟩
    have sAB := sA.trans sB
    have lpB := lp9.same sAB
    refine ⟨.ref m, rfl, m, _, 0, .ref a0, rfl, rfl, SqL.of lpB.ml, rfl, .ref m, rfl, m, _, 1, .ref a1, rfl, rfl, SqL.of lpB.ml, rfl, a0, d0, _, a1, d1, _, rfl, rfl, sAB _ _ ha0, sAB _ _ ha1, .ref a0, .ref a1, t0, t1, rfl, lpB.to (i := 0) rfl rfl, lpB.to (i := 1) rfl rfl, w0, w1, by omega, by omega, fun HC x sC toC => ?_⟩
    have sAC := sAB.trans sC
    have lpC := lp9.same sAC
    obtain ⟨ax, dx, px, rfl, hax⟩ := toC.at
    refine ⟨.ref m, rfl, m, _, 2, .ref a2, rfl, rfl, SqL.of lpC.ml, rfl, ax, dx, _, a2, d2', _, rfl, rfl, hax, sAC _ _ ha2, .ref ax, .ref a2, cm t0 t1, t2, rfl, toC, lpC.to (i := 2) rfl rfl, wc, w2, by omega, by omega, fun HD left sD toL => ?_⟩
    have sAD := sAC.trans sD
    have lpD := lp9.same sAD
    refine ⟨.ref m, rfl, m, _, 0, .ref a0, rfl, rfl, SqL.of lpD.ml, rfl, .ref m, rfl, m, _, 1, .ref a1, rfl, rfl, SqL.of lpD.ml, rfl, .ref m, rfl, m, _, 2, .ref a2, rfl, rfl, SqL.of lpD.ml, rfl, a1, d1, _, a2, d2', _, rfl, rfl, sAD _ _ ha1, sAD _ _ ha2, .ref a1, .ref a2, t1, t2, rfl, lpD.to (i := 1) rfl rfl, lpD.to (i := 2) rfl rfl, w1, w2, by omega, by omega, fun HE y sE toE => ?_⟩
    have sAE := sAD.trans sE
    have lpE := lp9.same sAE
    obtain ⟨ay, dy, py, rfl, hay⟩ := toE.at
    refine ⟨a0, d0, _, ay, dy, _, rfl, rfl, sAE _ _ ha0, hay, .ref a0, .ref ay, t0, cm t1 t2, rfl, lpE.to (i := 0) rfl rfl, toE, w0, w12, by omega, by omega, fun HF right sF toR => ?_⟩
    rw [eR] at toR
    have sAF := sAE.trans sF
    have lpF := lp9.same sAF
    refine ⟨.ref m, rfl, m, _, 2, .ref a2, rfl, rfl, SqL.of lpF.ml, rfl, .ref m, rfl, m, _, 0, .ref a0, rfl, rfl, SqL.of lpF.ml, rfl, a2, d2', _, a0, d0, _, rfl, rfl, sAF _ _ ha2, sAF _ _ ha0, .ref a2, .ref a0, t2, t0, rfl, lpF.to (i := 2) rfl rfl, lpF.to (i := 0) rfl rfl, w2, w0, by omega, by omega, fun HG z sG toG => ?_⟩
    have sAG := sAF.trans sG
    have lpG := lp9.same sAG
    obtain ⟨az, dz, pz, rfl, haz⟩ := toG.at
    refine ⟨.ref m, rfl, m, _, 1, .ref a1, rfl, rfl, SqL.of lpG.ml, rfl, az, dz, _, a1, d1, _, rfl, rfl, haz, sAG _ _ ha1, .ref az, .ref a1, cm t2 t0, t1, rfl, toG, lpG.to (i := 1) rfl rfl, w20, w1, by omega, by omega, fun HH turned sH toT => ?_⟩
    rw [eT] at toT
    have sDH := sE.trans (sF.trans (sG.trans sH))
    have sFH := sG.trans sH
    have duH := DU.same (sC.trans (sD.trans sDH)) duB
    replace toL := TO.same sDH toL
    replace toR := TO.same sFH toR
    have sAH := sAG.trans sH
    generalize cm (cm t0 t1) t2 = c3t at toL toR toT duH w3 z3
    obtain ⟨al, dl, pl, rfl, hal⟩ := toL.at
    obtain ⟨ar, dr, pr, rfl, har⟩ := toR.at
    obtain ⟨at', dt, pt', rfl, hat⟩ := toT.at
    refine ⟨.ref al, rfl, due, rfl, .ref al, due, c3t, _, rfl, toL, duH, w3, by omega, by omega, fun HI sI => ⟨true, rfl, iteF ?_⟩⟩
    refine ⟨.ref ar, rfl, due, rfl, .ref ar, due, c3t, _, rfl, TO.same sI toR, DU.same sI duH, w3, by omega, by omega, fun HJ sJ => ⟨true, rfl, iteF ?_⟩⟩
    have sIJ := sI.trans sJ
    refine ⟨.ref at', rfl, due, rfl, .ref at', due, c3t, _, rfl, TO.same sIJ toT, DU.same sIJ duH, w3, by omega, by omega, fun HK sK => ⟨true, rfl, iteF ?_⟩⟩
    have sIK := sIJ.trans sK
    have edc : decide (nt c3t = nt c3t) = true := decide_eq_true rfl
    refine ⟨.ref al, rfl, .ref ar, rfl, al, dl, _, ar, dr, _, rfl, rfl, sIK _ _ hal, sIK _ _ har, .ref al, .ref ar, c3t, c3t, rfl, TO.same sIK toL, TO.same sIK toR, fun HL sL => ⟨true, congrArg V.bl edc, iteF ?_⟩⟩
    have sIL := sIK.trans sL
    refine ⟨.ref at', rfl, .ref al, rfl, at', dt, _, al, dl, _, rfl, rfl, sIL _ _ hat, sIL _ _ hal, .ref at', .ref al, c3t, c3t, rfl, TO.same sIL toT, TO.same sIL toL, fun HM sM => ⟨true, congrArg V.bl edc, iteF ?_⟩⟩
    have sAM := sAH.trans (sIL.trans sM)
    have lpM := lp9.same sAM
    -- the gaps
    have z10 := cm_sz t1 t0
    refine ⟨.ref m, rfl, m, _, 1, .ref a1, rfl, rfl, SqL.of lpM.ml, rfl, .ref m, rfl, m, _, 0, .ref a0, rfl, rfl, SqL.of lpM.ml, rfl, a1, d1, _, a0, d0, _, rfl, rfl, sAM _ _ ha1, sAM _ _ ha0, .ref a1, .ref a0, t1, t0, rfl, lpM.to (i := 1) rfl rfl, lpM.to (i := 0) rfl rfl, w1, w0, by omega, by omega, fun HN both sN toN => ?_⟩
    rw [cm_comm t1 t0] at toN
    have sAN := sAM.trans sN
    have lcN := LT.kp (Same.kp sAN) _ _ lc9
    refine ⟨cv, rfl, szle, fun e ne => ⟨cv, e, cm t0 t1, [], rfl, LT.kp (Same.kp (Same.new ne)) _ _ lcN, upd_same, wc, by omega, (by show 0 + _ ≤ 1000; omega), fun HO g gs sO ng eg pg => ?_⟩⟩
    have sNO := (Same.new (o := .tup []) ne).trans sO
    have toO := TO.same sNO toN
    obtain ⟨ab, db, pb, rfl, hab⟩ := toO.at
    have sAO := sAN.trans sNO
    have lpO := lp9.same sAO
    refine ⟨.ref ab, rfl, ab, db, _, rfl, hab, lk _ _, .ref ab, cm t0 t1, rfl, toO, wc, by omega, fun HP f fs sP nf ef pf => ?_⟩
    have nfa : a ≠ f := ne_of_none lpO.al nf
    have nfm : m ≠ f := ne_of_none lpO.ml nf
    have nfg : g ≠ f := ne_of_none eg nf
    have lpP := lpO.same sP
    have egP := sP _ _ eg
    have pgP := pg.imp fun v p h => PP.same sP h
    have toP := TO.same sP toO
    have habP := sP _ _ hab
    have lcP := LT.kp (Same.kp (sNO.trans sP)) _ _ lcN
    refine ⟨.ref f, rfl, .ref f, .ty "list", _, _, _, rfl, .ty "list", .base (.lst ef), kit_ty (r := true) (by decide +kernel), true, rfl, iteF ?_⟩
    refine ⟨.ref f, rfl, .ref g, rfl, _, _, dpPP wc ef pf, dpPP wc egP pgP, shapedPaths _, shapedPaths _, false, ?_, iteF ?_⟩
    · rw [eqvPaths]
      rfl
    -- filled again
    refine ⟨2, rfl, by decide, by decide, for_range (lo := 0) (n := 2) (fun k σ HQ => ∃ y9, σ = [some (.ref sa), some (.ref p), some (.ref a), some (.ref m), some cv, some wv, some hv, y7, y8, y9, some (.ref ab), some due, some (.ref al), some (.ref ar), some (.ref at'), some (.ref g), some (.ref f)] ∧ Same HP HQ) ⟨_, rfl, Same.refl _⟩ ?_ ?_⟩
    · rintro k σ HQ hk ⟨y9', rfl, sQ⟩
      have hk' : k < 2 := hk
      have e0 : ((0 : Int) + (k : Nat)) = (k : Nat) := by omega
      rw [e0]
      have lpQ := lpP.same sQ
      obtain ⟨vk, mk', tk, gv, gm, gt, wk', zk, lk'⟩ := lpQ.at tb (show k < 3 by omega)
      have ok : ov (cm t0 t1) tk = true := by
        match k, hk', gt with
        | 0, _, gt =>
          have e : t0 = tk := Option.some.inj gt
          rw [← e]
          exact cm_ov t0 t1
        | 1, _, gt =>
          have e : t1 = tk := Option.some.inj gt
          rw [← e]
          exact cm_ov2 t0 t1
      refine ⟨.ref a, rfl, .int k, rfl, a, _, k, _, rfl, rfl, SqL.of lpQ.al, atI_nat gv, .ref m, rfl, .int k, rfl, m, _, k, _, rfl, rfl, SqL.of lpQ.ml, atI_nat gm, .ref ab, rfl, .ref g, rfl, vk, mk', .ref ab, g, gs, tk, cm t0 t1, rfl, lpQ.lt gv gt, lpQ.to gm gt, TO.same sQ toP, ok, wk', wc, by omega, by omega, sQ _ _ egP, pgP.imp fun v p h => PP.same sQ h, fun HR sR => ⟨true, rfl, iteF ⟨_, rfl, sQ.trans sR⟩⟩⟩
    rintro σ HQ ⟨y9', rfl, sQ⟩
    have efQ := sQ _ _ ef
    refine ⟨.ref f, rfl, .inl ⟨rfl, _, SqL.of efQ⟩, szle, fun u nu => ?_⟩
    have efU := Same.new (o := .tup []) nu _ _ efQ
    have fl : fs.length ≤ 1000 := by
      have h1 := gp_len (cm t0 t1) []
      rw [pf.len]
      omega
    refine ⟨f, fs, .ref u, rfl, rfl, efU, Nat.lt_of_le_of_lt fl (by decide), ?_⟩
    have kQ : Kp HP (upd (upd HQ u (.tup [])) f (.lst (fs ++ [.ref u]))) := (Same.kp (sQ.trans (Same.new nu))).trans (Kp.lst efU)
    have up : ∀ b o, b ≠ f → HP b = some o → upd (upd HQ u (.tup [])) f (.lst (fs ++ [.ref u])) b = some o := fun b o nb e => by
      rw [upd_ne nb]
      exact Same.new nu _ _ (sQ _ _ e)
    generalize upd (upd HQ u (.tup [])) f (.lst (fs ++ [.ref u])) = HS at kQ up
    have lpS : LP (CT K) a m _ _ _ HS := lpP.kp kQ ((up _ _ nfa lpP.al).trans lpP.al.symm) ((up _ _ nfm lpP.ml).trans lpP.ml.symm)
    have egS := up _ _ nfg egP
    have toS := TO.kp kQ _ _ toP
    have habS := kQ _ _ habP (fun _ z => nomatch z)
    have lcS := LT.kp kQ _ _ lcP
    have pgS : All2 (PP HS) gs (gp (cm t0 t1) []) := pgP.imp fun v p h => by
      obtain ⟨q', e', h'⟩ := h
      exact ⟨q', e', kQ _ _ h' (fun _ z => nomatch z)⟩
    refine ⟨.ref ab, rfl, ab, db, _, rfl, habS, lk _ _, .ref ab, cm t0 t1, rfl, toS, wc, by omega, fun HT f2 fs2 sT nf2 ef2 pf2 => ?_⟩
    refine ⟨.ref g, rfl, _, _, dpPP wc ef2 pf2, dpPP wc (sT _ _ egS) (pgS.imp fun v p h => PP.same sT h), shapedPaths _, shapedPaths _, false, ?_, iteF ?_⟩
    · rw [eqvPaths]
      rfl
    refine ⟨.ref ab, rfl, cv, rfl, cv, cm t0 t1, rfl, LT.kp (Same.kp sT) _ _ lcS, wc, by omega, by omega, fun HU d sU duU => ?_⟩
    refine ⟨.ref ab, d, cm t0 t1, _, rfl, TO.same (sT.trans sU) toS, duU, wc, by omega, by omega, fun HV sV => ⟨true, rfl, iteT ?_⟩⟩
    exact ⟨.ref a, rfl, .ref m, rfl, a, m, _, _, _, rfl, lpS.same (sT.trans (sU.trans sV)), tb, fun HW sW => q HW⟩
end
end TW

set_option maxHeartbeats 0
namespace TW
open PySem PySem.Spec PyProof.Rows L2
/-! ## the head: what the top has left, by names -/
def dd_is_big : He.DefD := ⟨("is_big", none), "is_big", "is_big", defArgs s_is_big, defBody s_is_big, defScope s_is_big, [], []⟩
def dd_name_at : He.DefD := ⟨("name_at", none), "name_at", "name_at", defArgs s_name_at, defBody s_name_at, defScope s_name_at, [], []⟩
def dd_is_hole : He.DefD := ⟨("is_hole", none), "is_hole", "is_hole", defArgs s_is_hole, defBody s_is_hole, defScope s_is_hole, [], []⟩
def dd_walked : He.DefD := ⟨("walked", none), "walked", "walked", defArgs s_walked, defBody s_walked, defScope s_walked, [], []⟩
def dd_law_pool_of : He.DefD := ⟨("_law_pool_of", none), "_law_pool_of", "_law_pool_of", defArgs s_law_pool_of, defBody s_law_pool_of, defScope s_law_pool_of, [], []⟩
def dd_law_draw : He.DefD := ⟨("_law_draw", none), "_law_draw", "_law_draw", defArgs s_law_draw, defBody s_law_draw, defScope s_law_draw, [], []⟩
def dd_law_name_of : He.DefD := ⟨("_law_name_of", none), "_law_name_of", "_law_name_of", defArgs s_law_name_of, defBody s_law_name_of, defScope s_law_name_of, [], []⟩
def dd_law_grow : He.DefD := ⟨("_law_grow", none), "_law_grow", "_law_grow", defArgs s_law_grow, defBody s_law_grow, defScope s_law_grow, [], []⟩
def dd_law_walk : He.DefD := ⟨("_law_walk", none), "_law_walk", "_law_walk", defArgs s_law_walk, defBody s_law_walk, defScope s_law_walk, [], []⟩
def dd_law_put : He.DefD := ⟨("_law_put", none), "_law_put", "_law_put", defArgs s_law_put, defBody s_law_put, defScope s_law_put, [], []⟩
def dd_law_spot : He.DefD := ⟨("_law_spot", none), "_law_spot", "_law_spot", defArgs s_law_spot, defBody s_law_spot, defScope s_law_spot, [], []⟩
def dd_law_changed : He.DefD := ⟨("_law_changed", none), "_law_changed", "_law_changed", defArgs s_law_changed, defBody s_law_changed, defScope s_law_changed, [], []⟩
def dd_law_opened : He.DefD := ⟨("_law_opened", none), "_law_opened", "_law_opened", defArgs s_law_opened, defBody s_law_opened, defScope s_law_opened, [], []⟩
def dd_law_three : He.DefD := ⟨("_law_three", none), "_law_three", "_law_three", defArgs s_law_three, defBody s_law_three, defScope s_law_three, [], []⟩
def dd_law_common : He.DefD := ⟨("_law_common", none), "_law_common", "_law_common", defArgs s_law_common, defBody s_law_common, defScope s_law_common, [], []⟩
def dd_law_over : He.DefD := ⟨("_law_over", none), "_law_over", "_law_over", defArgs s_law_over, defBody s_law_over, defScope s_law_over, [], []⟩
def dd_law_gaps : He.DefD := ⟨("_law_gaps", none), "_law_gaps", "_law_gaps", defArgs s_law_gaps, defBody s_law_gaps, defScope s_law_gaps, [], []⟩
def dd_law_make : He.DefD := ⟨("_law_make", none), "_law_make", "_law_make", defArgs s_law_make, defBody s_law_make, defScope s_law_make, [], []⟩
def dd_law_told : He.DefD := ⟨("_law_told", none), "_law_told", "_law_told", defArgs s_law_told, defBody s_law_told, defScope s_law_told, [], []⟩
def dd_law_is : He.DefD := ⟨("_law_is", none), "_law_is", "_law_is", defArgs s_law_is, defBody s_law_is, defScope s_law_is, [], []⟩
def dd_law_good : He.DefD := ⟨("_law_good", none), "_law_good", "_law_good", defArgs s_law_good, defBody s_law_good, defScope s_law_good, [], []⟩
def dd_law_covers : He.DefD := ⟨("_law_covers", none), "_law_covers", "_law_covers", defArgs s_law_covers, defBody s_law_covers, defScope s_law_covers, [], []⟩
def dd_law_filled : He.DefD := ⟨("_law_filled", none), "_law_filled", "_law_filled", defArgs s_law_filled, defBody s_law_filled, defScope s_law_filled, [], []⟩
def dd_law_miscounted : He.DefD := ⟨("_law_miscounted", none), "_law_miscounted", "_law_miscounted", defArgs s_law_miscounted, defBody s_law_miscounted, defScope s_law_miscounted, [], []⟩
def dd_law_pairs : He.DefD := ⟨("_law_pairs", none), "_law_pairs", "_law_pairs", defArgs s_law_pairs, defBody s_law_pairs, defScope s_law_pairs, [], []⟩
def dd_law_refilled : He.DefD := ⟨("_law_refilled", none), "_law_refilled", "_law_refilled", defArgs s_law_refilled, defBody s_law_refilled, defScope s_law_refilled, [], []⟩
def dd_law : He.DefD := ⟨("law", none), "law", "law", defArgs s_law, defBody s_law, defScope s_law, [], []⟩
def ddT_init : He.DefD := ⟨("Tree", some "__init__"), "__init__", "Tree.__init__", defArgs s_Tree_init, defBody s_Tree_init, defScope s_Tree_init, [], []⟩
def ddT_iter : He.DefD := ⟨("Tree", some "__iter__"), "__iter__", "Tree.__iter__", defArgs s_Tree_iter, defBody s_Tree_iter, defScope s_Tree_iter, [], []⟩
def ddT_paths : He.DefD := ⟨("Tree", some "paths"), "paths", "Tree.paths", defArgs s_Tree_paths, defBody s_Tree_paths, defScope s_Tree_paths, [], []⟩
def ddT_contains : He.DefD := ⟨("Tree", some "__contains__"), "__contains__", "Tree.__contains__", defArgs s_Tree_contains, defBody s_Tree_contains, defScope s_Tree_contains, [], []⟩
def ddT_getitem : He.DefD := ⟨("Tree", some "__getitem__"), "__getitem__", "Tree.__getitem__", defArgs s_Tree_getitem, defBody s_Tree_getitem, defScope s_Tree_getitem, [], []⟩
def ddT_lt : He.DefD := ⟨("Tree", some "__lt__"), "__lt__", "Tree.__lt__", defArgs s_Tree_lt, defBody s_Tree_lt, defScope s_Tree_lt, [], []⟩
def ddT_le : He.DefD := ⟨("Tree", some "__le__"), "__le__", "Tree.__le__", defArgs s_Tree_le, defBody s_Tree_le, defScope s_Tree_le, [], []⟩
def ddT_eq : He.DefD := ⟨("Tree", some "__eq__"), "__eq__", "Tree.__eq__", defArgs s_Tree_eq, defBody s_Tree_eq, defScope s_Tree_eq, [], []⟩
def ddT_place : He.DefD := ⟨("Tree", some "place"), "place", "Tree.place", defArgs s_Tree_place, defBody s_Tree_place, defScope s_Tree_place, [], []⟩
def ddT_and : He.DefD := ⟨("Tree", some "__and__"), "__and__", "Tree.__and__", defArgs s_Tree_and, defBody s_Tree_and, defScope s_Tree_and, [], []⟩
def ddT_covers : He.DefD := ⟨("Tree", some "covers"), "covers", "Tree.covers", defArgs s_Tree_covers, defBody s_Tree_covers, defScope s_Tree_covers, [], []⟩
def ddT_holes : He.DefD := ⟨("Tree", some "holes"), "holes", "Tree.holes", defArgs s_Tree_holes, defBody s_Tree_holes, defScope s_Tree_holes, [], []⟩
def ddT_filled : He.DefD := ⟨("Tree", some "filled"), "filled", "Tree.filled", defArgs s_Tree_filled, defBody s_Tree_filled, defScope s_Tree_filled, [], []⟩
def fnL : List He.DefD := ([dd_is_big, dd_name_at, dd_is_hole, dd_walked, dd_law_pool_of, dd_law_draw, dd_law_name_of, dd_law_grow, dd_law_walk, dd_law_put] : List He.DefD) ++ ([dd_law_spot, dd_law_changed, dd_law_opened, dd_law_three, dd_law_common, dd_law_over, dd_law_gaps, dd_law_make, dd_law_told, dd_law_is] : List He.DefD) ++ ([dd_law_good, dd_law_covers, dd_law_filled, dd_law_miscounted, dd_law_pairs, dd_law_refilled, dd_law, ddT_init, ddT_iter, ddT_paths] : List He.DefD) ++ ([ddT_contains, ddT_getitem, ddT_lt, ddT_le, ddT_eq, ddT_place, ddT_and, ddT_covers, ddT_holes, ddT_filled] : List He.DefD)
def faL : List He.Fa := ([.glo "is_big", .glo "name_at", .glo "is_hole", .glo "walked", .glo "_law_pool_of", .glo "_law_draw", .glo "_law_name_of", .glo "_law_grow", .glo "_law_walk", .glo "_law_put"] : List He.Fa) ++ ([.glo "_law_spot", .glo "_law_changed", .glo "_law_opened", .glo "_law_three", .glo "_law_common", .glo "_law_over", .glo "_law_gaps", .glo "_law_make", .glo "_law_told", .glo "_law_is"] : List He.Fa) ++ ([.glo "_law_good", .glo "_law_covers", .glo "_law_filled", .glo "_law_miscounted", .glo "_law_pairs", .glo "_law_refilled", .glo "law", .free "abs", .free "int", .free "len"] : List He.Fa) ++ ([.free "range", .free "sum", .free "max", .free "all", .free "isinstance", .free "tuple", .free "list", .free "iter", .free "bool", .free "ValueError"] : List He.Fa) ++ ([.free "zip", .free "super", .glo "Tree", .glo "WorkError", .glo "BadTerm", .glo "NoPlace", .glo "BadCount", .cls "Tree", .mkr "Tree", .noat "Tree" "name"] : List He.Fa) ++ ([.noat "Tree" "parts", .noat "Tree" "size", .noat "Tree" "levels", .noat "Tree" "term", .meth "Tree" "__iter__", .meth "Tree" "paths", .meth "Tree" "__contains__", .meth "Tree" "__getitem__", .meth "Tree" "__lt__", .meth "Tree" "__le__"] : List He.Fa) ++ ([.meth "Tree" "__eq__", .meth "Tree" "place", .meth "Tree" "__and__", .meth "Tree" "covers", .meth "Tree" "holes", .meth "Tree" "filled"] : List He.Fa)
abbrev P0 : Program := (PySem.Challenge.rw_treeworks_k01_common_part).prog
/-! ### a function by its address -/
abbrev FnA : Type := Option (Str × Str × Arguments × FuncBody × Scope × Addr × List Str × Value × Value × Addr)
def fnA (K : PySem.W.Frag) (a : Addr) : FnA := match K.lookup a with
  | some ⟨_, _, .func fd, _⟩ => some (fd.name, fd.qualname, fd.params, fd.body, fd.scope, fd.globals, fd.closure.map (·.1), fd.defaults, fd.kwdefaults, fd.builtins)
  | _ => none
def cdB (K : PySem.W.Frag) (a : Addr) (q : Str) : Bool := PySem.W.keepIn K (.ref a) && (match K.lookup a with
  | some ⟨_, _, .func fd, _⟩ => PySem.W.codeIn K fd.code q
  | _ => false)
theorem fnA_ok {K : PySem.W.Frag} {a : Addr} {x q : Str} {st : Stmt} (e : fnA K a = some (x, q, defArgs st, .stmts (defBody st), defScope st, mainGlobals, [], .none, .none, builtinsNs)) (c : cdB K a q = true) : DefAt K x q st a := by
  obtain ⟨kp, c2⟩ := He.ba c
  unfold fnA at e
  cases h : K.lookup a with
  | none =>
    rw [h] at c2
    cases c2
  | some o =>
    obtain ⟨oc, od, dt, osl⟩ := o
    rw [h] at c2 e
    cases dt with
    | func fd =>
      obtain ⟨n1, n2, n3, n4, n5, n6, n7, n8, n9, n10, n11, n12, n13, n14, n15⟩ := fd
      have e2 : (some (n1, n2, n3, n4, n5, n6, n7.map (·.1), n8, n9, n15) : FnA) = some (x, q, defArgs st, .stmts (defBody st), defScope st, mainGlobals, [], .none, .none, builtinsNs) := e
      simp only [Option.some.injEq, Prod.mk.injEq] at e2
      obtain ⟨h1, h2, h3, h4, h5, h6, h7, h8, h9, h10⟩ := e2
      have h7' := List.map_eq_nil_iff.mp h7
      subst h1 h2 h3 h4 h5 h6 h7' h8 h9 h10
      exact ⟨_, ⟨oc, od, .none, .none, n10, n11, n12, n13, n14, osl, rfl, h, c2, .inl ⟨rfl, rfl⟩, .inl rfl⟩, kp⟩
    | _ => cases c2
/-! ### the errors' classes -/
def errCB (K : PySem.W.Frag) (C : Addr) : Bool := match K.lookup C with
  | some ⟨.type "type", _, .cls cd, sl⟩ => (match cd.mro, sl.toList with
    | .ref C' :: bm, [_, _, _, _, some (.builtin n), _] => C' == C && (n == "ValueError.__new__" && (!cd.hasDel && (cd.hasDict && PySem.HandSPX.refsVE bm)))
    | _, _ => false)
  | _ => false
theorem errCB_ok {K : PySem.W.Frag} {C : Addr} (q : errCB K C = true) : ∃ nm q N bs bm sn sub ab col dd k0 k1 k2 k3 k5, K.lookup C = some (excClassObj nm q C N bs bm true sn sub ab col dd k0 k1 k2 k3 k5 "ValueError.__new__") ∧ PySem.HandSPX.refsVE bm = true := by
  unfold errCB at q
  split at q
  · rename_i dd cd sl ho
    split at q
    · rename_i C' bm k0 k1 k2 k3 n k5 hm hs
      obtain ⟨q1, q⟩ := He.ba q
      obtain ⟨q2, q⟩ := He.ba q
      obtain ⟨q3, q⟩ := He.ba q
      obtain ⟨q4, q5⟩ := He.ba q
      have e1 := beq_iff_eq.mp q1
      have e2 := beq_iff_eq.mp q2
      subst e1 e2
      obtain ⟨nm, bs, mro, ns, qn, hd, sn, sub, ab, col, del⟩ := cd
      dsimp only at hm q3 q4
      have q3' : del = false := by
        cases del with
        | false => rfl
        | true => cases q3
      subst hm q3' q4
      have hsl : sl = #[k0, k1, k2, k3, some (.builtin "ValueError.__new__"), k5] := by
        obtain ⟨l⟩ := sl
        simp only at hs
        rw [hs]
      subst hsl
      exact ⟨nm, qn, ns, bs, bm, sn, sub, ab, col, dd, k0, k1, k2, k3, k5, ho, q5⟩
    · cases q
  · cases q
def oB (a b : Option Bool) : Bool := decide (a = b)
theorem oB_ok {a b : Option Bool} (h : oB a b = true) : a = b := of_decide_eq_true h
def oV (a b : Option Value) : Bool := decide (a = b)
theorem oV_ok {a b : Option Value} (h : oV a b = true) : a = b := of_decide_eq_true h
/-- the code of a closed-over def: its file; the cell -/
def clB (K : PySem.W.Frag) (a C : Addr) (q : Str) : Bool := match K.lookup a with
  | some ⟨_, _, .func fd, _⟩ => (match fd.code, fd.closure with
    | .ref cda, [(_, cc)] => PySem.W.codeIn K (.ref cda) q && ((match K.lookup cc with
        | some ⟨_, _, .cell (some (.ref D)), _⟩ => D == C
        | _ => false) && (match K.lookup cda with
        | some ⟨_, _, .fields vs, _⟩ => (match (vs[2]? : Option Value) with
          | some (.str file _) => (P0.main.file : Str) == file
          | _ => false)
        | _ => false))
    | _, _ => false)
  | _ => false
def errB (K : PySem.W.Frag) (C fI : Addr) (q f : Str) : Bool :=
  errCB K C && (He.eqO (PySem.W.findIn K (.ref C) "__setattr__") (some (some (.builtin "object.__setattr__"))) && (He.eqO (PySem.W.findIn K (.ref C) f) (some none) && (He.eqO (PySem.W.findIn K (.ref C) "__init__") (some (some (.ref fI))) &&
  (oV (PySem.W.typeIn K (.ref fI)) (some (.type "function")) && (PySem.W.keepIn K (.ref C) && (oB (PySem.W.subIn K (.ref C) (.type "BaseException")) (some true) && (oB (PySem.W.subIn K (.ref C) (.type "ValueError")) (some true) &&
  (oV (PySem.W.typeIn K (.ref C)) (some (.type "type")) && (He.eqO (PySem.W.ks_superIn K C C "__init__") (some (some (.builtin "ValueError.__init__"))) && (oB (PySem.W.mroIn K C (.ref C)) (some true) && (He.eqO (PySem.W.nsIn K cStatics "thirdparty.any") (some none) && clB K fI C q)))))))))))

theorem err_ok {K : PySem.W.Frag} {mg : Str → Option Value} {C fI : Addr} {q f msg : Str} {st : Stmt} (hsup : mg "super" = none) (c : errB K C fI q f = true)
    (e : fnA K fI = some (("__init__" : Str), q, defArgs st, FuncBody.stmts (defBody st), defScope st, mainGlobals, (["__class__"] : List Str), Value.none, Value.none, builtinsNs))
    (ha : ∃ p1 p2, defArgs st = PySem.TWX.eA f p1 p2) (hb : ∃ j p0 p1 p2 p3 p4 p5 q1 q2 q3 q4, defBody st = PySem.TWX.eB f msg j p0 p1 p2 p3 p4 p5 q1 q2 q3 q4 ∧ (p2.endLine == p4.line) = true) (hs : defScope st = PySem.TWX.eS f) : PySem.TWX.Err P0 K mg C fI q f msg := by
  obtain ⟨c1, c⟩ := He.ba c
  obtain ⟨c2, c⟩ := He.ba c
  obtain ⟨c3, c⟩ := He.ba c
  obtain ⟨c4, c⟩ := He.ba c
  obtain ⟨c5, c⟩ := He.ba c
  obtain ⟨c6, c⟩ := He.ba c
  obtain ⟨c7, c⟩ := He.ba c
  obtain ⟨c8, c⟩ := He.ba c
  obtain ⟨c9, c⟩ := He.ba c
  obtain ⟨c10, c⟩ := He.ba c
  obtain ⟨c11, c⟩ := He.ba c
  obtain ⟨c12, c13⟩ := He.ba c
  refine ⟨errCB_ok c1, He.eqO_ok c2, He.eqO_ok c3, He.eqO_ok c4, oV_ok c5, c6, oB_ok c7, oB_ok c8, oV_ok c9, He.eqO_ok c10, oB_ok c11, He.eqO_ok c12, hsup, by kernel_rfl, ?_⟩
  obtain ⟨a1, a2, ha⟩ := ha
  obtain ⟨j, p0, p1, p2, p3, p4, p5, q1, q2, q3, q4, hb, hline⟩ := hb
  unfold fnA at e
  unfold clB at c13
  cases h : K.lookup fI with
  | none =>
    rw [h] at c13
    cases c13
  | some o =>
    obtain ⟨oc, od, dt, osl⟩ := o
    rw [h] at c13 e
    cases dt with
    | func fd =>
      obtain ⟨n1, n2, n3, n4, n5, n6, n7, n8, n9, n10, n11, n12, n13, n14, n15⟩ := fd
      have e2 : (some (n1, n2, n3, n4, n5, n6, n7.map (·.1), n8, n9, n15) : FnA) = some (("__init__" : Str), q, defArgs st, FuncBody.stmts (defBody st), defScope st, mainGlobals, (["__class__"] : List Str), Value.none, Value.none, builtinsNs) := e
      simp only [Option.some.injEq, Prod.mk.injEq] at e2
      obtain ⟨h1, h2, h3, h4, h5, h6, h7, h8, h9, h10⟩ := e2
      rw [ha] at h3
      rw [hb] at h4
      rw [hs] at h5
      subst h1 h2 h3 h4 h5 h6 h8 h9 h10
      cases n13 with
      | ref cda =>
        cases n7 with
        | nil => cases c13
        | cons x r =>
          cases r with
          | cons y r => cases c13
          | nil =>
            obtain ⟨nm, cc⟩ := x
            obtain ⟨d1, d⟩ := He.ba c13
            obtain ⟨d2, d3⟩ := He.ba d
            have h7' : nm = ("__class__" : Str) := (List.cons.inj (show [nm] = [("__class__" : Str)] from h7)).1
            subst h7'
            split at d2
            · rename_i cl cld D csl hcell
              have eD := beq_iff_eq.mp d2
              subst eD
              split at d3
              · rename_i ccl cdd vs ccs hcode
                split at d3
                · rename_i file tf hvs
                  exact ⟨oc, od, n10, n11, n12, n14, osl, cda, cc, j, a1, a2, p0, p1, p2, p3, p4, p5, q1, q2, q3, q4, rfl, d1, ⟨cl, cld, csl, hcell⟩, ccl, cdd, vs, ccs, file, tf, hcode, hvs, d3, hline⟩
                · cases d3
              · cases d3
            · cases d2
      | _ => cases c13
    | _ => cases c13
def excB (K : PySem.W.Frag) (C : Addr) : Bool := L2.xfB K C && (He.eqO (PySem.W.findIn K (.ref C) "__class__") (some (some (.builtin "object.__class__"))) && (He.eqO (PySem.W.specialIn K (.builtin "object.__class__") "__get__") (some (some (.builtin "getset_descriptor.__get__"))) &&
  (oB (PySem.W.takesIn K (.builtin "object.__class__")) (some true) && oB (PySem.W.mroIn K C (.type "object")) (some true))))
theorem excB_ok {K : PySem.W.Frag} {C : Addr} (c : excB K C = true) : XfC K C ∧ ExcC K C := by
  obtain ⟨c1, c⟩ := He.ba c
  obtain ⟨c2, c⟩ := He.ba c
  obtain ⟨c3, c⟩ := He.ba c
  obtain ⟨c4, c5⟩ := He.ba c
  have x := L2.xfB_ok c1
  exact ⟨x, ⟨x.ga, x.gg, x.exC, x.hdC, He.eqO_ok c2, He.eqO_ok c3, oB_ok c4, oB_ok c5⟩⟩
/-! ### what else is asked of the written part -/
def propB (K : PySem.W.Frag) (C : Addr) (f : Str) (p g : Addr) : Bool := He.eqO (PySem.W.findIn K (.ref C) f) (some (some (.ref p))) && (He.eqO (PySem.W.specialIn K (.ref p) "__get__") (some (some (.builtin "property.__get__"))) && (oB (PySem.W.takesIn K (.ref p)) (some true) &&
  (match PySem.W.recIn K p "property" with
  | some (.ref g' :: _) => g' == g
  | _ => false)))
theorem propB_ok {K : PySem.W.Frag} {C : Addr} {f : Str} {p g : Addr} (c : propB K C f p g = true) : PropOf K C f p g := by
  obtain ⟨c1, c⟩ := He.ba c
  obtain ⟨c2, c⟩ := He.ba c
  obtain ⟨c3, c4⟩ := He.ba c
  refine ⟨He.eqO_ok c1, He.eqO_ok c2, oB_ok c3, ?_⟩
  split at c4
  · rename_i g' rest h
    rw [beq_iff_eq.mp c4] at h
    exact ⟨rest, h⟩
  · cases c4
def fiV (K : PySem.W.Frag) (C : Addr) (f : Str) (i : Int) : Bool := match PySem.W.findCls K (.ref C) (.type "type") f with
  | some (.val (.int j _)) => decide (j = i)
  | _ => false
theorem fiV_ok {K : PySem.W.Frag} {C : Addr} {f : Str} {i : Int} (c : fiV K C f i = true) : ∃ u, ClX.CVal K C (.type "type") f (.int i) u := by
  unfold fiV at c
  split at c
  · rename_i j t h
    have e := of_decide_eq_true c
    subst e
    exact ⟨_, h, ⟨t, rfl⟩⟩
  · cases c
def cmB (K : PySem.W.Frag) (C : Addr) (m : Str) (p g : Addr) : Bool := (match PySem.W.findCls K (.ref C) (.type "type") m with
  | some (.get (.builtin b) (.ref p') .none (.ref C')) => b == "classmethod.__get__" && (p' == p && C' == C)
  | _ => false) && ((match PySem.W.recIn K p "classmethod" with
  | some (.ref g' :: _) => g' == g
  | _ => false) && PySem.W.fnIn K g)
theorem cmB_ok {K : PySem.W.Frag} {C : Addr} {m : Str} {p g : Addr} (c : cmB K C m p g = true) : ClX.CMet K C (.type "type") m p g := by
  obtain ⟨c1, c⟩ := He.ba c
  obtain ⟨c2, c3⟩ := He.ba c
  refine ⟨?_, ?_, c3⟩
  · split at c1
    · rename_i b p' C' h
      obtain ⟨d1, d⟩ := He.ba c1
      obtain ⟨d2, d3⟩ := He.ba d
      rw [h, beq_iff_eq.mp d1, beq_iff_eq.mp d2, beq_iff_eq.mp d3]
    · cases c1
  · split at c2
    · rename_i g' rest h
      rw [beq_iff_eq.mp c2] at h
      exact ⟨rest, h⟩
    · cases c2
def exL (K : PySem.W.Frag) : List Bool := [
  propB K (CT K) "whole" (mT K "whole") (gW K), cdB K (gW K) "Tree.whole",
  He.eqO (PySem.W.findIn K (.ref (CT K)) "__class__") (some (some (.builtin "object.__class__"))), He.eqO (PySem.W.specialIn K (.builtin "object.__class__") "__get__") (some (some (.builtin "getset_descriptor.__get__"))),
  oB (PySem.W.takesIn K (.builtin "object.__class__")) (some true), oB (PySem.W.mroIn K (CT K) (.type "object")) (some true),
  PySem.W.fnIn K (mT K "__getitem__"), PySem.W.noSeq K (CT K),
  errB K (CN K) (He.ma K (CN K) "__init__") "NoPlace.__init__" "path", errB K (CB K) (He.ma K (CB K) "__init__") "BadTerm.__init__" "term", excB K (CN K), excB K (CB K),
  oB (PySem.W.exmOne K (.ref (CN K)) (.ref (CN K))) (some true), oB (PySem.W.exmOne K (.ref (CB K)) (.ref (CB K))) (some true),
  oB (PySem.W.kitOne K (.ref (CN K)) (.ref (CW K))) (some true), oB (PySem.W.kitOne K (.ref (CN K)) (.type "ValueError")) (some true), oB (PySem.W.kitOne K (.ref (CN K)) (.ref (CB K))) (some false),
  oB (PySem.W.kitOne K (.ref (CB K)) (.ref (CW K))) (some true), oB (PySem.W.kitOne K (.ref (CB K)) (.type "ValueError")) (some true), oB (PySem.W.kitOne K (.ref (CB K)) (.ref (CN K))) (some false),
  errB K (CC K) (He.ma K (CC K) "__init__") "BadCount.__init__" "count", excB K (CC K), oB (PySem.W.exmOne K (.ref (CC K)) (.ref (CC K))) (some true), oB (PySem.W.kitOne K (.ref (CC K)) (.ref (CW K))) (some true), oB (PySem.W.kitOne K (.ref (CC K)) (.ref (CN K))) (some false),
  PySem.W.selfFirst K (CT K)]
abbrev s_Cnt : Stmt := inClass (top 5) 0
abbrev s_Bad : Stmt := inClass (top 3) 0
abbrev s_No : Stmt := inClass (top 4) 0
abbrev AlZ : Type := He.AlD × Bool × List FnA
def obsZ (K : PySem.W.Frag) : AlZ := (He.obsD faL fnL K, (exL K).all id, [fnA K (gW K), fnA K (He.ma K (CC K) "__init__"), fnA K (He.ma K (CN K) "__init__"), fnA K (He.ma K (CB K) "__init__")])
abbrev vW : FnA := some ("whole", "Tree.whole", defArgs s_Tree_whole, .stmts (defBody s_Tree_whole), defScope s_Tree_whole, mainGlobals, [], .none, .none, builtinsNs)
abbrev vC : FnA := some ("__init__", "BadCount.__init__", defArgs s_Cnt, .stmts (defBody s_Cnt), defScope s_Cnt, mainGlobals, ["__class__"], .none, .none, builtinsNs)
abbrev vN : FnA := some ("__init__", "NoPlace.__init__", defArgs s_No, .stmts (defBody s_No), defScope s_No, mainGlobals, ["__class__"], .none, .none, builtinsNs)
abbrev vB : FnA := some ("__init__", "BadTerm.__init__", defArgs s_Bad, .stmts (defBody s_Bad), defScope s_Bad, mainGlobals, ["__class__"], .none, .none, builtinsNs)
def valZ : AlZ := (He.valD fnL, true, [vW, vC, vN, vB])
def obsZG (g : Addr → Option Obj) : AlZ := obsZ (He.frG g (cStatics :: He.asD g 5))
def hkZ : PySem.W.Hook where
  α := AlZ
  obs := fun s => obsZG s.heap.get?
  val := fun _ => valZ
  says := fun _ h => ∃ K : PySem.W.Frag, K.In h ∧ obsZ K = valZ
  of := fun _ _ e => ⟨_, He.frG_in, e⟩
  keeps := fun _ _ _ ⟨K, hK, c⟩ k => ⟨K, PySem.W.Frag.In.keeps hK k, c⟩
abbrev R0 : PySem.W.OpenRow := PySem.W.OpenLaw.row PySem.Challenge.rw_treeworks_k01_common_part
def obZ (s : PySem.W.SharedT) : AlZ := obsZG (HandSHeadRun.getT s)
theorem obZ_eq (s : PySem.W.SharedT) : obZ s = hkZ.obs s.abs := by
  have e : HandSHeadRun.getT s = s.abs.heap.get? := funext (HandSHeadRun.getT_eq s)
  show obsZG (HandSHeadRun.getT s) = obsZG s.abs.heap.get?
  rw [e]
def looseL : List PySem.Str := (["_wall", "WorkError", "BadTerm", "NoPlace", "BadCount", "CAPITALS", "SMALL_LETTERS", "DIGITS", "NAME_CHARACTERS", "LONGEST_NAME", "MOST_PARTS", "is_big"] : List PySem.Str) ++ (["name_at", "Tree", "is_hole", "walked", "_law_pool_of", "_law_draw", "_law_name_of", "_law_grow", "_law_walk", "_law_put", "_law_spot", "_law_changed"] : List PySem.Str) ++ (["_law_opened", "_law_three", "_law_common", "_law_over", "_law_gaps", "_law_make", "_law_told", "_law_is", "_law_good", "_law_covers", "_law_filled", "_law_miscounted"] : List PySem.Str) ++ (["_law_pairs", "_law_refilled"] : List PySem.Str)
theorem run0 (w : World) : HandSHeadRun.RunEq R0 (PySem.W.view R0.prog [41]) hkZ obZ 6000 looseL w := by
  intro os
  kernel_rfl

section
variable {K : PySem.W.Frag} {h : Heap} {mg : Str → Option Value}
theorem mk_Tx (X : K.In h) (G : h.Ns mainGlobals mg) (c : He.SaysD faL fnL K) : Tx K mg where
  d_is_big := (c.def_ 0 (d := dd_is_big) rfl)
  v_is_big := He.glo_ok X G (c.fact 0 (f := .glo "is_big") rfl)
  k_is_big := by obtain ⟨_, F⟩ := (c.def_ 0 (d := dd_is_big) rfl); exact F.kp
  d_name_at := (c.def_ 1 (d := dd_name_at) rfl)
  v_name_at := He.glo_ok X G (c.fact 1 (f := .glo "name_at") rfl)
  k_name_at := by obtain ⟨_, F⟩ := (c.def_ 1 (d := dd_name_at) rfl); exact F.kp
  d_is_hole := (c.def_ 2 (d := dd_is_hole) rfl)
  v_is_hole := He.glo_ok X G (c.fact 2 (f := .glo "is_hole") rfl)
  k_is_hole := by obtain ⟨_, F⟩ := (c.def_ 2 (d := dd_is_hole) rfl); exact F.kp
  d_walked := (c.def_ 3 (d := dd_walked) rfl)
  v_walked := He.glo_ok X G (c.fact 3 (f := .glo "walked") rfl)
  k_walked := by obtain ⟨_, F⟩ := (c.def_ 3 (d := dd_walked) rfl); exact F.kp
  d_law_pool_of := (c.def_ 4 (d := dd_law_pool_of) rfl)
  v_law_pool_of := He.glo_ok X G (c.fact 4 (f := .glo "_law_pool_of") rfl)
  k_law_pool_of := by obtain ⟨_, F⟩ := (c.def_ 4 (d := dd_law_pool_of) rfl); exact F.kp
  d_law_draw := (c.def_ 5 (d := dd_law_draw) rfl)
  v_law_draw := He.glo_ok X G (c.fact 5 (f := .glo "_law_draw") rfl)
  k_law_draw := by obtain ⟨_, F⟩ := (c.def_ 5 (d := dd_law_draw) rfl); exact F.kp
  d_law_name_of := (c.def_ 6 (d := dd_law_name_of) rfl)
  v_law_name_of := He.glo_ok X G (c.fact 6 (f := .glo "_law_name_of") rfl)
  k_law_name_of := by obtain ⟨_, F⟩ := (c.def_ 6 (d := dd_law_name_of) rfl); exact F.kp
  d_law_grow := (c.def_ 7 (d := dd_law_grow) rfl)
  v_law_grow := He.glo_ok X G (c.fact 7 (f := .glo "_law_grow") rfl)
  k_law_grow := by obtain ⟨_, F⟩ := (c.def_ 7 (d := dd_law_grow) rfl); exact F.kp
  d_law_walk := (c.def_ 8 (d := dd_law_walk) rfl)
  v_law_walk := He.glo_ok X G (c.fact 8 (f := .glo "_law_walk") rfl)
  k_law_walk := by obtain ⟨_, F⟩ := (c.def_ 8 (d := dd_law_walk) rfl); exact F.kp
  d_law_put := (c.def_ 9 (d := dd_law_put) rfl)
  v_law_put := He.glo_ok X G (c.fact 9 (f := .glo "_law_put") rfl)
  k_law_put := by obtain ⟨_, F⟩ := (c.def_ 9 (d := dd_law_put) rfl); exact F.kp
  d_law_spot := (c.def_ 10 (d := dd_law_spot) rfl)
  v_law_spot := He.glo_ok X G (c.fact 10 (f := .glo "_law_spot") rfl)
  k_law_spot := by obtain ⟨_, F⟩ := (c.def_ 10 (d := dd_law_spot) rfl); exact F.kp
  d_law_changed := (c.def_ 11 (d := dd_law_changed) rfl)
  v_law_changed := He.glo_ok X G (c.fact 11 (f := .glo "_law_changed") rfl)
  k_law_changed := by obtain ⟨_, F⟩ := (c.def_ 11 (d := dd_law_changed) rfl); exact F.kp
  d_law_opened := (c.def_ 12 (d := dd_law_opened) rfl)
  v_law_opened := He.glo_ok X G (c.fact 12 (f := .glo "_law_opened") rfl)
  k_law_opened := by obtain ⟨_, F⟩ := (c.def_ 12 (d := dd_law_opened) rfl); exact F.kp
  d_law_three := (c.def_ 13 (d := dd_law_three) rfl)
  v_law_three := He.glo_ok X G (c.fact 13 (f := .glo "_law_three") rfl)
  k_law_three := by obtain ⟨_, F⟩ := (c.def_ 13 (d := dd_law_three) rfl); exact F.kp
  d_law_common := (c.def_ 14 (d := dd_law_common) rfl)
  v_law_common := He.glo_ok X G (c.fact 14 (f := .glo "_law_common") rfl)
  k_law_common := by obtain ⟨_, F⟩ := (c.def_ 14 (d := dd_law_common) rfl); exact F.kp
  d_law_over := (c.def_ 15 (d := dd_law_over) rfl)
  v_law_over := He.glo_ok X G (c.fact 15 (f := .glo "_law_over") rfl)
  k_law_over := by obtain ⟨_, F⟩ := (c.def_ 15 (d := dd_law_over) rfl); exact F.kp
  d_law_gaps := (c.def_ 16 (d := dd_law_gaps) rfl)
  v_law_gaps := He.glo_ok X G (c.fact 16 (f := .glo "_law_gaps") rfl)
  k_law_gaps := by obtain ⟨_, F⟩ := (c.def_ 16 (d := dd_law_gaps) rfl); exact F.kp
  d_law_make := (c.def_ 17 (d := dd_law_make) rfl)
  v_law_make := He.glo_ok X G (c.fact 17 (f := .glo "_law_make") rfl)
  k_law_make := by obtain ⟨_, F⟩ := (c.def_ 17 (d := dd_law_make) rfl); exact F.kp
  d_law_told := (c.def_ 18 (d := dd_law_told) rfl)
  v_law_told := He.glo_ok X G (c.fact 18 (f := .glo "_law_told") rfl)
  k_law_told := by obtain ⟨_, F⟩ := (c.def_ 18 (d := dd_law_told) rfl); exact F.kp
  d_law_is := (c.def_ 19 (d := dd_law_is) rfl)
  v_law_is := He.glo_ok X G (c.fact 19 (f := .glo "_law_is") rfl)
  k_law_is := by obtain ⟨_, F⟩ := (c.def_ 19 (d := dd_law_is) rfl); exact F.kp
  d_law_good := (c.def_ 20 (d := dd_law_good) rfl)
  v_law_good := He.glo_ok X G (c.fact 20 (f := .glo "_law_good") rfl)
  k_law_good := by obtain ⟨_, F⟩ := (c.def_ 20 (d := dd_law_good) rfl); exact F.kp
  d_law_covers := (c.def_ 21 (d := dd_law_covers) rfl)
  v_law_covers := He.glo_ok X G (c.fact 21 (f := .glo "_law_covers") rfl)
  k_law_covers := by obtain ⟨_, F⟩ := (c.def_ 21 (d := dd_law_covers) rfl); exact F.kp
  d_law_filled := (c.def_ 22 (d := dd_law_filled) rfl)
  v_law_filled := He.glo_ok X G (c.fact 22 (f := .glo "_law_filled") rfl)
  k_law_filled := by obtain ⟨_, F⟩ := (c.def_ 22 (d := dd_law_filled) rfl); exact F.kp
  d_law_miscounted := (c.def_ 23 (d := dd_law_miscounted) rfl)
  v_law_miscounted := He.glo_ok X G (c.fact 23 (f := .glo "_law_miscounted") rfl)
  k_law_miscounted := by obtain ⟨_, F⟩ := (c.def_ 23 (d := dd_law_miscounted) rfl); exact F.kp
  d_law_pairs := (c.def_ 24 (d := dd_law_pairs) rfl)
  v_law_pairs := He.glo_ok X G (c.fact 24 (f := .glo "_law_pairs") rfl)
  k_law_pairs := by obtain ⟨_, F⟩ := (c.def_ 24 (d := dd_law_pairs) rfl); exact F.kp
  d_law_refilled := (c.def_ 25 (d := dd_law_refilled) rfl)
  v_law_refilled := He.glo_ok X G (c.fact 25 (f := .glo "_law_refilled") rfl)
  k_law_refilled := by obtain ⟨_, F⟩ := (c.def_ 25 (d := dd_law_refilled) rfl); exact F.kp
  d_law := (c.def_ 26 (d := dd_law) rfl)
  v_law := He.glo_ok X G (c.fact 26 (f := .glo "law") rfl)
  k_law := by obtain ⟨_, F⟩ := (c.def_ 26 (d := dd_law) rfl); exact F.kp
  z_abs := He.free_ok X G (c.fact 27 (f := .free "abs") rfl)
  z_int := He.free_ok X G (c.fact 28 (f := .free "int") rfl)
  z_len := He.free_ok X G (c.fact 29 (f := .free "len") rfl)
  z_range := He.free_ok X G (c.fact 30 (f := .free "range") rfl)
  z_sum := He.free_ok X G (c.fact 31 (f := .free "sum") rfl)
  z_max := He.free_ok X G (c.fact 32 (f := .free "max") rfl)
  z_all := He.free_ok X G (c.fact 33 (f := .free "all") rfl)
  z_isinstance := He.free_ok X G (c.fact 34 (f := .free "isinstance") rfl)
  z_tuple := He.free_ok X G (c.fact 35 (f := .free "tuple") rfl)
  z_list := He.free_ok X G (c.fact 36 (f := .free "list") rfl)
  z_iter := He.free_ok X G (c.fact 37 (f := .free "iter") rfl)
  z_bool := He.free_ok X G (c.fact 38 (f := .free "bool") rfl)
  z_ValueError := He.free_ok X G (c.fact 39 (f := .free "ValueError") rfl)
  z_zip := He.free_ok X G (c.fact 40 (f := .free "zip") rfl)
theorem mk_Tc (X : K.In h) (G : h.Ns mainGlobals mg) (c : He.SaysD faL fnL K) : Tc K mg where
  v_Tree := He.glo_ok X G (c.fact 42 (f := .glo "Tree") rfl)
  cl := He.cls_ok (c.fact 47 (f := .cls "Tree") rfl)
  a_name := He.noat_ok (c.fact 49 (f := .noat "Tree" "name") rfl)
  a_parts := He.noat_ok (c.fact 50 (f := .noat "Tree" "parts") rfl)
  a_size := He.noat_ok (c.fact 51 (f := .noat "Tree" "size") rfl)
  a_levels := He.noat_ok (c.fact 52 (f := .noat "Tree" "levels") rfl)
  a_term := He.noat_ok (c.fact 53 (f := .noat "Tree" "term") rfl)
  mk_ := He.mkr_ok (c.fact 48 (f := .mkr "Tree") rfl)
  d_init := (c.def_ 27 (d := ddT_init) rfl)
theorem mk_Ti (c : He.SaysD faL fnL K) : Ti K := ⟨(He.meth_ok (c.fact 54 (f := .meth "Tree" "__iter__") rfl)).at_, (He.meth_ok (c.fact 54 (f := .meth "Tree" "__iter__") rfl)).fn, (c.def_ 28 (d := ddT_iter) rfl)⟩
theorem saysD (c : obsZ K = valZ) : He.SaysD faL fnL K := congrArg (fun z : AlZ => z.1) c
theorem ex_at (c : obsZ K = valZ) (i : Nat) {b : Bool} (h : (exL K)[i]? = some b) : b = true := by
  have e : (exL K).all id = true := congrArg (fun z : AlZ => z.2.1) c
  exact List.all_eq_true.mp e b (List.mem_of_getElem? h)
theorem fn_at (c : obsZ K = valZ) : fnA K (gW K) = vW ∧ fnA K (He.ma K (CC K) "__init__") = vC ∧ fnA K (He.ma K (CN K) "__init__") = vN ∧ fnA K (He.ma K (CB K) "__init__") = vB := by
  have e : [fnA K (gW K), fnA K (He.ma K (CC K) "__init__"), fnA K (He.ma K (CN K) "__init__"), fnA K (He.ma K (CB K) "__init__")] = [vW, vC, vN, vB] := congrArg (fun z : AlZ => z.2.2) c
  have e1 := List.cons.inj e
  have e2 := List.cons.inj e1.2
  have e3 := List.cons.inj e2.2
  have e4 := List.cons.inj e3.2
  exact ⟨e1.1, e2.1, e3.1, e4.1⟩
theorem mk_Tw (c : obsZ K = valZ) : Tw K := ⟨propB_ok (ex_at c 0 rfl), fnA_ok (fn_at c).1 (ex_at c 1 rfl), He.eqO_ok (ex_at c 2 rfl), He.eqO_ok (ex_at c 3 rfl), oB_ok (ex_at c 4 rfl), oB_ok (ex_at c 5 rfl)⟩
theorem mk_Ty (z : obsZ K = valZ) : Ty K := by
  have c := saysD z
  exact ⟨(He.meth_ok (c.fact 55 (f := .meth "Tree" "paths") rfl)), (c.def_ 29 (d := ddT_paths) rfl), (He.meth_ok (c.fact 56 (f := .meth "Tree" "__contains__") rfl)).at_, (He.meth_ok (c.fact 56 (f := .meth "Tree" "__contains__") rfl)).fn, (c.def_ 30 (d := ddT_contains) rfl), (He.meth_ok (c.fact 57 (f := .meth "Tree" "__getitem__") rfl)).at_, (He.meth_ok (c.fact 57 (f := .meth "Tree" "__getitem__") rfl)).fn, ex_at z 6 rfl, ex_at z 7 rfl, (c.def_ 31 (d := ddT_getitem) rfl)⟩
theorem mk_To (c : He.SaysD faL fnL K) : To K := ⟨(He.meth_ok (c.fact 58 (f := .meth "Tree" "__lt__") rfl)).at_, (He.meth_ok (c.fact 58 (f := .meth "Tree" "__lt__") rfl)).fn, (c.def_ 32 (d := ddT_lt) rfl), (He.meth_ok (c.fact 59 (f := .meth "Tree" "__le__") rfl)).at_, (He.meth_ok (c.fact 59 (f := .meth "Tree" "__le__") rfl)).fn, (c.def_ 33 (d := ddT_le) rfl), (He.meth_ok (c.fact 60 (f := .meth "Tree" "__eq__") rfl)).at_, (He.meth_ok (c.fact 60 (f := .meth "Tree" "__eq__") rfl)).fn, (c.def_ 34 (d := ddT_eq) rfl), (He.meth_ok (c.fact 61 (f := .meth "Tree" "place") rfl)), (c.def_ 35 (d := ddT_place) rfl)⟩
theorem mk_Te (X : K.In h) (G : h.Ns mainGlobals mg) (z : obsZ K = valZ) : Te P0 K mg := by
  have c := saysD z
  obtain ⟨x1, x2⟩ := excB_ok (ex_at z 10 rfl)
  obtain ⟨y1, y2⟩ := excB_ok (ex_at z 11 rfl)
  have hs : mg "super" = none := He.free_ok X G (c.fact 41 (f := .free "super") rfl)
  obtain ⟨_, _, f3, f4⟩ := fn_at z
  exact ⟨He.glo_ok X G (c.fact 43 (f := .glo "WorkError") rfl), He.glo_ok X G (c.fact 44 (f := .glo "BadTerm") rfl), He.glo_ok X G (c.fact 45 (f := .glo "NoPlace") rfl),
    err_ok (st := s_No) hs (ex_at z 8 rfl) f3 ⟨_, _, by with_unfolding_all rfl⟩ ⟨_, _, _, _, _, _, _, _, _, _, _, by with_unfolding_all rfl, rfl⟩ (by with_unfolding_all rfl),
    err_ok (st := s_Bad) hs (ex_at z 9 rfl) f4 ⟨_, _, by with_unfolding_all rfl⟩ ⟨_, _, _, _, _, _, _, _, _, _, _, by with_unfolding_all rfl, rfl⟩ (by with_unfolding_all rfl),
    x1, y1, x2, y2, oB_ok (ex_at z 12 rfl), oB_ok (ex_at z 13 rfl), oB_ok (ex_at z 14 rfl), oB_ok (ex_at z 15 rfl), oB_ok (ex_at z 16 rfl), oB_ok (ex_at z 17 rfl), oB_ok (ex_at z 18 rfl), oB_ok (ex_at z 19 rfl)⟩
theorem mk_Ta (z : obsZ K = valZ) : Ta K := by
  have c := saysD z
  exact ⟨ex_at z 25 rfl, (He.meth_ok (c.fact 62 (f := .meth "Tree" "__and__") rfl)).at_, (He.meth_ok (c.fact 62 (f := .meth "Tree" "__and__") rfl)).fn, (c.def_ 36 (d := ddT_and) rfl), (He.meth_ok (c.fact 63 (f := .meth "Tree" "covers") rfl)), (c.def_ 37 (d := ddT_covers) rfl)⟩
theorem mk_Th (c : He.SaysD faL fnL K) : Th K := ⟨(He.meth_ok (c.fact 64 (f := .meth "Tree" "holes") rfl)), (c.def_ 38 (d := ddT_holes) rfl)⟩
theorem mk_Tb (X : K.In h) (G : h.Ns mainGlobals mg) (z : obsZ K = valZ) : Tb P0 K mg := by
  have c := saysD z
  obtain ⟨x1, x2⟩ := excB_ok (ex_at z 21 rfl)
  have hs : mg "super" = none := He.free_ok X G (c.fact 41 (f := .free "super") rfl)
  obtain ⟨_, f2, _, _⟩ := fn_at z
  exact ⟨He.glo_ok X G (c.fact 46 (f := .glo "BadCount") rfl), err_ok (st := s_Cnt) hs (ex_at z 20 rfl) f2 ⟨_, _, by with_unfolding_all rfl⟩ ⟨_, _, _, _, _, _, _, _, _, _, _, by with_unfolding_all rfl, rfl⟩ (by with_unfolding_all rfl),
    x1, x2, oB_ok (ex_at z 22 rfl), oB_ok (ex_at z 23 rfl), oB_ok (ex_at z 24 rfl), (He.meth_ok (c.fact 65 (f := .meth "Tree" "filled") rfl)), (c.def_ 39 (d := ddT_filled) rfl)⟩
theorem facts0 {w : World} {f : Addr} (X : K.In h) (G : h.Ns mainGlobals mg) (hfa : mg ("law" : Str) = some (.ref f)) (z : obsZ K = valZ) :
    ∃ fd : FuncData, (∀ (s : Shared) (v : Value), BindsTo s fd ⟨[v], []⟩ [("_law_script", v)]) ∧ ∀ base : Heap, K.In base → base.Ns mainGlobals mg → FnOk P0 w K mg base CX0 207 f fd ["_law_script"] (sp_law K) := by
  have c := saysD z
  obtain ⟨fd, F⟩ := (c.def_ 26 (d := dd_law) rfl)
  have e := hfa.symm.trans (He.glo_ok X G (c.fact 26 (f := .glo "law") rfl))
  cases e
  have b := FunD.bindsA (ps := ["_law_script"]) F fun _ _ _ _ _ _ us hl => match us, hl with | [_], _ => rfl
  refine ⟨fd, fun s v => b s [v] rfl, fun base _ _ => ?_⟩
  exact ok_lawF F (mk_Tx X G c) (mk_Tc X G c) (mk_Ti c) (mk_Tw z) (mk_Ty z) (mk_To c) (mk_Ta z) (mk_Th c) (mk_Te X G z) (mk_Tb X G z)
end
end TW

open PySem PySem.W PySem.Calls PyProof.Rows
theorem PySem.Challenge.cw_treeworks_k01_common_part_holds : PySem.Challenge.rw_treeworks_k01_common_part.Holds := by
  w_on; o_law
  refine HandSHeadRun.head_any (r := TW.R0) (q := view TW.R0.prog [41]) (H := TW.hkZ) (ob := TW.obZ) (M := 6000) (loose := TW.looseL) (d := HandSHeadRun.topDef TW.R0.prog 41) (kwd := []) TW.obZ_eq
    (by kernel_rfl) (fun s => by kernel_rfl) TW.run0 (by kernel_rfl) (by kernel_rfl) (by kernel_rfl) (by rfl) (by first | assumption | decide +kernel) (by decide +kernel) ⟨rfl, rfl, rfl, rfl, rfl, by decide +kernel⟩ ?hw ?hc
  case hw => w_witness2
  case hc =>
    refine L2.walk_ofE (l := PySem.Challenge.rw_treeworks_k01_common_part) (n := 63) (k := 207) (x := "_law_script") (CX := L2.CX0) rfl (by decide) (by kernel_rfl) ⟨rfl, by decide, by decide⟩ ?F (fun _ _ _ _ z => z)
    intro w mg fa h Y G hmg0
    obtain ⟨K, KX, c⟩ := Y
    have hmg : mg ("law" : PySem.Str) = some (.ref fa) := by
      have nm : (HandSHeadRun.topDef TW.R0.prog 41).name = ("law" : PySem.Str) := by kernel_rfl
      rw [← nm]
      exact hmg0
    obtain ⟨fd, hb, hF⟩ := TW.facts0 (w := w) KX G hmg c
    exact ⟨K, fd, TW.sp_law K, KX, hb, fun H a ns hl _ hS => ⟨a, ns, rfl, hS, hl, fun _ => rfl⟩, hF⟩

