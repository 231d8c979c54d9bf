import PyProof.Rows.All
import Wide.All
import OpenK.AllK
import Wide.FinOn
import KE.KStateDown
import Lean
import HandS.Base
import HandS.Call
import HandS.Ends
import HandS.More
import HandS.Words
import HandS.WordsExc
import HandS.Defaults
import HandS.Head0
import HandS.Head1
import HandS.Head2
import HandS.HeadEnd
import HandS.HeadHook1
import HandS.HeadHook2
import HandS.ForMost
import HandS.Star
import HandS.Style
import HandS.TupAny
import HandS.TupMul
import HandS.IsInst
import HandS.Strs
import HandS.SortInts
import HandS.Evl
import HandS.Walk
import KE.GoesEnum
import HandS.Small
import PySem.Challenge.RW_gentlerounds_k10_whole_polite_by_countin
set_option Elab.async false
set_option linter.all false
set_option maxRecDepth 100000
set_option maxHeartbeats 0
namespace Gr
open PySem PySem.Spec PyProof.Rows L2
/-! ### the text by places -/
def topAt (i : Nat) : Stmt := PySem.Challenge.pw_gentlerounds_k10_whole_polite_by_countin.main.body.getD i (.Pass ⟨0, 0, 0, 0⟩)
abbrev s_iswhole : Stmt := topAt 8
abbrev s_isbetween : Stmt := topAt 9
abbrev s_isfrom : Stmt := topAt 10
abbrev s_istupleupto : Stmt := topAt 11
abbrev s_islimit : Stmt := topAt 17
abbrev s_arelimits : Stmt := topAt 18
abbrev s_arehours : Stmt := topAt 19
abbrev s_isrulespair : Stmt := topAt 20
abbrev s_isopenat : Stmt := topAt 21
abbrev s_iscrowded : Stmt := topAt 22
abbrev s_firstwrongby : Stmt := topAt 23
abbrev s_ispoliteby : Stmt := topAt 24
abbrev s_checkmoment : Stmt := topAt 27
abbrev s_checkhours : Stmt := topAt 28
abbrev s_aresomerules : Stmt := topAt 29
abbrev s_checkrules : Stmt := topAt 30
abbrev s_checkasks : Stmt := topAt 31
abbrev s_checkpolite : Stmt := topAt 32
abbrev s_isopen : Stmt := topAt 34
abbrev s_ispolite : Stmt := topAt 35
abbrev s_firstwrong : Stmt := topAt 36
abbrev s_mayask : Stmt := topAt 37
abbrev s_lawwell : Stmt := topAt 39
abbrev s_lawpick : Stmt := topAt 40
abbrev s_lawone : Stmt := topAt 41
abbrev s_lawopen : Stmt := topAt 42
abbrev s_lawwrongat : Stmt := topAt 43
abbrev s_lawsoonest : Stmt := topAt 44
abbrev s_lawsomelimits : Stmt := topAt 45
abbrev s_lawsomehours : Stmt := topAt 46
abbrev s_lawsomerow : Stmt := topAt 47
abbrev s_lawcounted : Stmt := topAt 48
abbrev s_lawrowright : Stmt := topAt 49
abbrev s_lawdrawnright : Stmt := topAt 50
abbrev s_lawcellsright : Stmt := topAt 51
abbrev s_law : Stmt := topAt 52
abbrev FnP (K : PySem.W.Frag) (x : Str) (st : Stmt) (f : Addr) (fd : FuncData) : Prop := FunD K x x (defArgs st) (defBody st) (defScope st) [] [] f fd
end Gr

set_option maxHeartbeats 0
namespace Gr
open PySem PySem.Spec PyProof.Rows L2
def d_iswhole : He.DefD := ⟨("is_whole", none), "is_whole", "is_whole", defArgs s_iswhole, defBody s_iswhole, defScope s_iswhole, [], []⟩
def d_isbetween : He.DefD := ⟨("is_between", none), "is_between", "is_between", defArgs s_isbetween, defBody s_isbetween, defScope s_isbetween, [], []⟩
def d_isfrom : He.DefD := ⟨("is_from", none), "is_from", "is_from", defArgs s_isfrom, defBody s_isfrom, defScope s_isfrom, [], []⟩
def d_istupleupto : He.DefD := ⟨("is_tuple_up_to", none), "is_tuple_up_to", "is_tuple_up_to", defArgs s_istupleupto, defBody s_istupleupto, defScope s_istupleupto, [], []⟩
def d_islimit : He.DefD := ⟨("is_limit", none), "is_limit", "is_limit", defArgs s_islimit, defBody s_islimit, defScope s_islimit, [], []⟩
def d_arelimits : He.DefD := ⟨("are_limits", none), "are_limits", "are_limits", defArgs s_arelimits, defBody s_arelimits, defScope s_arelimits, [], []⟩
def d_arehours : He.DefD := ⟨("are_hours", none), "are_hours", "are_hours", defArgs s_arehours, defBody s_arehours, defScope s_arehours, [], []⟩
def d_isrulespair : He.DefD := ⟨("is_rules_pair", none), "is_rules_pair", "is_rules_pair", defArgs s_isrulespair, defBody s_isrulespair, defScope s_isrulespair, [], []⟩
def d_isopenat : He.DefD := ⟨("is_open_at", none), "is_open_at", "is_open_at", defArgs s_isopenat, defBody s_isopenat, defScope s_isopenat, [], []⟩
def d_iscrowded : He.DefD := ⟨("is_crowded", none), "is_crowded", "is_crowded", defArgs s_iscrowded, defBody s_iscrowded, defScope s_iscrowded, [], []⟩
def d_firstwrongby : He.DefD := ⟨("first_wrong_by", none), "first_wrong_by", "first_wrong_by", defArgs s_firstwrongby, defBody s_firstwrongby, defScope s_firstwrongby, [], []⟩
def d_ispoliteby : He.DefD := ⟨("is_polite_by", none), "is_polite_by", "is_polite_by", defArgs s_ispoliteby, defBody s_ispoliteby, defScope s_ispoliteby, [], []⟩
def d_checkmoment : He.DefD := ⟨("check_moment", none), "check_moment", "check_moment", defArgs s_checkmoment, defBody s_checkmoment, defScope s_checkmoment, [], []⟩
def d_checkhours : He.DefD := ⟨("check_hours", none), "check_hours", "check_hours", defArgs s_checkhours, defBody s_checkhours, defScope s_checkhours, [], []⟩
def d_aresomerules : He.DefD := ⟨("are_some_rules", none), "are_some_rules", "are_some_rules", defArgs s_aresomerules, defBody s_aresomerules, defScope s_aresomerules, [], []⟩
def d_checkrules : He.DefD := ⟨("check_rules", none), "check_rules", "check_rules", defArgs s_checkrules, defBody s_checkrules, defScope s_checkrules, [], []⟩
def d_checkasks : He.DefD := ⟨("check_asks", none), "check_asks", "check_asks", defArgs s_checkasks, defBody s_checkasks, defScope s_checkasks, [], []⟩
def d_checkpolite : He.DefD := ⟨("check_polite", none), "check_polite", "check_polite", defArgs s_checkpolite, defBody s_checkpolite, defScope s_checkpolite, [], []⟩
def d_isopen : He.DefD := ⟨("is_open", none), "is_open", "is_open", defArgs s_isopen, defBody s_isopen, defScope s_isopen, [], []⟩
def d_ispolite : He.DefD := ⟨("is_polite", none), "is_polite", "is_polite", defArgs s_ispolite, defBody s_ispolite, defScope s_ispolite, [], []⟩
def d_firstwrong : He.DefD := ⟨("first_wrong", none), "first_wrong", "first_wrong", defArgs s_firstwrong, defBody s_firstwrong, defScope s_firstwrong, [], []⟩
def d_mayask : He.DefD := ⟨("may_ask", none), "may_ask", "may_ask", defArgs s_mayask, defBody s_mayask, defScope s_mayask, [], []⟩
def d_lawwell : He.DefD := ⟨("_law_well", none), "_law_well", "_law_well", defArgs s_lawwell, defBody s_lawwell, defScope s_lawwell, [], []⟩
def d_lawpick : He.DefD := ⟨("_law_pick", none), "_law_pick", "_law_pick", defArgs s_lawpick, defBody s_lawpick, defScope s_lawpick, [], []⟩
def d_lawone : He.DefD := ⟨("_law_one", none), "_law_one", "_law_one", defArgs s_lawone, defBody s_lawone, defScope s_lawone, [], []⟩
def d_lawopen : He.DefD := ⟨("_law_open", none), "_law_open", "_law_open", defArgs s_lawopen, defBody s_lawopen, defScope s_lawopen, [], []⟩
def d_lawwrongat : He.DefD := ⟨("_law_wrong_at", none), "_law_wrong_at", "_law_wrong_at", defArgs s_lawwrongat, defBody s_lawwrongat, defScope s_lawwrongat, [], []⟩
def d_lawsoonest : He.DefD := ⟨("_law_soonest", none), "_law_soonest", "_law_soonest", defArgs s_lawsoonest, defBody s_lawsoonest, defScope s_lawsoonest, [], []⟩
def d_lawsomelimits : He.DefD := ⟨("_law_some_limits", none), "_law_some_limits", "_law_some_limits", defArgs s_lawsomelimits, defBody s_lawsomelimits, defScope s_lawsomelimits, [], []⟩
def d_lawsomehours : He.DefD := ⟨("_law_some_hours", none), "_law_some_hours", "_law_some_hours", defArgs s_lawsomehours, defBody s_lawsomehours, defScope s_lawsomehours, [], []⟩
def d_lawsomerow : He.DefD := ⟨("_law_some_row", none), "_law_some_row", "_law_some_row", defArgs s_lawsomerow, defBody s_lawsomerow, defScope s_lawsomerow, [], []⟩
def d_lawcounted : He.DefD := ⟨("_law_counted", none), "_law_counted", "_law_counted", defArgs s_lawcounted, defBody s_lawcounted, defScope s_lawcounted, [], []⟩
def d_lawrowright : He.DefD := ⟨("_law_row_right", none), "_law_row_right", "_law_row_right", defArgs s_lawrowright, defBody s_lawrowright, defScope s_lawrowright, [], []⟩
def d_lawdrawnright : He.DefD := ⟨("_law_drawn_right", none), "_law_drawn_right", "_law_drawn_right", defArgs s_lawdrawnright, defBody s_lawdrawnright, defScope s_lawdrawnright, [], []⟩
def d_lawcellsright : He.DefD := ⟨("_law_cells_right", none), "_law_cells_right", "_law_cells_right", defArgs s_lawcellsright, defBody s_lawcellsright, defScope s_lawcellsright, [], []⟩
def d_law : He.DefD := ⟨("law", none), "law", "law", defArgs s_law, defBody s_law, defScope s_law, [], []⟩
def fn1 : List He.DefD := [d_iswhole, d_isbetween, d_isfrom, d_istupleupto, d_islimit, d_arelimits, d_arehours, d_isrulespair, d_isopenat, d_iscrowded, d_firstwrongby, d_ispoliteby, d_checkmoment, d_checkhours, d_aresomerules, d_checkrules, d_checkasks, d_checkpolite]
def fn2 : List He.DefD := [d_isopen, d_ispolite, d_firstwrong, d_mayask, d_lawwell, d_lawpick, d_lawone, d_lawopen, d_lawwrongat, d_lawsoonest, d_lawsomelimits, d_lawsomehours, d_lawsomerow, d_lawcounted, d_lawrowright, d_lawdrawnright, d_lawcellsright, d_law]
def fnAll : List He.DefD := fn1 ++ fn2
def fa1 : List He.Fa := [.glo "is_whole", .glo "is_between", .glo "is_from", .glo "is_tuple_up_to", .glo "is_limit", .glo "are_limits", .glo "are_hours", .glo "is_rules_pair", .glo "is_open_at", .glo "is_crowded", .glo "first_wrong_by", .glo "is_polite_by", .glo "check_moment", .glo "check_hours", .glo "are_some_rules", .glo "check_rules", .glo "check_asks", .glo "check_polite", .glo "is_open", .glo "is_polite", .glo "first_wrong", .glo "may_ask", .glo "_law_well", .glo "_law_pick", .glo "_law_one", .glo "_law_open", .glo "_law_wrong_at", .glo "_law_soonest", .glo "_law_some_limits", .glo "_law_some_hours", .glo "_law_some_row", .glo "_law_counted", .glo "_law_row_right", .glo "_law_drawn_right", .glo "_law_cells_right", .glo "law"]
def fa2 : List He.Fa := [.free "isinstance", .free "int", .free "bool", .free "tuple", .free "len", .free "all", .free "any", .free "enumerate", .free "abs", .free "divmod", .free "list", .free "range", .free "max", .free "min", .free "sum", .free "repr", .free "sorted"]
def fa3 : List He.Fa := [.int "MOST_LIMITS" 4, .int "MOST_ASKS" 6, .int "MOST_MOMENTS" 12, .int "MOST_HOURS" 12, .int "MOST_ROW" 200]
def faAll : List He.Fa := fa1 ++ (fa2 ++ fa3)
def nm1 : List Str := ["CrawlError", "InvalidNumber", "InvalidHours", "InvalidRules", "InvalidAsks", "NotPolite", "is_whole", "is_between", "is_from", "is_tuple_up_to", "MOST_LIMITS", "MOST_ASKS", "MOST_MOMENTS", "MOST_HOURS", "is_limit", "are_limits", "are_hours", "is_rules_pair", "is_open_at", "is_crowded", "first_wrong_by", "is_polite_by", "MOST_ROW", "check_moment", "check_hours"]
def nm2 : List Str := ["are_some_rules", "check_rules", "check_asks", "check_polite", "is_open", "is_polite", "first_wrong", "may_ask", "_law_well", "_law_pick", "_law_one", "_law_open", "_law_wrong_at", "_law_soonest", "_law_some_limits", "_law_some_hours", "_law_some_row", "_law_counted", "_law_row_right", "_law_drawn_right", "_law_cells_right"]
abbrev nmAll : List Str := nm1 ++ nm2
abbrev R : PySem.W.OpenRow := PySem.W.OpenLaw.row PySem.Challenge.rw_gentlerounds_k10_whole_polite_by_countin
abbrev hk : PySem.W.Hook := He.hookD 4 faAll fnAll
def ob (s : PySem.W.SharedT) : He.AlD := He.obsDG 4 faAll fnAll (HandSHeadRun.getT s)
theorem ob_eq (s : PySem.W.SharedT) : ob s = hk.obs s.abs := He.obsDG_eq (HandSHeadRun.getT_eq s)
theorem run (w : World) : HandSHeadRun.RunEq R (PySem.W.view R.prog [52]) hk ob 4000 nmAll w := by
  intro os
  kernel_rfl
end Gr

set_option maxHeartbeats 4000000
namespace Gr
open PySem PySem.Spec PyProof.Rows L2

/-! ### room with nothing under repr -/
/-- what a def of ours promises: the arguments, the heap, what is wanted of the value and the heap behind -/
abbrev Pr := List V → Hp → VK → Prop
structure RoomG (k : Nat) (A : Around) : Prop where
  rm : Room k A
  gd : A.guards = some []
theorem RoomG.mono {j k : Nat} {A : Around} (r : RoomG k A) (h : j ≤ k) : RoomG j A := ⟨r.rm.mono h, r.gd⟩
theorem RoomG.deeper {k : Nat} {A : Around} (r : RoomG (k + 1) A) (env : Env) : RoomG k (A.deeper env) := ⟨r.rm.deeper env, r.gd⟩

/-- a def keeps its promise wherever no repr is under way, and lets no error out -/
structure FnG (P : Program) (w : World) (K : PySem.W.Frag) (mg : Str → Option Value) (base : Heap) (k : Nat) (f : Addr) (fd : FuncData) (ps : List Str) (sp : Pr) : Prop where
  len : ∀ vs H Q, sp vs H Q → vs.length = ps.length
  run : ∀ (A : Around) (outer : List Env) (s : Shared) (H : Hp) (args : Args) (us : List Value) (vs : List V) (Q : VK), RoomG k A → Env0 P w K mg base A outer s H →
    BindsTo s fd args (ps.zip us) → Vals vs us → sp vs H Q → codeAny (model P w) A (.call (.ref f) args) (CR CX0 outer P w H s Q E0) s

/-- a def of the text, known by its name, with its promise -/
structure Cal (P : Program) (w : World) (K : PySem.W.Frag) (mg : Str → Option Value) (base : Heap) (x : Str) (st : Stmt) (k : Nat) (ps : List Str) (sp : Pr) : Prop where
  ex : ∃ (f : Addr) (fd : FuncData), FnG P w K mg base k f fd ps sp ∧ FnP K x st f fd ∧ mg x = some (.ref f) ∧ ∀ us : List Value, us.length = ps.length → bindArgs fd ⟨us, []⟩ = pure (ps.zip us)

section
variable {P : Program} {w : World} {K : PySem.W.Frag} {mg : Str → Option Value} {base : Heap} {x : Str} {st : Stmt} {k : Nat} {ps N : List Str} {sp : Pr}
/-- THE RULE for a def: its body as a term, and that term's reading -/
theorem fnG_of {f : Addr} {fd : FuncData} (F : FnP K x st f fd) (S : FnScope N ps (defScope st)) (len : ∀ vs H Q, sp vs H Q → vs.length = ps.length)
    (body : ∀ (cdv : Value) (A : Around) (outer : List Env) (s : Shared) (H : Hp) (vs : List V) (Q : VK), RoomG k (A.deeper (envOfC x (defScope st) s.heap.objs.size f cdv)) → sp vs H Q →
      ∃ t, PSs (cxOf CX0 P w K mg base N x (defScope st) f cdv A outer s H E0).nox (defBody st) t ∧ t { nx := fun _ H' => Q .non H', rt := Q } (start N vs) H) : FnG P w K mg base (k + 1) f fd ps sp := by
  obtain ⟨oc, od, dV, kV, doc, pm, an, cdv, ct, osl, rfl, lk, hcd, _, _⟩ := F.ex
  refine ⟨len, fun A outer s H args us vs Q hr e0 hb rv hs => ?_⟩
  have bn : StX.Bnd CX0 P w K mg base (PySem.W.fnOf x x (defArgs st) (defBody st) (defScope st) dV kV doc pm an cdv ct) args ps A outer s H E0 (fun vs2 H2 => sp vs2 H2 Q) :=
    fun A' Ex Q' go => hb _ _ _ _ (go s H vs us e0 Un.refl rfl (fun _ _ z => z) rv (len _ _ _ hs) hs)
  refine StX.run_bnd lk hcd S hr.rm e0 bn fun s2 H2 vs2 g _ => ?_
  obtain ⟨t, ht, hq⟩ := body cdv A outer s2 H2 vs2 Q (hr.deeper _) g
  exact ⟨t, ht.nox, hq⟩
/-- how its arguments bind -/
theorem FnP.bd {f : Addr} {fd : FuncData} (F : FnP K x st f fd)
    (h : ∀ (kV doc pm : Value) (an : Option Addr) (cdv ct : Value) (us : List Value), us.length = ps.length → bindArgs (PySem.W.fnOf x x (defArgs st) (defBody st) (defScope st) .none kV doc pm an cdv ct) ⟨us, []⟩ = pure (ps.zip us)) :
    ∀ us : List Value, us.length = ps.length → bindArgs fd ⟨us, []⟩ = pure (ps.zip us) := by
  obtain ⟨oc, od, dV, kV, doc, pm, an, cdv, ct, osl, rfl, lk, hcd, hD, hK⟩ := F.ex
  rcases hD with ⟨_, rfl⟩ | ⟨e, _⟩
  · exact fun us hl => h kV doc pm an cdv ct us hl
  · exact absurd rfl e
end

/-! ### calls -/
/-- f(e, ..) of such a def -/
def tGo (sp : Pr) (t : TA) : TE := fun σ H Q => t σ H fun vs H1 => sp vs H1 Q
section
variable {X : Cx} {x : Str} {st : Stmt} {k : Nat} {ps : List Str} {sp : Pr} {p pos : Pos} {e : Expr} {es : List Expr} {t : TA}
theorem run_go {f : Addr} {fd : FuncData} {pins : List (Addr × Obj)} {σ : L2.St} {H : Hp} {s : Shared} {Q : VK} {us : List Value} {args : Args} {vs : List V} (F : FnG X.prog X.w X.K X.mg X.base k f fd ps sp) (hr : RoomG k X.A)
    (hb : bindArgs fd args = pure (ps.zip us)) (I : Inv X pins σ H s) (rv : Vals vs us) (h : sp vs H Q) : codeAny (model X.prog X.w) X.A (.call (.ref f) args) (fun r s' => match r with
      | .ok (.ret u) => EP X pins σ Q u s'
      | _ => False) s := by
  refine codeAny_mono (F.run X.A X.stack s H args us vs Q hr I.env0 (.of_eq hb) rv h) fun r s' hq => ?_
  cases r with
  | error e => exact False.elim hq
  | ok fl =>
    cases fl with
    | ret u => exact I.after hq
    | _ => exact False.elim hq
theorem pe_go (C : Cal X.prog X.w X.K X.mg X.base x st k ps sp) (hr : RoomG k X.A) (hg : Gl X x) (ha : PA X (e :: es) t) (hdb : (x == ("__debug__" : Str)) = false := by decide)
    (he : starEach (e :: es) X.env = (false, eval e X.env) :: starEach es X.env := by rfl) (hpl : (backTo pos (starEach es X.env)).any (·.1) = false := by rfl) : PE X (.Call (.Name x p) (e :: es) [] pos) (tGo sp t) := by
  refine ⟨fun pins s σ H Q I h => ?_⟩
  obtain ⟨f, fd, F, FP, hm, hb⟩ := C.ex
  refine wpAny_Call_Name_kw (ld_glob I hg hm ?_ hdb)
  refine PySem.W.callWith_K (h₀ := X.base) I.ok.mod.kin FP.kp (thn (ha.run pos pins s σ H _ I h) fun us s1 hs => ?_) he hpl
  obtain ⟨vs, H1, I1, rv, q⟩ := hs
  have hl : us.length = ps.length := by rw [← rv.length]; exact F.len _ _ _ q
  refine ⟨I1.kIn, wpAny_call (codeAny_mono (run_go F hr (hb us hl) I1 rv q) fun r s' hq => ?_)⟩
  cases r with
  | error e => exact False.elim hq
  | ok fl =>
    cases fl with
    | ret u => exact hq
    | _ => exact False.elim hq
/-- f(k = v, ..) by keywords alone: g puts the keywords' values in the parameters' order -/
def tGoK (sp : Pr) (gV : List V → List V) (t : TA) : TE := fun σ H Q => t σ H fun vs H1 => sp (gV vs) H1 Q
theorem pe_goK {ks : List Str} {kws : List Keyword} {tk : TA} {g : List Value → List Value} {gV : List V → List V} (C : Cal X.prog X.w X.K X.mg X.base x st k ps sp) (hr : RoomG k X.A) (hg : Gl X x) (hkw : PK X kws tk)
    (hb : ∀ (f : Addr) (fd : FuncData), FnP X.K x st f fd → ∀ us : List Value, us.length = ks.length → bindArgs fd ⟨[], ks.zip us⟩ = pure (ps.zip (g us)))
    (hv : ∀ (vs : List V) (us : List Value), Vals vs us → Vals (gV vs) (g us)) (hz : ∀ vs : List V, (gV vs).length = ps.length → vs.length = ks.length)
    (hall : (backToKw pos (keywordEach kws X.env)).all (·.1.isSome) = true := by rfl) (hks : (backToKw pos (keywordEach kws X.env)).filterMap (·.1) = ks := by rfl)
    (hdb : (x == ("__debug__" : Str)) = false := by decide) (hpl : ((backTo pos (starEach [] X.env)).any (·.1) || (backToKw pos (keywordEach kws X.env)).any (·.1.isNone)) = false := by rfl) :
    PE X (.Call (.Name x p) [] kws pos) (tGoK sp gV tk) := by
  refine ⟨fun pins s σ H Q I h => ?_⟩
  obtain ⟨f, fd, F, FP, hm, _⟩ := C.ex
  refine wpAny_Call_Name_kw (ld_glob I hg hm ?_ hdb)
  refine PySem.W.callWith_KW0 (h₀ := X.base) I.ok.mod.kin FP.kp hall (thn (hkw.run pos pins s σ H _ I h) fun us s1 hs => ?_) hpl
  obtain ⟨vs, H1, I1, rv, q⟩ := hs
  have hl : us.length = ks.length := by rw [← rv.length]; exact hz _ (F.len _ _ _ q)
  rw [hks]
  refine ⟨I1.kIn, wpAny_call (codeAny_mono (run_go F hr (hb f fd FP us hl) I1 (hv vs us rv) q) fun r s' hq => ?_)⟩
  cases r with
  | error e => exact False.elim hq
  | ok fl =>
    cases fl with
    | ret u => exact hq
    | _ => exact False.elim hq
end

/-! ### repr of None, a bool, an int, a list of these -/
def dat : V → PyData
  | .bl b => .bool b
  | .int i => .int i
  | _ => .none
def flatB : V → Bool
  | .non => true
  | .bl _ => true
  | .int i => decide (i.natAbs < 1000000)
  | _ => false
/-- the text of repr -/
def reprV (v : V) : Str := PyData.shown (dat v)
def reprL (vs : List V) : Str := PyData.shown (.list (vs.map dat))
theorem log_small {n : Nat} (h : n < 1000000) : n.log2 < 1920 := by
  by_cases h0 : n = 0
  · subst h0; decide
  · have := (Nat.log2_lt h0 (k := 20)).mpr (Nat.lt_trans h (by decide))
    omega
theorem dat_dp {K : PySem.W.Frag} {H : Hp} {v : V} (h : flatB v = true) : Dp K H v (dat v) := by
  cases v with
  | non => exact .non
  | bl b => exact .bl b
  | int i => exact .int i
  | _ => cases h
theorem dat_show {v : V} (h : flatB v = true) : (dat v).showable = true ∧ (dat v).hasDict = false ∧ (dat v).depth = 0 := by
  cases v with
  | non => exact ⟨rfl, rfl, rfl⟩
  | bl b => exact ⟨rfl, rfl, rfl⟩
  | int i => exact ⟨decide_eq_true (log_small (of_decide_eq_true h)), rfl, rfl⟩
  | _ => cases h
theorem dat_len {v : V} (h : flatB v = true) : (reprV v).length ≤ 1921 := by
  cases v with
  | non => decide +kernel
  | bl b => cases b <;> decide +kernel
  | int i => exact int_text_len_1921 (log_small (of_decide_eq_true h))
  | _ => cases h
theorem dats_ok {K : PySem.W.Frag} {H : Hp} : ∀ {vs : List V}, vs.all flatB = true →
    DpAll K H vs (vs.map dat) ∧ PyData.showableAll (vs.map dat) = true ∧ PyData.hasDictAll (vs.map dat) = false ∧ PyData.depthAll (vs.map dat) = 0 ∧ ∀ t ∈ PyData.shownAll (vs.map dat), t.length ≤ 1921
  | [], _ => ⟨.nil, rfl, rfl, rfl, fun _ h => nomatch h⟩
  | v :: vs, h => by
    rw [List.all_cons, Bool.and_eq_true] at h
    obtain ⟨h1, h2⟩ := h
    obtain ⟨a1, a2, a3, a4, a5⟩ := dats_ok (K := K) (H := H) h2
    obtain ⟨b1, b2, b3⟩ := dat_show h1
    refine ⟨.cons (dat_dp h1) a1, ?_, ?_, ?_, fun t ht => ?_⟩
    · simp only [List.map_cons, PyData.showableAll, a2, b1, Bool.and_self]
    · simp only [List.map_cons, PyData.hasDictAll, a3, b2, Bool.or_self]
    · simp only [List.map_cons, PyData.depthAll, a4, b3]
      rfl
    · rw [List.map_cons] at ht
      simp only [PyData.shownAll] at ht
      rcases List.mem_cons.mp ht with e | e
      · rw [e]; exact dat_len h1
      · exact a5 t e
theorem from_le : ∀ (ts : List Str) (k : Nat) (acc : Str), (∀ t ∈ ts, t.length ≤ 1921) → (textFrom k acc ts).length ≤ acc.length + ts.length * 1923
  | [], _, acc, _ => by show acc.length ≤ _; omega
  | t :: r, k, acc, h => by
    have h1 := from_le r (k + 1) (acc ++ (if k > 0 then ", " else "" : String) ++ t) fun u hu => h u (List.mem_cons_of_mem _ hu)
    have h2 := h t List.mem_cons_self
    have e : (acc ++ (if k > 0 then ", " else "" : String) ++ t).length ≤ acc.length + 2 + t.length := by
      rw [strLen_append, strLen_append]
      split
      · exact Nat.le_refl _
      · show acc.length + 0 + t.length ≤ _
        omega
    show (textFrom (k + 1) _ r).length ≤ acc.length + (r.length + 1) * 1923
    omega
theorem shownAll_len : ∀ ds : List PyData, (PyData.shownAll ds).length = ds.length
  | [] => rfl
  | d :: ds => by
    simp only [PyData.shownAll, List.length_cons, shownAll_len ds]
def rRepr (K : PySem.W.Frag) : List V → Hp → VK → Prop := fun xs H Q => ∃ v, xs = [v] ∧
  ((flatB v = true ∧ Q (.str (reprV v)) H) ∨ ∃ a vs, v = .ref a ∧ SqL K H a vs ∧ vs.all flatB = true ∧ vs.length ≤ 1000 ∧ Q (.str (reprL vs)) H)
theorem cr_repr {X : Cx} (hgd : X.A.guards = some []) (hu : X.A.units + 64 < cLine) : CallR X (.builtin "repr") (rRepr X.K) := by
  intro pins s σ H xs us Q I rv h
  obtain ⟨v, rfl, h⟩ := h
  obtain ⟨u, rfl, rx⟩ := L2.vals1 rv
  rcases h with ⟨hf, q⟩ | ⟨a, vs, rfl, hs, hf, hz, q⟩
  · cases v with
    | non =>
      obtain rfl : u = Value.none := rx
      exact PySem.P.repr_of_none ⟨.str _, H, I.tok _, ⟨_, rfl⟩, q⟩
    | bl b =>
      obtain rfl : u = Value.bool b := rx
      refine PySem.P.repr_of_bool ?_
      exact ⟨.str (reprV (.bl b)), H, I.tok _, ⟨s.toks, by cases b <;> rfl⟩, q⟩
    | int i =>
      obtain ⟨t, rfl⟩ := rx
      exact PySem.P.repr_of_int (log_small (of_decide_eq_true hf)) ⟨.str _, H, I.tok _, ⟨_, rfl⟩, q⟩
    | _ => cases hf
  · obtain rfl : u = Value.ref a := rx
    obtain ⟨d1, d2, d3, d4, d5⟩ := dats_ok (K := X.K) (H := H) hf
    obtain ⟨as, r⟩ := Dp.reads I (.list (vs.map dat)) (.ref a) (.ref a) (.lst hs d1) rfl
    refine repr_of_reads' r (by simpa [PyData.showable] using d2) (fun e => ?_) hgd ?_ (fun _ _ e => e) (fun h' u tk hk => ?_) ?_
    · simp only [PyData.hasDict, d3] at e
      cases e
    · simp only [PyData.depth, d4]
      omega
    · exact ⟨.str _, H, I.kept (t' := tk) hk, ⟨u, rfl⟩, q⟩
    · have e1 : (PyData.shown (.list (vs.map dat))) = listText (PyData.shownAll (vs.map dat)) := by simp only [PyData.shown]
      rw [e1]
      unfold listText
      rw [strLen_append]
      have h1 := from_le (PyData.shownAll (vs.map dat)) 0 "[" d5
      rw [shownAll_len, List.length_map] at h1
      have h2 : (("[" : Str)).length = 1 := by decide +kernel
      have h3 : (("]" : Str)).length = 1 := by decide +kernel
      rw [h2] at h1
      rw [h3, sizeLine_eq]
      omega
theorem reprL_two : reprL [.bl true, .bl true] = ("[True, True]" : Str) := by decide +kernel

/-! ### enumerate of a tuple -/
/-- the tuple at a as it stands at each turn, each item in a new pair -/
def IteT (K : PySem.W.Frag) (a : Addr) : It where
  go := fun i H => ∃ (xs : List V) (x : V), SqT K H a xs ∧ xs[i]? = some x
  yld := fun i H v H' => ∃ T x, v = .ref T ∧ H T = none ∧ H' = upd H T (.tup [.int (i : Nat), x]) ∧ ∀ xs, SqT K H a xs → xs[i]? = some x
  stop := fun i H => ∃ xs : List V, SqT K H a xs ∧ xs.length ≤ i
theorem tup_enum_end {prog : Program} {w : World} {A : Around} {E : Value → Shared → Prop} {s : Shared} {e it t : Addr} {n : Int} {i : Nat} {items : Array Value} {old : Value} {Q : Option Value → Shared → Prop} (hh : A.handled = none)
    (he : IsEnum s.heap e it n old) (hit : s.heap.IsTupleIter it t i) (ht : s.heap.IsTuple t items) (hx : items[i]? = none) (hQ : ∀ h', Heap.ExtBut it s.heap h' → Q none { s with heap := h' }) : wpAny (model prog w) A (pyNext (.ref e)) Q E s := by
  have ty : s.TypeIs (.ref e) "enumerate" := ⟨_, he, rfl⟩
  have body : wpAny (model prog w) A.in1 (Builtin.«enumerate.__next__» ⟨[.ref e], []⟩) (fun _ _ => False) (fun x s' => ∃ h', Heap.ExtBut it s.heap h' ∧ s' = { s with heap := h' } ∧ ∃ a o, x = .ref a ∧ h'.get? a = some o ∧ o.cls = .type "StopIteration") s := by
    show wpAny _ _ (field (.ref e) 2 >>= _) _ _ s
    refine wpAny_bind (wpAny_field he rfl (x := .ref it) rfl (wpAny_bind (wpAny_nextOf_tuple_end hh hit ht hx fun h' a hk hs => ?_)))
    obtain ⟨o, ho, hc⟩ := hs
    exact ⟨h', hk, rfl, a, o, rfl, ho, hc⟩
  unfold pyNext
  refine wpAny_bind (wpAny_attempt (wpAny_callSpecial?_slot (name := Str.ofString "__next__") ty F.slot_enumerate_next (wpAny_call_entry F.slot_enumerate_next ty F.entry_enumerate_next (wpAny_mono body (fun _ _ z => z.elim) fun x s' z => ?_) (F.args_enumerate_next_1 _))))
  obtain ⟨h', hk, rfl, a, o, rfl, ho, hc⟩ := z
  refine wpAny_bind (wpAny_isInstance (T := "StopIteration") (b := true) ⟨o, ho, hc⟩ isSubtype_stop ?_)
  exact wpAny_pure (hQ _ hk)
theorem turn_enumT {P : Program} {w : World} {K : PySem.W.Frag} {elts : List Expr} {kk : Nat} {tpos : Pos} (a e it : Addr) :
    Turn P w K (.Tuple elts kk tpos) (IteT K a) [e, it] e (fun i h => (∃ old, IsEnum h e it ((i : Nat) : Int) old) ∧ h.IsTupleIter it a i ∧ e ≠ it ∧ a ≠ it ∧ e ≠ a) where
  mem := List.mem_cons_self
  obj := fun i h st b hb => by
    obtain ⟨⟨old, he⟩, ⟨o, ho, hc, hd⟩, _⟩ := st
    rcases List.mem_cons.mp hb with z | z
    · rw [z]; exact ⟨_, he, fun v q => nomatch q⟩
    · rw [List.mem_singleton.mp z]; exact ⟨o, ho, fun v q => by rw [hd] at q; cases q⟩
  keep := fun i h h' st k => by
    obtain ⟨⟨old, he⟩, hi, r⟩ := st
    exact ⟨⟨old, k e List.mem_cons_self _ he⟩, hi.at fun o q => k it (List.mem_cons_of_mem _ List.mem_cons_self) o q, r⟩
  item := by
    intro X hP hw hK hc i pins s σ H E I hf st hg
    subst hP hw hK
    obtain ⟨⟨old, he⟩, hit, hne, hai, hea⟩ := st
    obtain ⟨xs, x, hq, hx⟩ := hg
    obtain ⟨its, rv, p, hz⟩ := I.tuple hq
    obtain ⟨u, hu, ru⟩ := rv.get hx
    have hel : e < s.heap.objs.size := Heap.lt_size he
    have hil : it < s.heap.objs.size := by obtain ⟨_, q, _⟩ := hit; exact Heap.lt_size q
    have hlt : i < its.toArray.size := by
      have := (List.getElem?_eq_some_iff.mp hu).1
      simpa using this
    have D : Draws X.prog X.w X.A.in1 it [it, a] its.toArray.size (fun i v => its.toArray[i]? = some v) (fun i h => h.IsTupleIter it a i ∧ h.IsTuple a its.toArray) :=
      Draws.tuple (A := X.A.in1) (show X.A.in1.handled = none from I.ok.hd hc) it a hai its.toArray
    have hef : e ∉ [it, a] := fun z => by
      rcases List.mem_cons.mp z with q | q
      · exact hne q
      · exact hea (List.mem_singleton.mp q)
    refine wpAny_pyNext_enum_itemC D he ⟨hit, p⟩ hlt hne hef fun y h' tk hy ho st' hT hsz hk => ?_
    have ey : y = u := by
      have h1 : its[i]? = some y := by simpa using hy
      rw [hu] at h1
      exact (Option.some.inj h1).symm
    subst ey
    refine ⟨_, rfl, wpAny_letOwnedTupleGo_enum (s := { s with heap := h', toks := tk + 1 }) ho fun h'' he' sb => ?_⟩
    have hT2 : h''.get? s.heap.objs.size = some { cls := .type "tuple", data := .seq #[.int i tk, y] } := (sb.2 _ (Nat.ne_of_gt hel)).trans hT
    have new : ObjOk X.prog X.w (upd H s.heap.objs.size (.tup [.int (i : Nat), x])) h'' s.heap.objs.size (.tup [.int (i : Nat), x]) :=
      ⟨by show 2 ≤ sizeLine; decide, [.int i tk, y], .cons ⟨_, rfl⟩ (.cons ru .nil), ⟨_, hT2, rfl, _, rfl⟩⟩
    have I1 : Inv X pins σ (upd H s.heap.objs.size (.tup [.int (i : Nat), x])) { s with heap := h'', toks := tk + 1 } :=
      I.turnedNew (ch := [e, it]) (fun b ob hb q => by
        have n1 : b ≠ e := fun z => hb (by rw [z]; exact List.mem_cons_self)
        have n2 : b ≠ it := fun z => hb (by rw [z]; exact List.mem_cons_of_mem _ List.mem_cons_self)
        exact (sb.2 b n1).trans (hk b ob n1 n2 q)) hf (Nat.le_refl _) new
    refine ⟨.ref s.heap.objs.size, _, I1, rfl, ⟨_, x, rfl, I.hok.fresh (Nat.le_refl _), rfl, fun ys hy => by rw [I.tuple_inj hy hq]; exact hx⟩, ⟨⟨y, ?_⟩, st'.1.at fun o q => (sb.2 it (Ne.symm hne)).trans q, hne, hai, hea⟩, fun b hb => ?_⟩
    · have e1 : ((i + 1 : Nat) : Int) = (i : Int) + 1 := by omega
      rw [e1]; exact he'
    · have hb' : b < s.heap.objs.size := by
        rcases List.mem_cons.mp hb with z | z
        · rw [z]; exact hel
        · rw [List.mem_singleton.mp z]; exact hil
      rw [upd_ne (Nat.ne_of_lt hb')]
      exact (hf b hb).1
  done := by
    intro X hP hw hK hc i pins s σ H E I hf st hg
    subst hP hw hK
    obtain ⟨⟨old, he⟩, hit, hne, hai, hea⟩ := st
    obtain ⟨xs, hq, hx⟩ := hg
    obtain ⟨its, rv, p, hz⟩ := I.tuple hq
    obtain ⟨f0, f1, f2, f3, f4, f5⟩ := hf it (List.mem_cons_of_mem _ List.mem_cons_self)
    have hl := rv.length
    have hT : s.TypeIs (.ref e) "enumerate" := ⟨_, he, rfl⟩
    refine tup_enum_end (I.ok.hd hc) he hit p (by simp; omega) fun h' eb => ⟨rfl, I.turned (t' := s.toks) (fun b o hb q => eb b o hb q) f0 f1 f3 f4 f5⟩
  self := fun A i s Q E st h => by
    obtain ⟨⟨_, he⟩, _⟩ := st
    exact wpAny_pyIter_enum he h

theorem meets_enumT (a : Addr) (items : Array Value) :
    Meets (Builtin.«enumerate.__new__» ⟨[.type "enumerate", .ref a], []⟩) (fun _ R s => s.heap.IsTuple a items ∧ R (.ok (.ret (.ref (s.heap.push ({ cls := .type "tuple_iterator", data := .fields #[.ref a, .int 0 0] } : Obj)).objs.size)))
        { s with heap := (s.heap.push { cls := .type "tuple_iterator", data := .fields #[.ref a, .int 0 0] }).push { cls := .type "enumerate", data := .fields #[.none, .bool false, .ref s.heap.objs.size, rawInt 0, .none, .none] } }) :=
  .of_wp fun prog w A R s h => by
    obtain ⟨hp, g, d, tk, os⟩ := s
    obtain ⟨ht, h⟩ := h
    have hsub := sub_enumerate
    have q1 : ∀ {A' : Around} {E : Value → Shared → Prop} {Q : Value → Shared → Prop}, Q (.ref hp.objs.size) ⟨hp.push { cls := .type "tuple_iterator", data := .fields #[.ref a, .int 0 0] }, g, d, tk, os⟩ →
        wpAny (model prog w) A' (pyIter (.ref a)) Q E ⟨hp, g, d, tk, os⟩ := fun q => wpAny_pyIter_tuple (s := ⟨hp, g, d, tk, os⟩) ht q
    wp_walk using q1
    refine wpAny_stack_any fun st => wpAny_pure ?_
    split
    · rename_i c _ _ _ _ _
      cases (c == Value.type "enumerate") <;> (wp_walk using q1; exact ⟨_, rfl, h⟩)
    · wp_walk using q1
      exact ⟨_, rfl, h⟩
def iEnumT (K : PySem.W.Frag) (ta : TA) : TI := fun σ H R => ta σ H fun vs H1 => ∃ a xs, vs = [.ref a] ∧ SqT K H1 a xs ∧ R (IteT K a) H1
theorem pi_enumT {X : Cx} {e : Expr} {ta : TA} {p pos tpos : Pos} {elts : List Expr} {kk : Nat} (hg : Gl X "enumerate") (hm : X.mg "enumerate" = none) (ha : PA X [e] ta) (hs : starEach [e] X.env = [(false, eval e X.env)] := by rfl) :
    PI X (.Tuple elts kk tpos) (.Call (.Name "enumerate" p) [e] [] pos) (iEnumT X.K ta) := by
  refine ⟨fun pins s σ H R I h => ?_⟩
  refine Call_ (ld_blt I hg hm boot_enumerate (PyProof.Rows.callWith_type1 (thn (ha.run pos pins s σ H _ I h) fun us s1 hq => ?_) hs rfl))
  obtain ⟨vs, H1, I1, r1, a, xs, rfl, hx, q⟩ := hq
  obtain ⟨u, rfl, rx⟩ := L2.vals1 r1
  obtain rfl : u = Value.ref a := rx
  obtain ⟨its, rv, p', hz⟩ := I1.tuple hx
  refine callType_new F.called_enumerate (by decide) (F.typeCall_enumerate_1 _) (F.newCall_enumerate_1 _) (fun obj => F.args_object_init_2 obj _) F.entry_enumerate_new (meets_enumT a its.toArray) ⟨p', ?_⟩
  have sz : (s1.heap.push ({ cls := .type "tuple_iterator", data := .fields #[.ref a, .int 0 0] } : Obj)).objs.size = s1.heap.objs.size + 1 := Heap.size_push ..
  have al : a < s1.heap.objs.size := by obtain ⟨o, ho, _⟩ := p'; exact Heap.lt_size ho
  generalize hh : (s1.heap.push ({ cls := .type "tuple_iterator", data := .fields #[.ref a, .int 0 0] } : Obj)).push { cls := .type "enumerate", data := .fields #[.none, .bool false, .ref s1.heap.objs.size, rawInt 0, .none, .none] } = h2
  have he : IsEnum h2 (s1.heap.objs.size + 1) s1.heap.objs.size 0 .none := by
    have z := Heap.get?_push_size (s1.heap.push ({ cls := .type "tuple_iterator", data := .fields #[.ref a, .int 0 0] } : Obj)) (o := { cls := .type "enumerate", data := .fields #[.none, .bool false, .ref s1.heap.objs.size, rawInt 0, .none, .none] }) rfl
    rw [sz, hh] at z
    exact z
  have hit : h2.IsTupleIter s1.heap.objs.size a 0 := by
    rw [← hh]
    exact ⟨_, Heap.get?_push_of_some _ (Heap.get?_push_size _ rfl), rfl, rfl⟩
  have hk : ∀ b o, s1.heap.get? b = some o → h2.get? b = some o := fun b o q => by
    rw [← hh]
    exact Heap.get?_push_of_some _ (Heap.get?_push_of_some _ q)
  show _ ∧ _
  rw [sz]
  have I2 : Inv X pins σ H1 { s1 with heap := h2 } := I1.kept (t' := s1.toks) hk
  refine ⟨⟨_, he, rfl⟩, wpAny_pyIter_enum he ?_⟩
  refine ⟨s1.heap.objs.size + 1, [s1.heap.objs.size + 1, s1.heap.objs.size], _, _, H1, rfl, I2, turn_enumT a (s1.heap.objs.size + 1) s1.heap.objs.size, ⟨⟨.none, he⟩, hit, Nat.succ_ne_self _, Nat.ne_of_lt al, Nat.ne_of_gt (Nat.lt_succ_of_lt al)⟩, fun b hb => ?_, q⟩
  have hle : s1.heap.objs.size ≤ b := by
    rcases List.mem_cons.mp hb with z | z
    · rw [z]; exact Nat.le_succ _
    · rw [List.mem_singleton.mp z]; exact Nat.le_refl _
  exact I1.fpOk hle (I1.hok.fresh hle)
theorem walk_enumT {K : PySem.W.Frag} {a : Addr} {xs : List V} : Walk (IteT K a) xs.length (fun H => SqT K H a xs) (YPair (fun i => some (.int (i : Nat))) (fun i => xs[i]?)) where
  goes := fun i H hi hG => ⟨xs, xs[i], hG, List.getElem?_eq_getElem hi⟩
  stops := fun H hG => ⟨xs, hG, Nat.le_refl _⟩
  yields := fun i H x H' _ hG h => by
    obtain ⟨T, y, h1, h2, h3, h4⟩ := h
    exact ⟨T, _, y, h1, h2, h3, rfl, h4 xs hG⟩
end Gr

set_option maxHeartbeats 4000000
namespace Gr
open PySem PySem.Spec PyProof.Rows L2

/-! ### sorted of a tuple of ints -/
section
variable {prog : Program} {w : World} {A : Around} {E : Value → Shared → Prop} {s : Shared}
theorem sorted_tup {t : Addr} {vs : List Value} {ns : List Int} {Q : Value → Shared → Prop} (ht : IsTup s.heap t vs.toArray) (hI : IntsAre vs ns) (hz : vs.length ≤ sizeLine)
    (h : ∀ (out : List Value) (h1 h' : Heap), SrtO.Srtd SrtO.ltIv out → SrtO.Stb SrtO.ltIv out vs → (∀ b o, s.heap.get? b = some o → h1.get? b = some o) → (∀ b o, h1.get? b = some o → h'.get? b = some o) →
      (∃ n, h'.get? h1.objs.size = some (seqObj "list" out.toArray n)) → Q (.ref h1.objs.size) { s with heap := h' }) :
    wpAny (model prog w) A (call (.builtin "sorted") [.ref t]) Q E s := by
  obtain ⟨o, ho, hc, n, hd⟩ := ht
  refine Calls.call_function_entry kind_sorted plain_sorted entry_sorted (args_sorted1 _) ?_
  unfold Builtin.«sorted»
  refine wpAny_bind (m := checkCount "sorted" 1 1 _) (wpAny_pure ?_)
  refine wpAny_bind (wpAny_collect_seq t (.inr rfl) ho hc hd (fun h1 k1 => ?_) (by rw [List.size_toArray]; exact hz))
  show wpAny _ _ (newList vs >>= _) _ _ { s with heap := h1 }
  refine wpAny_bind (wpAny_newList ?_ hz)
  have hoL : (h1.push (seqObj "list" vs.toArray 0)).get? h1.objs.size = some (seqObj "list" vs.toArray 0) := Heap.get?_push_size _ rfl
  refine wpAny_bind (wpAny_holding (wpAny_call_entry slot_list_sort ⟨_, hoL, rfl⟩ entry_list_sort
    (SrtO.list_sort_ord SrtO.swo_int hoL hz (fun h2 => SrtO.ints_sortable hI h2) fun out hs hb => ⟨_, rfl, ?_⟩) (args_list_sort _)))
  refine wpAny_pure ⟨_, rfl, h out h1 _ hs hb k1 (fun b o q => ?_) (sortedHeap_at hoL)⟩
  have hlt : b < h1.objs.size := Heap.lt_size q
  rw [sortedHeap_old (Nat.ne_of_lt hlt) (by rw [size_push']; exact Nat.lt_succ_of_lt hlt)]
  exact Heap.get?_push_of_some _ q
end
def rSortedT (K : PySem.W.Frag) : List V → Hp → VK → Prop := fun vs H Q => ∃ (a : Addr) (ns : List Int), vs = [V.ref a] ∧ SqT K H a (ns.map V.int) ∧
  ∀ (ns' : List Int) (p : Addr), ns'.Perm ns → ns'.Pairwise (· ≤ ·) → H p = none → Q (.ref p) (upd H p (.lst (ns'.map V.int)))
theorem cr_sortedT {X : Cx} : CallR X (.builtin "sorted") (rSortedT X.K) := by
  intro pins s σ H vs us Q I r h
  obtain ⟨a, ns, rfl, hs, q⟩ := h
  obtain ⟨its, rv, pt, hz⟩ := I.tuple hs
  obtain ⟨u, rfl, ru⟩ := L2.vals1 r
  obtain rfl : u = Value.ref a := ru
  have hi := rv.ints
  refine sorted_tup pt hi (by rw [← rv.length]; exact hz) fun out h1 h' o1 o2 k1 k2 hat => ?_
  obtain ⟨j1, j2, j3⟩ := SrtO.ints_out hi o1 o2
  obtain ⟨n, hat⟩ := hat
  have hlen : ((out.map SrtO.iv).map V.int).length ≤ sizeLine := by
    rw [List.length_map, j2.length_eq, ← List.length_map (f := V.int)]
    exact hz
  have I1 : Inv X pins σ H { s with heap := h1 } := I.kept (t' := s.toks) k1
  exact ⟨.ref _, _, I1.laid (a := h1.objs.size) (o := .lst ((out.map SrtO.iv).map V.int)) (t' := s.toks) k2 (Nat.le_refl _) ⟨hlen, out, n, vals_of_ints j1, hat⟩, rfl, q _ _ j2 j3 (I1.hok.fresh (Nat.le_refl _))⟩

/-! ### tuple(list), the object known; t.index(n) of such -/
/-- a tuple that is known to the object, without a dict -/
def TupF (H : Hp) (a : Addr) (xs : List V) : Prop := ∃ o : Obj, H a = some (.frz o (.tup xs)) ∧ o.dict = none
theorem TupF.sq {K : PySem.W.Frag} {H : Hp} {a : Addr} {xs : List V} (h : TupF H a xs) : SqT K H a xs := by
  obtain ⟨o, ho, _⟩ := h
  exact .inl (.inr ⟨o, ho⟩)
theorem TupF.same {H H' : Hp} {a : Addr} {xs : List V} (e : Same H H') (h : TupF H a xs) : TupF H' a xs := by
  obtain ⟨o, ho, hd⟩ := h
  exact ⟨o, e _ _ ho, hd⟩
def rTupF (K : PySem.W.Frag) : List V → Hp → VK → Prop := fun xs H Q => ∃ p ys, xs = [.ref p] ∧ SqL K H p ys ∧ ∀ l o, H l = none → o.dict = none → Q (.ref l) (upd H l (.frz o (.tup ys)))
theorem cr_tupF {X : Cx} : CallR X (.type "tuple") (rTupF X.K) := by
  intro pins s σ H xs us Q I r h
  obtain ⟨p, ys, rfl, hq, q⟩ := h
  obtain ⟨u, rfl, rx⟩ := L2.vals1 r
  obtain rfl : u = Value.ref p := rx
  obtain ⟨its, r', pl, hz⟩ := I.list hq
  have hlen := r'.length
  refine call_tuple_list pl.isList (fun h' kp => ?_) (by simp only [List.size_toArray] <;> omega)
  have I1 : Inv X pins σ H { s with heap := h' } := I.kept (t' := s.toks) kp
  have at' : (h'.push ({ cls := .type "tuple", data := .seq its.toArray } : Obj)).get? h'.objs.size = some { cls := .type "tuple", data := .seq its.toArray } := Heap.get?_push_size _ rfl
  exact ⟨.ref h'.objs.size, _, I1.laid (a := h'.objs.size) (o := .frz { cls := .type "tuple", data := .seq its.toArray } (.tup ys)) (t' := s.toks) (fun b o e => Heap.get?_push_of_some _ e) (Nat.le_refl _)
    ⟨at', hz, its, r', ⟨_, at', rfl, _, rfl⟩⟩, rfl, q _ _ (I1.hok.fresh (Nat.le_refl _)) rfl⟩
theorem flat_ints (ns : List Int) : (ns.map V.int).all flatV = true := by
  rw [List.all_map]
  exact List.all_eq_true.mpr fun _ _ => rfl
/-- t.index(k), the first place -/
def tIx (to te : TE) : TE := fun σ H Q => to σ H fun x H1 => ∃ (a : Addr) (ns : List Int), x = .ref a ∧ TupF H1 a (ns.map V.int) ∧ te σ H1 fun y H2 => ∃ (k : Int) (j : Nat), y = .int k ∧ TupF H2 a (ns.map V.int) ∧
  ns[j]? = some k ∧ (∀ m, m < j → ns[m]? ≠ some k) ∧ Q (.int (j : Nat)) H2
theorem mt_tupIx {X : Cx} {pins : List (Addr × Obj)} {s : Shared} {σ : L2.St} {H : Hp} {a : Addr} {ns : List Int} {k : Int} {t : Tok} {j : Nat} {Q : VK} (I : Inv X pins σ H s) (hq : SqT X.K H a (ns.map V.int)) (hy : ns[j]? = some k) (hno : ∀ m, m < j → ns[m]? ≠ some k) (q : Q (.int (j : Nat)) H) :
    wpAny (model X.prog X.w) X.A (call (.builtin "tuple.index") [.ref a, .int k t]) (EP X pins σ Q) X.xe s := by
  obtain ⟨its, r, pl, hz⟩ := I.tuple hq
  obtain ⟨⟨cls, dd, dt, sl⟩, ho, hc, n, hd⟩ := pl
  simp only at hc hd
  subst hc
  subst hd
  have hl : its.toArray.size = ns.length := by rw [List.size_toArray, ← r.length, List.length_map]
  have hj : j < its.toArray.size := by rw [hl]; exact (List.getElem?_eq_some_iff.mp hy).1
  have at' : ∀ (m : Nat) (hm : m < its.toArray.size), ∃ y t', ns[m]? = some y ∧ its.toArray[m] = Value.int y t' := fun m hm => by
    have hm' : m < ns.length := by rw [← hl]; exact hm
    obtain ⟨v, hv, t', hv'⟩ := r.get (i := m) (x := .int ns[m]) (by simp [hm'])
    have e := (List.getElem?_eq_some_iff.mp hv).2
    exact ⟨ns[m], t', List.getElem?_eq_getElem hm', by rw [← hv', ← e]; simp⟩
  refine call_meets PySem.F.slot_tuple_index ⟨_, ho, rfl⟩ PySem.F.entry_tuple_index (PySem.F.args_tuple_index_2 _ _) (TI.tuple_indexAt a its.toArray n dd sl (.int k t) (eqU (.int k)) j hj ?_ ?_)
    ⟨ho, fun v hv => mem_eqAt (x := .int k) ⟨t, rfl⟩ rfl r (flat_ints ns) v (by simpa using hv), ⟨.int (j : Nat), H, I.tok _, ⟨_, rfl⟩, q⟩⟩
  · obtain ⟨y, t', h1, h2⟩ := at' j hj
    rw [hy] at h1
    cases h1
    rw [h2]
    show (k == k) = true
    exact beq_self_eq_true k
  · intro m hm hmj
    obtain ⟨y, t', h1, h2⟩ := at' m hm
    rw [h2]
    show (y == k) = false
    exact beq_eq_false_iff_ne.mpr fun e => hno m hmj (e ▸ h1)
theorem pe_tupIx {X : Cx} {o e : Expr} {to te : TE} {apos cpos : Pos} (ho : PE X o to) (he : PE X e te) (hbase : attributeBase o "index" X.env (eval o X.env) = eval o X.env := by rfl)
    (hfew : ((backTo cpos (starEach [e] X.env)).all (fun x => !x.1) && (backToKw cpos (keywordEach [] X.env)).all (fun x => x.1.isSome) && decide ([e].length + ([] : List Keyword).length + (if ([] : List Keyword).isEmpty then 0 else 1) < 30)) = true := by rfl)
    (hline : (apos.endLine == cpos.line) = true := by rfl) (hs : starEach [e] X.env = (false, eval e X.env) :: starEach [] X.env := by rfl) :
    PE X (.Call (.Attribute o "index" apos) [e] [] cpos) (tIx to te) := by
  refine ⟨fun pins s σ H Q I h => ?_⟩
  refine wpAny_Call_method_late hbase hfew hline rfl (thn (ho.run pins s σ H _ I h) fun v s1 hv => ?_)
  obtain ⟨x, H1, I1, rx, a, ns, rfl, hF, q1⟩ := hv
  obtain rfl : v = Value.ref a := rx
  obtain ⟨ob, hob, hd⟩ := hF
  obtain ⟨g1, _, its, r, o2, g2, c2, _⟩ := I1.hok a _ hob
  have eo : o2 = ob := by rw [g1] at g2; exact (Option.some.inj g2).symm
  subst eo
  refine ⟨"tuple", _, PySem.F.plainAttrs_tuple, PySem.F.slot_tuple_index, PySem.F.type_tuple_index, ⟨o2, g1, c2⟩, fun b eb => ?_, ?_⟩
  · cases eb
    exact ⟨o2, g1, hd⟩
  rw [hs]
  refine Calls.callWith_builtin (by rfl) (Calls.evalArgs_plain ?_)
  show wpAny _ _ (spliced ((false, eval e X.env) :: backTo cpos (starEach [] X.env))) _ _ s1
  refine Calls.spliced_cons (thn (he.run pins s1 σ H1 _ I1 q1) fun u s2 hu => Calls.spliced_nil ?_)
  obtain ⟨y, H2, I2, ry, k, j, rfl, hF2, hy, hno, q⟩ := hu
  obtain ⟨t, rfl⟩ := ry
  exact mt_tupIx I2 hF2.sq hy hno q

/-! ### t[::-1] of a tuple -/
theorem applied_rev {prog : Program} {w : World} {A : Around} {E : Value → Shared → Prop} {s : Shared} {sl : Addr} {vs : Value} {n : Nat} {Q : Int × Int × Nat → Shared → Prop} (hs : s.heap.IsSliceOf sl .none .none vs) (ps : IsPart vs (some (-1)))
    (h : Q ((n : Int) - 1, -1, n) s) : wpAny (model prog w) A (Builtin.Slice.sliceApplied (.ref sl) (pure (n : Int))) Q E s := by
  obtain ⟨os, hos, hcs, hds⟩ := id hs
  unfold Builtin.Slice.sliceApplied Builtin.Slice.sliceFields
  refine wpAny_bind (wpAny_bind (wpAny_field hos hds (x := .none) rfl (wpAny_bind (wpAny_field hos hds (x := .none) rfl (wpAny_bind (wpAny_field hos hds (x := vs) rfl (wpAny_pure ?_)))))))
  refine wpAny_bind (HT.slicePart_ ps ?_)
  show wpAny _ _ (if ((-1 : Int) == 0) = true then _ else _) _ _ s
  rw [if_neg (by decide)]
  refine wpAny_bind (slicePart_none (wpAny_bind (slicePart_none (wpAny_bind (wpAny_pure ?_)))))
  have e1 : Builtin.Slice.sliceAdjust none none (-1) (n : Int) = ((n : Int) - 1, -1) := rfl
  show wpAny _ _ (match Builtin.Slice.sliceAdjust none none (-1) (n : Int) with | (lo, hi) => pure (lo, (-1 : Int), Builtin.Slice.slicePlaces lo hi (-1))) _ _ s
  rw [e1]
  have e2 : Builtin.Slice.slicePlaces ((n : Int) - 1) (-1) (-1) = n := by
    unfold Builtin.Slice.slicePlaces
    rw [if_neg (by decide)]
    by_cases h0 : n = 0
    · subst h0
      rw [if_neg (by decide)]
      rfl
    · rw [if_pos (by omega)]
      have e3 : -(-1 : Int) = 1 := rfl
      rw [e3, Int.ediv_one]
      omega
  show wpAny _ _ (pure ((n : Int) - 1, (-1 : Int), Builtin.Slice.slicePlaces ((n : Int) - 1) (-1) (-1))) _ _ s
  rw [e2]
  exact wpAny_pure h
theorem range_get {α : Type} (l : List α) : ∀ n, n ≤ l.length → (List.range n).filterMap (fun k => l[k]?) = l.take n
  | 0, _ => by simp
  | n + 1, h => by
    have ih := range_get l n (by omega)
    rw [List.range_succ, List.filterMap_append, ih, List.filterMap_cons, List.getElem?_eq_getElem (by omega), List.take_succ, List.getElem?_eq_getElem (by omega)]
    rfl
theorem fm_congr {α β : Type} {f g : α → Option β} : ∀ l : List α, (∀ x ∈ l, f x = g x) → l.filterMap f = l.filterMap g
  | [], _ => rfl
  | a :: l, h => by
    rw [List.filterMap_cons, List.filterMap_cons, h a List.mem_cons_self, fm_congr l fun x hx => h x (List.mem_cons_of_mem _ hx)]
theorem pick_rev (xs : List Value) : ((List.range xs.toArray.size).filterMap fun (k : Nat) => xs.toArray[(((xs.toArray.size : Nat) : Int) - 1 + (k : Int) * -1).toNat]?).toArray = xs.reverse.toArray := by
  refine congrArg List.toArray ?_
  have e1 : ((List.range xs.toArray.size).filterMap fun (k : Nat) => xs.toArray[(((xs.toArray.size : Nat) : Int) - 1 + (k : Int) * -1).toNat]?) = (List.range xs.reverse.length).filterMap fun k => xs.reverse[k]? := by
    rw [List.length_reverse, List.size_toArray]
    refine fm_congr _ fun k hk => ?_
    have hk' : k < xs.length := List.mem_range.mp hk
    rw [List.getElem?_reverse hk', List.getElem?_toArray]
    congr 1
    omega
  rw [e1, range_get _ _ (Nat.le_refl _), List.take_length]
theorem item_rev {prog : Program} {w : World} {A : Around} {E : Value → Shared → Prop} {s : Shared} {t sl : Addr} {its : List Value} {vs : Value} {Q : Value → Shared → Prop} (ht : IsTup s.heap t its.toArray) (hs : s.heap.IsSliceOf sl .none .none vs) (ps : IsPart vs (some (-1)))
    (h : Q (.ref s.heap.objs.size) { s with heap := s.heap.push { cls := .type "tuple", data := .seq its.reverse.toArray } }) (hsz : its.length ≤ sizeLine) : wpAny (model prog w) A (getItem (.ref t) (.ref sl)) Q E s := by
  have fits : sizeOk (.seq its.reverse.toArray) := by
    show its.reverse.toArray.size ≤ sizeLine
    rw [List.size_toArray, List.length_reverse]
    exact hsz
  obtain ⟨os, hos, hcs, hds⟩ := id hs
  have ty : s.TypeIs (.ref sl) "slice" := ⟨os, hos, hcs⟩
  unfold getItem
  try with_reducible refine wpAny_holding ?_
  first | refine wpAny_bind (wpAny_pure ?_) | skip
  refine wpAny_bind (wpAny_sequenceKey ht.typeIs (by decide) (wpAny_bind (wpAny_callSpecial?_slot (name := Str.ofString "__getitem__") ht.typeIs PyProof.Rows.slot_tuple_getitem (wpAny_call_entry PyProof.Rows.slot_tuple_getitem ht.typeIs entry_tuple_getitem ?_ (args_tuple_getitem _ _)))))
  show wpAny _ _ (Builtin.Tuple.tupleItemsOf (.ref t) >>= _) _ _ s
  refine wpAny_bind (tupleItemsOf_ ht (wpAny_bind (wpAny_typeOf ty ?_)))
  rw [if_pos (by decide)]
  refine wpAny_bind (applied_rev hs ps ?_)
  have hno : ¬ ((((its.toArray.size : Nat) : Int) - 1 == 0 && (-1 : Int) == 1 && its.toArray.size == its.toArray.size) = true) := by
    intro q
    rw [Bool.and_eq_true, Bool.and_eq_true] at q
    exact absurd (eq_of_beq q.1.2) (by decide)
  show wpAny _ _ (if (((its.toArray.size : Nat) : Int) - 1 == 0 && (-1 : Int) == 1 && its.toArray.size == its.toArray.size) = true then _ else _) _ _ s
  rw [if_neg hno, pick_rev]
  first
    | exact wpAny_bind (m := Builtin.Tuple.tupleExact _) (wpAny_newObj_type (wpAny_pure ⟨_, rfl, wpAny_pure h⟩) fits)
    | exact wpAny_bind (m := Builtin.Tuple.tupleExact _) (wpAny_newObj_type (wpAny_bind (wpAny_pure (wpAny_pure ⟨_, rfl, wpAny_pure h⟩))) fits)
    | exact wpAny_bind (wpAny_bind (m := Builtin.Tuple.tupleExact _) (wpAny_newObj_type (wpAny_pure (wpAny_pure ⟨_, rfl, wpAny_pure h⟩)) fits))
    | exact wpAny_bind (wpAny_bind (m := Builtin.Tuple.tupleExact _) (wpAny_newObj_type (wpAny_pure ⟨_, rfl, wpAny_pure h⟩) fits))
def tRevT (K : PySem.W.Frag) (te : TE) : TE := fun σ H Q => te σ H fun x H1 => ∃ a xs, x = .ref a ∧ SqT K H1 a xs ∧ ∀ p, H1 p = none → Q (.ref p) (upd H1 p (.tup xs.reverse))
theorem pe_revT {X : Cx} {e : Expr} {te : TE} {k : Nat} {p1 p2 p3 pos : Pos} (he : PE X e te) : PE X (.Subscript e (.Slice none none (some (.UnaryOp .USub (.Constant (.int 1) k p1) p2)) p3) pos) (tRevT X.K te) := by
  refine ⟨fun pins s σ H Q I h => ?_⟩
  refine Subscript_ (thn (he.run pins s σ H _ I h) fun v s1 hv => ?_)
  obtain ⟨x, H1, I1, rx, a, xs, rfl, hx, q⟩ := hv
  obtain rfl : v = Value.ref a := rx
  have st : PO X (some (.UnaryOp .USub (.Constant (.int 1) k p1) p2)) (tPart (tUn (rU fun i => .int (-i)) (tC (.int 1)))) := po_some (pe_un un_neg pe_int)
  refine wpAny_Slice (thn (po_none.run pins s1 σ H1 (fun o H2 => o = none ∧ H2 = H1) I1 ⟨rfl, rfl⟩) fun vl s2 h2 => ?_)
  obtain ⟨l, H2, I2, pl, rfl, rfl⟩ := h2
  refine thn (po_none.run pins s2 σ H2 (fun o H3 => o = none ∧ H3 = H2) I2 ⟨rfl, rfl⟩) fun vu s3 h3 => ?_
  obtain ⟨u, H3, I3, pu, rfl, rfl⟩ := h3
  refine thn (st.run pins s3 σ H3 (fun o H4 => o = some (-1) ∧ H4 = H3) I3 ⟨1, rfl, -1, rfl, rfl, rfl⟩) fun vs s4 h4 => ?_
  obtain ⟨o, H4, I4, ps, rfl, rfl⟩ := h4
  cases pl
  cases pu
  have I5 : Inv X pins σ H4 { s4 with heap := s4.heap.push { cls := .type "slice", data := .fields #[.none, .none, vs] } } := I4.kept (t' := s4.toks) fun b ob q => Heap.get?_push_of_some _ q
  obtain ⟨its, r, ht, hz⟩ := I5.tuple hx
  show wpAny (model X.prog X.w) X.A (subscriptTail e (.Slice none none (some (.UnaryOp .USub (.Constant (.int 1) k p1) p2)) p3) (.ref a) (.ref s4.heap.objs.size)) (EP X pins σ Q) X.xe { s4 with heap := s4.heap.push { cls := .type "slice", data := .fields #[.none, .none, vs] } }
  refine tail_any (ops := [.ref a, .ref s4.heap.objs.size]) ht.typeIs (PyProof.Rows.slot_tuple_getitem.lookup) ?_ (by with_unfolding_all rfl)
  refine item_rev ht (Heap.IsSliceOf.new _ .none .none vs) ps ?_ (by rw [← r.length]; exact hz)
  refine ⟨.ref _, _, I5.laid (t' := s4.toks) (o := .tup xs.reverse) (fun b ob q => Heap.get?_push_of_some _ q) (Nat.le_refl _) ?_, rfl, q _ (I5.hok.fresh (Nat.le_refl _))⟩
  exact ⟨by rw [List.length_reverse]; exact hz, _, r.reverse, ⟨_, Heap.get?_push_size _ rfl, rfl, _, rfl⟩⟩

/-! ### t * 1 -/
theorem tuple_mul1 (l : Addr) (items : Array Value) (n : Nat) (dd : Option Addr) (sl : Array (Option Value)) (u : Tok) :
    Meets (Builtin.«tuple.__mul__» ⟨[.ref l, .int 1 u], []⟩) (fun _ R s => s.heap.get? l = some { cls := .type "tuple", dict := dd, data := .seq items n, slots := sl } ∧ R (.ok (.ret (Value.ref l))) s) :=
  .of_wp fun prog w A R s h => by
    obtain ⟨hp, g, d, tk, os⟩ := s
    obtain ⟨hl, h⟩ := h
    have f1 := AutoSeq1.idx_int
    have c1 : (items.isEmpty || (1 : Int) == 1) = true := by cases items.isEmpty <;> rfl
    wp_walk using wpAny_loadPart' hl
    exact ⟨_, rfl, h⟩
/-- t * 1: t itself; t * k, k from 2 on: a new tuple -/
def rRep1 (K : PySem.W.Frag) : R2 := fun x y H Q => ∃ l xs, x = .ref l ∧ y = .int 1 ∧ SqT K H l xs ∧ Q (.ref l) H
theorem op_rep1 {X : Cx} : OpR X (binaryOp .Mult) (rRep1 X.K) := by
  intro pins s σ H x y v u Q I rx ry h
  obtain ⟨l, xs, rfl, rfl, hT, q⟩ := h
  obtain rfl : v = Value.ref l := rx
  obtain ⟨t, rfl⟩ := ry
  obtain ⟨its, r, ⟨⟨cls, dd, data, sl⟩, ho, hc, n, hd⟩, hs⟩ := I.tuple hT
  simp only at hc hd
  subst hc hd
  have go : wpAny (model X.prog X.w) X.A (call (.builtin "tuple.__mul__") [.ref l, .int 1 t]) (EP X pins σ Q) X.xe s :=
    call_meets F.slot_tuple_mul ⟨_, ho, rfl⟩ F.entry_tuple_mul (F.args_tuple_mul_2 _ _) (tuple_mul1 l its.toArray n dd sl t) ⟨ho, ⟨.ref l, H, I, rfl, q⟩⟩
  exact wpAny_binaryOp_repeat_ref (T := "tuple") (U := "int") (by decide) ⟨_, ho, rfl⟩ (fun s' => typeIs_int s' 1 t) noFill_tuple_mul F.fills_int_mul F.slot_int_rmul repeat_tuple F.slot_int_index.lookup
    (call_meets F.slot_int_rmul (typeIs_int s 1 t) F.entry_int_rmul (F.args_int_rmul_2 _ _) (int_rmul_tuple 1 t l its.toArray n dd sl) ⟨ho, rfl, ⟨_, ho, rfl⟩, go⟩)
theorem op_repA {X : Cx} : OpR X (binaryOp .Mult) (fun x y H Q => rRepT X.K x y H Q ∨ rRep1 X.K x y H Q) := OpR.or op_repT op_rep1

/-! ### the end -/
/-- from a heap in which nothing but the script is tracked -/
theorem law_core {P : Program} {w : World} {K : PySem.W.Frag} {mg mb : Str → Option Value} {k : Nat} {fa a : Addr} {fd : FuncData} {x : Str} {sp : Pr} {s1 : Shared} {H : Hp} {xs : List V} {ob : Obj}
    (KX : K.In s1.heap) (hns : s1.heap.Ns mainGlobals mg) (hb : s1.heap.Ns builtinsNs mb) (hbb : ∀ y : Str, y ≠ "__name__" → mb y = bootBuiltins y) (hlim : s1.heap.NoLimit) (hg : s1.gens = #[]) (hr : RoomG k callerA)
    (F : ∀ base : Heap, K.In base → base.Ns mainGlobals mg → FnG P w K mg base k fa fd [x] sp) (hbind : ∀ u : Value, bindArgs fd ⟨[u], []⟩ = pure [(x, u)])
    (ha : s1.heap.get? a = some ob) (hL : ∀ es ep, ob.data ≠ .dict es ep) (hO : ∀ b u, H b = some u → b = a ∧ u = .frz ob (.lst xs)) (hok : HOk P w H s1.heap) (hK : H a ≠ none → K.lookup a = none)
    (hsp : sp [.ref a] H (fun v _ => v = .bl true)) :
    codeAny (model P w) callerA (.call (.ref fa) ⟨[.ref a], []⟩) (fun r s' => r = .ok (.ret (.bool true)) ∧ OldK s1.heap s'.heap ∧ s'.os = s1.os ∧ AllBare s'.gens) s1 := by
  have free : ∀ {b : Addr} {o : Obj} {es : Array DictEntry} {ep : Nat}, s1.heap.get? b = some o → o.data = .dict es ep → H b = none := by
    intro b o es ep e d
    cases q : H b with
    | none => rfl
    | some u =>
      obtain ⟨rfl, _⟩ := hO b u q
      rw [ha] at e
      cases e
      exact absurd d (hL _ _)
  have ns : ∀ {b : Addr} {m : Str → Option Value}, s1.heap.Ns b m → (hidT s1.heap H).Ns b m := by
    rintro b m ⟨o, es, ep, e, d, r⟩
    exact ⟨o, es, ep, hidT_get e (free e d), d, r⟩
  have kin : K.In (hidT s1.heap H) := by
    intro b o e
    refine hidT_get (KX b o e) ?_
    cases q : H b with
    | none => rfl
    | some u =>
      obtain ⟨rfl, _⟩ := hO b u q
      rw [hK (by rw [q]; exact fun z => nomatch z)] at e
      cases e
  obtain ⟨mc, l1, l2⟩ := hlim
  have md : Mod K mg (hidT s1.heap H) := ⟨kin, ns hns, ⟨mb, ns hb, hbb⟩, ⟨mc, ns l1, l2⟩⟩
  have nof : ∀ b : Addr, b ∉ frs ([] : List Env) := fun b z => nomatch z
  have e0 : Env0 P w K mg (hidT s1.heap H) callerA [] s1 H := ⟨rfl, md, fun b o e => of_hidT e, Nat.le_of_eq (hidT_size _ _), trivial, fun b hb => absurd hb (nof b), hok, .of_eq hg⟩
  refine codeAny_mono ((F _ kin (ns hns)).run callerA [] s1 H ⟨[.ref a], []⟩ [.ref a] [.ref a] _ hr e0 (.of_eq (hbind _)) (.cons rfl .nil) hsp) fun r s' h => ?_
  cases r with
  | error e => exact False.elim h
  | ok fl =>
    cases fl with
    | ret u =>
      obtain ⟨v, H', os, bare, un, hok', rv, q⟩ := h
      have q' : v = .bl true := q
      subst q'
      obtain rfl : u = Value.bool true := rv
      refine ⟨rfl, OldK.of_keep fun b o e => ?_, os, bare⟩
      cases q : H b with
      | none => exact un.keep b o e q (nof b) (by simp)
      | some u =>
        obtain ⟨rfl, rfl⟩ := hO b u q
        obtain ⟨e1, _⟩ := hok b _ q
        obtain ⟨e2, _⟩ := hok' b _ (un.frzs b ob _ q)
        rw [e] at e1
        cases e1
        exact e2
    | _ => exact False.elim h
/-- a law's end: F gives the written part, the law's def, its promise over every base -/
theorem walk_go {l : PySem.W.OpenLaw} {n k : Nat} {q : Program} {loose : List Str} {XP : (Str → Option Value) → Heap → Prop} {YP : World → Heap → Prop} {d : DefRec} {x : Str} (hn : l.most = some n) (hn2 : n ≤ sizeLine) (hdf : d.params.defaults = []) (hr : RoomG k callerA)
    (F : ∀ (w : World) (mg : Str → Option Value) (fa : Addr) (h : Heap), YP w h → h.Ns mainGlobals mg → mg d.name = some (.ref fa) →
      ∃ (K : PySem.W.Frag) (fd : FuncData) (sp : Pr), K.In h ∧ (∀ u : Value, bindArgs fd ⟨[u], []⟩ = pure [(x, u)]) ∧ (∀ (H : Hp) (a : Addr) (ns : List Int), ns.length ≤ n → SqL K H a (ns.map V.int) → sp [.ref a] H (fun v _ => v = .bl true)) ∧
        ∀ base : Heap, K.In base → base.Ns mainGlobals mg → FnG l.prog w K mg base k fa fd [x] sp) :
    PySem.W.WalkO q loose XP YP l.row.toRowW d [] (fun f vs => PySem.call f vs) := by
  refine Att.attach_call hn hdf fun w s0 s1 mg mb fa o pm cd doc a vs ns G Y ho hd hcd hmg hobj hints hlen hg => ?_
  obtain ⟨K, fd, sp, KX, hb, hsp, hF⟩ := F w mg fa _ Y G.T.g hmg
  have rv := vals_ints hints
  have hz : (ns.map V.int).length ≤ sizeLine := by rw [List.length_map]; exact Nat.le_trans hlen hn2
  cases hk : K.lookup a with
  | some ob =>
    have e := KX a ob hk
    rw [hobj] at e
    cases e
    refine law_core (H := fun _ => none) (xs := []) KX G.T.g G.T.b G.T.builtins G.T.nolimit hg hr hF hb hobj (fun es ep z => nomatch z) (fun b u z => nomatch (show (none : Option HO) = some u from z)) (fun b u z => nomatch (show (none : Option HO) = some u from z)) (fun z => absurd rfl z) ?_
    refine hsp _ a ns hlen (.inr ⟨_, vs.toArray, _, hk, rfl, rfl, rfl, ?_, by simpa using rv⟩)
    rw [List.size_toArray, ← rv.length]
    exact hz
  | none =>
    have at' : (fun b => if b = a then some (HO.frz { cls := .type "list", data := .seq vs.toArray } (.lst (ns.map V.int))) else none : Hp) a = some (.frz { cls := .type "list", data := .seq vs.toArray } (.lst (ns.map V.int))) := if_pos rfl
    have inv : ∀ b u, (fun b => if b = a then some (HO.frz { cls := .type "list", data := .seq vs.toArray } (.lst (ns.map V.int))) else none : Hp) b = some u → b = a ∧ u = .frz { cls := .type "list", data := .seq vs.toArray } (.lst (ns.map V.int)) := by
      intro b u z
      by_cases hb : b = a
      · exact ⟨hb, (Option.some.inj ((if_pos hb).symm.trans z)).symm⟩
      · exact nomatch (if_neg hb).symm.trans z
    refine law_core (xs := ns.map V.int) KX G.T.g G.T.b G.T.builtins G.T.nolimit hg hr hF hb hobj (fun es ep z => nomatch z) inv (fun b u z => ?_) (fun _ => hk) (hsp _ a ns hlen (.inl (.inr ⟨_, at'⟩)))
    obtain ⟨rfl, rfl⟩ := inv b u z
    exact ⟨hobj, hz, vs, _, rv, hobj⟩
end Gr

set_option maxHeartbeats 4000000
namespace Gr
open PySem PySem.Spec PyProof.Rows L2

/-! ### what the program computes, on plain lists -/
def opn (hs : List Int) (t : Int) : Bool := decide (hs.getD (t % (hs.length : Int)).toNat 0 = 1)
def crowdedBy (ns : List Int) (i : Nat) (p : Int × Int) : Bool := decide (p.1 ≤ (i : Int)) && decide (ns.getD i 0 < ns.getD (i - p.1.toNat) 0 + p.2)
def crowded (L : List (Int × Int)) (ns : List Int) (i : Nat) : Bool := L.any (crowdedBy ns i)
def badAt (L : List (Int × Int)) (hs ns : List Int) (i : Nat) : Bool := !opn hs (ns.getD i 0) || crowded L ns i
def firstBad (L : List (Int × Int)) (hs ns : List Int) : Option Nat := (List.range ns.length).find? (badAt L hs ns)
def optV : Option Nat → V
  | none => .non
  | some i => .int (i : Int)

structure LimOk (L : List (Int × Int)) : Prop where
  len : L.length ≤ 4
  rg : ∀ p ∈ L, 1 ≤ p.1 ∧ p.1 ≤ 6 ∧ 1 ≤ p.2 ∧ p.2 ≤ 12
structure HrsOk (hs : List Int) : Prop where
  len : hs.length ≤ 12
  rg : ∀ h ∈ hs, h = 0 ∨ h = 1
  one : (1 : Int) ∈ hs
structure AsksOk (ns : List Int) : Prop where
  len : ns.length ≤ 100
  nn : ∀ n ∈ ns, 0 ≤ n
  up : ns.Pairwise (· ≤ ·)
theorem HrsOk.pos {hs : List Int} (h : HrsOk hs) : 0 < hs.length := List.length_pos_of_mem h.one

/-! ### how the heap bears them -/
theorem same_t {K : PySem.W.Frag} {H H' : Hp} {a : Addr} {xs : List V} (e : Same H H') (h : SqT K H a xs) : SqT K H' a xs := by
  rcases h with (h | ⟨o, h⟩) | h
  · exact .inl (.inl (e _ _ h))
  · exact .inl (.inr ⟨o, e _ _ h⟩)
  · exact .inr h
theorem same_new {H : Hp} {p : Addr} {o : HO} (h : H p = none) : Same H (upd H p o) := fun b u e => by
  rw [upd_ne (ne_of_none e h)]
  exact e
theorem same_mut {H H' : Hp} {p : Addr} {o : HO} (e : Same H H') (h : H p = none) : Same H (upd H' p o) := fun b u q => by
  rw [upd_ne (ne_of_none q h)]
  exact e b u q
/-- a tuple of ints -/
abbrev IntT (K : PySem.W.Frag) (H : Hp) (a : Addr) (ns : List Int) : Prop := SqT K H a (ns.map V.int)
/-- limits: a tuple of pairs -/
def LimT (K : PySem.W.Frag) (H : Hp) (a : Addr) (L : List (Int × Int)) : Prop :=
  ∃ rs : List Addr, SqT K H a (rs.map V.ref) ∧ Paired (fun r p => SqT K H r [.int p.1, .int p.2]) rs L
theorem LimT.same {K : PySem.W.Frag} {H H' : Hp} {a : Addr} {L : List (Int × Int)} (e : Same H H') (h : LimT K H a L) : LimT K H' a L := by
  obtain ⟨rs, h1, h2⟩ := h
  exact ⟨rs, same_t e h1, Paired.mapP h2 fun _ _ z => same_t e z⟩
/-- rules: limits and hours -/
def RulT (K : PySem.W.Frag) (H : Hp) (a : Addr) (L : List (Int × Int)) (hs : List Int) : Prop :=
  ∃ la ha : Addr, SqT K H a [.ref la, .ref ha] ∧ LimT K H la L ∧ IntT K H ha hs
theorem RulT.same {K : PySem.W.Frag} {H H' : Hp} {a : Addr} {L : List (Int × Int)} {hs : List Int} (e : Same H H') (h : RulT K H a L hs) : RulT K H' a L hs := by
  obtain ⟨la, ha, h1, h2, h3⟩ := h
  exact ⟨la, ha, same_t e h1, h2.same e, same_t e h3⟩
/-- a well: three ints, the first not negative -/
def Well (H : Hp) (p : Addr) : Prop := ∃ d m c : Int, H p = some (.lst [.int d, .int m, .int c]) ∧ 0 ≤ d
/-- all but the well at p is as it was -/
def But (p : Addr) (H H' : Hp) : Prop := ∀ b o, b ≠ p → H b = some o → H' b = some o
theorem But.refl (p : Addr) (H : Hp) : But p H H := fun _ _ _ h => h
theorem But.trans {p : Addr} {H H1 H2 : Hp} (a : But p H H1) (b : But p H1 H2) : But p H H2 := fun c o n h => b c o n (a c o n h)
theorem But.of {p : Addr} {H H' : Hp} (e : Same H H') : But p H H' := fun b o _ h => e b o h
theorem But.upd {p : Addr} {H H' : Hp} {o : HO} (e : But p H H') : But p H (upd H' p o) := fun b u n h => by
  rw [upd_ne n]
  exact e b u n h
theorem But.new {p q : Addr} {H H' : Hp} {o : HO} (e : But p H H') (h : H q = none) : But p H (L2.upd H' q o) := fun b u n hb => by
  rw [upd_ne (ne_of_none hb h)]
  exact e b u n hb
theorem ty_tup {K : PySem.W.Frag} {H : Hp} {a : Addr} {xs : List V} (h : SqT K H a xs) : TyX K H (.ref a) (.type "tuple") := by
  rcases h with (h | ⟨o, h⟩) | ⟨o, its, n, h, hc, _⟩
  · exact .base (.tup h)
  · exact .fTuple h
  · exact .kTuple h hc

/-! ### the module's names -/
structure Txt (mg : Str → Option Value) : Prop where
  isinstance : mg "isinstance" = none
  int : mg "int" = none
  bool : mg "bool" = none
  tuple : mg "tuple" = none
  len : mg "len" = none
  all : mg "all" = none
  any : mg "any" = none
  enumerate : mg "enumerate" = none
  abs : mg "abs" = none
  divmod : mg "divmod" = none
  list : mg "list" = none
  range : mg "range" = none
  max : mg "max" = none
  min : mg "min" = none
  sum : mg "sum" = none
  repr : mg "repr" = none
  sorted : mg "sorted" = none
  mLIMITS : ∃ t, mg "MOST_LIMITS" = some (.int 4 t)
  mASKS : ∃ t, mg "MOST_ASKS" = some (.int 6 t)
  mMOMENTS : ∃ t, mg "MOST_MOMENTS" = some (.int 12 t)
  mHOURS : ∃ t, mg "MOST_HOURS" = some (.int 12 t)
  mROW : ∃ t, mg "MOST_ROW" = some (.int 200 t)
theorem pe_gi {X : Cx} {x : Str} {i : Int} {pos : Pos} (hg : Gl X x) (hm : ∃ t, X.mg x = some (.int i t)) (hd : (x == ("__debug__" : Str)) = false := by decide) : PE X (.Name x pos) (tC (.int i)) := by
  obtain ⟨t, h⟩ := hm
  exact pe_glob hg h ⟨t, rfl⟩ hd

/-! ### the promises -/
section
variable (K : PySem.W.Frag)
def pr_iswhole : Pr := fun vs H Q => ∃ n : Int, vs = [.int n] ∧ Q (.bl true) H
def pr_isbetween : Pr := fun vs H Q => ∃ v lo hi : Int, vs = [.int v, .int lo, .int hi] ∧ Q (.bl (decide (lo ≤ v) && decide (v ≤ hi))) H
def pr_isfrom : Pr := fun vs H Q => ∃ v lo : Int, vs = [.int v, .int lo] ∧ Q (.bl (decide (lo ≤ v))) H
def pr_istupleupto : Pr := fun vs H Q => ∃ (a : Addr) (xs : List V) (lo hi : Int), vs = [.ref a, .int lo, .int hi] ∧ SqT K H a xs ∧ Q (.bl (decide (lo ≤ (xs.length : Int)) && decide ((xs.length : Int) ≤ hi))) H
def pr_islimit : Pr := fun vs H Q => ∃ (a : Addr) (p : Int × Int), vs = [.ref a] ∧ SqT K H a [.int p.1, .int p.2] ∧ (1 ≤ p.1 ∧ p.1 ≤ 6 ∧ 1 ≤ p.2 ∧ p.2 ≤ 12) ∧ Q (.bl true) H
def pr_arelimits : Pr := fun vs H Q => ∃ (a : Addr) (L : List (Int × Int)), vs = [.ref a] ∧ LimT K H a L ∧ LimOk L ∧ ∀ H', Same H H' → Q (.bl true) H'
def pr_arehours : Pr := fun vs H Q => ∃ (a : Addr) (hs : List Int), vs = [.ref a] ∧ IntT K H a hs ∧ HrsOk hs ∧ ∀ H', Same H H' → Q (.bl true) H'
def pr_isrulespair : Pr := fun vs H Q => ∃ (a b : Addr) (L : List (Int × Int)) (hs : List Int), vs = [.ref a, .ref b] ∧ LimT K H a L ∧ LimOk L ∧ IntT K H b hs ∧ HrsOk hs ∧ ∀ H', Same H H' → Q (.bl true) H'
def pr_isopenat : Pr := fun vs H Q => ∃ (a : Addr) (hs : List Int) (t : Int), vs = [.ref a, .int t] ∧ IntT K H a hs ∧ 0 < hs.length ∧ Q (.bl (opn hs t)) H
def pr_iscrowded : Pr := fun vs H Q => ∃ (a b : Addr) (L : List (Int × Int)) (ns : List Int) (i : Nat), vs = [.ref a, .ref b, .int (i : Int)] ∧ LimT K H a L ∧ LimOk L ∧ IntT K H b ns ∧ i < ns.length ∧ ∀ H', Same H H' → Q (.bl (crowded L ns i)) H'
def pr_firstwrongby : Pr := fun vs H Q => ∃ (a b : Addr) (L : List (Int × Int)) (hs ns : List Int), vs = [.ref a, .ref b] ∧ RulT K H a L hs ∧ LimOk L ∧ HrsOk hs ∧ IntT K H b ns ∧ ∀ H', Same H H' → Q (optV (firstBad L hs ns)) H'
def pr_ispoliteby : Pr := fun vs H Q => ∃ (a b : Addr) (L : List (Int × Int)) (hs ns : List Int), vs = [.ref a, .ref b] ∧ RulT K H a L hs ∧ LimOk L ∧ HrsOk hs ∧ IntT K H b ns ∧ ∀ H', Same H H' → Q (.bl (firstBad L hs ns).isNone) H'
def pr_checkmoment : Pr := fun vs H Q => ∃ n : Int, vs = [.int n] ∧ 0 ≤ n ∧ Q .non H
def pr_checkhours : Pr := fun vs H Q => ∃ (a : Addr) (hs : List Int), vs = [.ref a] ∧ IntT K H a hs ∧ HrsOk hs ∧ ∀ H', Same H H' → Q .non H'
def pr_aresomerules : Pr := fun vs H Q => ∃ (a : Addr) (L : List (Int × Int)) (hs : List Int), vs = [.ref a] ∧ RulT K H a L hs ∧ LimOk L ∧ HrsOk hs ∧ ∀ H', Same H H' → Q (.bl true) H'
def pr_checkrules : Pr := fun vs H Q => ∃ (a : Addr) (L : List (Int × Int)) (hs : List Int), vs = [.ref a] ∧ RulT K H a L hs ∧ LimOk L ∧ HrsOk hs ∧ ∀ H', Same H H' → Q .non H'
def pr_checkasks : Pr := fun vs H Q => ∃ (a : Addr) (ns : List Int), vs = [.ref a] ∧ IntT K H a ns ∧ AsksOk ns ∧ ∀ H', Same H H' → Q .non H'
def pr_checkpolite : Pr := fun vs H Q => ∃ (a b : Addr) (L : List (Int × Int)) (hs ns : List Int), vs = [.ref a, .ref b] ∧ RulT K H a L hs ∧ LimOk L ∧ HrsOk hs ∧ IntT K H b ns ∧ firstBad L hs ns = none ∧ ∀ H', Same H H' → Q .non H'
def pr_isopen : Pr := fun vs H Q => ∃ (a : Addr) (hs : List Int) (t : Int), vs = [.ref a, .int t] ∧ IntT K H a hs ∧ HrsOk hs ∧ 0 ≤ t ∧ ∀ H', Same H H' → Q (.bl (opn hs t)) H'
def pr_ispolite : Pr := fun vs H Q => ∃ (a b : Addr) (L : List (Int × Int)) (hs ns : List Int), vs = [.ref a, .ref b] ∧ RulT K H a L hs ∧ LimOk L ∧ HrsOk hs ∧ IntT K H b ns ∧ AsksOk ns ∧ ∀ H', Same H H' → Q (.bl (firstBad L hs ns).isNone) H'
def pr_firstwrong : Pr := fun vs H Q => ∃ (a b : Addr) (L : List (Int × Int)) (hs ns : List Int), vs = [.ref a, .ref b] ∧ RulT K H a L hs ∧ LimOk L ∧ HrsOk hs ∧ IntT K H b ns ∧ AsksOk ns ∧ ∀ H', Same H H' → Q (optV (firstBad L hs ns)) H'
def pr_mayask : Pr := fun vs H Q => ∃ (a b : Addr) (L : List (Int × Int)) (hs ns : List Int) (t : Int), vs = [.ref a, .ref b, .int t] ∧ RulT K H a L hs ∧ LimOk L ∧ HrsOk hs ∧ IntT K H b ns ∧ AsksOk ns ∧ firstBad L hs ns = none ∧ 0 ≤ t ∧ (∀ n ∈ ns, n ≤ t) ∧
  ∀ H', Same H H' → Q (.bl (firstBad L hs (ns ++ [t])).isNone) H'
def pr_lawwell : Pr := fun vs H Q => ∃ (a : Addr) (ns : List Int) (t : Nat), vs = [.ref a, .int (t : Int)] ∧ SqL K H a (ns.map V.int) ∧ ∀ p H', Same H H' → H p = none → Well H' p → Q (.ref p) H'
def pr_lawpick : Pr := fun vs H Q => ∃ (p : Addr) (top : Int), vs = [.ref p, .int top] ∧ Well H p ∧ 0 < top ∧ top < 1000000 ∧ ∀ r H', 0 ≤ r → r < top → But p H H' → Well H' p → Q (.int r) H'
def pr_lawone : Pr := fun vs H Q => ∃ (p q : Addr) (xs : List V), vs = [.ref p, .ref q] ∧ Well H p ∧ q ≠ p ∧ H q = some (.lst xs) ∧ 0 < xs.length ∧ xs.length < 1000 ∧ ∀ v H', v ∈ xs → But p H H' → Well H' p → Q v H'
def pr_lawopen : Pr := fun vs H Q => ∃ (a : Addr) (hs : List Int) (t : Int), vs = [.ref a, .int t] ∧ IntT K H a hs ∧ 0 < hs.length ∧ Q (.bl (opn hs t)) H
def pr_lawwrongat : Pr := fun vs H Q => ∃ (a b c : Addr) (L : List (Int × Int)) (hs ns : List Int), vs = [.ref a, .ref b, .ref c] ∧ LimT K H a L ∧ LimOk L ∧ IntT K H b hs ∧ HrsOk hs ∧ IntT K H c ns ∧ AsksOk ns ∧ ∀ H', Same H H' → Q (optV (firstBad L hs ns)) H'
/-- an ask that may come next -/
structure NextOk (L : List (Int × Int)) (hs ns : List Int) (st t : Int) : Prop where
  st : st ≤ t
  op : opn hs t = true
  lim : ∀ p ∈ L, p.1 ≤ (ns.length : Int) → ns.getD (ns.length - p.1.toNat) 0 + p.2 ≤ t
def pr_lawsoonest : Pr := fun vs H Q => ∃ (a b c : Addr) (L : List (Int × Int)) (hs ns : List Int) (st : Int), vs = [.ref a, .ref b, .ref c, .int 1, .int st] ∧ LimT K H a L ∧ LimOk L ∧ IntT K H b hs ∧ HrsOk hs ∧ H c = some (.lst (ns.map V.int)) ∧ ns.length ≤ 100 ∧
  ∀ p t H', Same H H' → H p = none → H' p = some (.lst [.int t]) → NextOk L hs ns st t → Q (.ref p) H'
def pr_lawsomelimits : Pr := fun vs H Q => ∃ (p : Addr) (top wd : Int), vs = [.ref p, .int top, .int wd] ∧ Well H p ∧ 1 ≤ top ∧ top ≤ 6 ∧ 1 ≤ wd ∧ wd ≤ 12 ∧ ∀ a L H', But p H H' → Well H' p → LimT K H' a L → LimOk L → Q (.ref a) H'
def pr_lawsomehours : Pr := fun vs H Q => ∃ (p : Addr) (top : Int), vs = [.ref p, .int top] ∧ Well H p ∧ 1 ≤ top ∧ top ≤ 12 ∧ ∀ a hs H', But p H H' → Well H' p → TupF H' a (hs.map V.int) → HrsOk hs → Q (.ref a) H'
def pr_lawsomerow : Pr := fun vs H Q => ∃ (p a b : Addr) (L : List (Int × Int)) (hs : List Int) (n : Nat), vs = [.ref p, .ref a, .ref b, .int (n : Int), .int 9] ∧ Well H p ∧ LimT K H a L ∧ LimOk L ∧ IntT K H b hs ∧ HrsOk hs ∧ 1 ≤ n ∧ n ≤ 50 ∧
  ∀ c ns H', But p H H' → Well H' p → IntT K H' c ns → ns.length = n → AsksOk ns → firstBad L hs ns = none → Q (.ref c) H'
def pr_lawcounted : Pr := pr_lawwrongat K
def pr_lawrowright : Pr := fun vs H Q => ∃ (a b c : Addr) (L : List (Int × Int)) (hs ns : List Int), vs = [.ref a, .ref b, .ref c] ∧ LimT K H a L ∧ LimOk L ∧ IntT K H b hs ∧ HrsOk hs ∧ IntT K H c ns ∧ AsksOk ns ∧ ns.length ≤ 90 ∧ ∀ H', Same H H' → Q (.bl true) H'
def pr_lawdrawnright : Pr := fun vs H Q => ∃ p : Addr, vs = [.ref p] ∧ Well H p ∧ ∀ H', But p H H' → Q (.bl true) H'
def pr_lawcellsright : Pr := fun vs H Q => ∃ (a : Addr) (ns : List Int), vs = [.ref a] ∧ SqL K H a (ns.map V.int) ∧ ns.length ≤ 63 ∧ ∀ H', Same H H' → Q (.bl true) H'
def pr_law : Pr := fun vs H Q => ∃ (a : Addr) (ns : List Int), vs = [.ref a] ∧ SqL K H a (ns.map V.int) ∧ ns.length ≤ 63 ∧ ∀ H', Q (.bl true) H'
end
end Gr
namespace Gr
open PySem PySem.Spec PyProof.Rows L2
theorem but_rd {p : Addr} {H H' : Hp} {a : Addr} {xs : List V} (e : But p H H') (w : Well H p) (h : Rd H a (.tup xs)) : Rd H' a (.tup xs) := by
  obtain ⟨d, m, c, hp, _⟩ := w
  rcases h with h | ⟨o, h⟩
  · exact .inl (e _ _ (ne_of h hp (by intro z; cases z)) h)
  · exact .inr ⟨o, e _ _ (ne_of h hp (by intro z; cases z)) h⟩
theorem but_t {K : PySem.W.Frag} {p : Addr} {H H' : Hp} {a : Addr} {xs : List V} (e : But p H H') (w : Well H p) (h : SqT K H a xs) : SqT K H' a xs := by
  rcases h with h | h
  · exact .inl (but_rd e w h)
  · exact .inr h
theorem LimT.but {K : PySem.W.Frag} {p : Addr} {H H' : Hp} {a : Addr} {L : List (Int × Int)} (e : But p H H') (w : Well H p) (h : LimT K H a L) : LimT K H' a L := by
  obtain ⟨rs, h1, h2⟩ := h
  exact ⟨rs, but_t e w h1, Paired.mapP h2 fun _ _ z => but_t e w z⟩
theorem TupF.but {p : Addr} {H H' : Hp} {a : Addr} {xs : List V} (e : But p H H') (w : Well H p) (h : TupF H a xs) : TupF H' a xs := by
  obtain ⟨d, m, c, hp, _⟩ := w
  obtain ⟨o, ho, hd⟩ := h
  exact ⟨o, e _ _ (ne_of ho hp (by intro z; cases z)) ho, hd⟩
theorem Well.same {H H' : Hp} {p : Addr} (e : Same H H') (w : Well H p) : Well H' p := by
  obtain ⟨d, m, c, hp, h0⟩ := w
  exact ⟨d, m, c, e _ _ hp, h0⟩
end Gr

set_option maxHeartbeats 4000000
namespace Gr
open PySem PySem.Spec PyProof.Rows L2
open Evl (given given_yes given_no given_len)

/-! ### lists -/
theorem ints_at {ns : List Int} {i : Nat} {y : V} (h : (ns.map V.int)[i]? = some y) : i < ns.length ∧ y = .int (ns.getD i 0) := by
  rw [List.getElem?_map] at h
  cases e : ns[i]? with
  | none => rw [e] at h; cases h
  | some n =>
    rw [e] at h
    obtain ⟨hi, en⟩ := List.getElem?_eq_some_iff.mp e
    refine ⟨hi, ?_⟩
    rw [← Option.some.inj h, List.getD_eq_getElem?_getD, e]
    rfl
theorem at_ints {ns : List Int} {i : Nat} (h : i < ns.length) : (ns.map V.int)[i]? = some (.int (ns.getD i 0)) := by
  rw [List.getElem?_map, List.getD_eq_getElem?_getD, List.getElem?_eq_getElem h]
  rfl
theorem atI_ints {ns : List Int} {z : Int} {i : Nat} (e : z = (i : Int)) (h : i < ns.length) : atI (ns.map V.int) z = some (.int (ns.getD i 0)) := at_of e (at_ints h)
theorem range_getD {α β : Type} (d : α) (h : α → β) (l : List α) : (List.range l.length).map (fun i => h (l.getD i d)) = l.map h := by
  refine List.ext_getElem (by simp) fun i h1 h2 => ?_
  have hi : i < l.length := by simpa using h1
  simp [List.getD_eq_getElem?_getD, List.getElem?_eq_getElem hi]
theorem given_all (n : Nat) (v : Nat → V) : given n (fun _ => true) v = (List.range n).map v := by
  unfold given
  rw [List.filter_eq_self.mpr fun _ _ => rfl]
theorem given_ints (l : List Int) (h : Int → Int) : given l.length (fun _ => true) (fun i => .int (h (l.getD i 0))) = (l.map h).map V.int := by
  rw [given_all, ← range_getD 0 h l, List.map_map]
  rfl
theorem paired_at {α β : Type} {F : α → β → Prop} : ∀ {l1 : List α} {l2 : List β}, Paired F l1 l2 → ∀ {i : Nat} {x : α}, l1[i]? = some x → ∃ y, l2[i]? = some y ∧ F x y
  | _, _, .nil, i, x, h => by simp at h
  | _, _, .cons r _, 0, x, h => by
    simp at h
    subst h
    exact ⟨_, rfl, r⟩
  | _, _, .cons _ t, i + 1, x, h => by
    obtain ⟨y, h1, h2⟩ := paired_at t (i := i) (x := x) (by simpa using h)
    exact ⟨y, by simpa using h1, h2⟩
/-- the pair at a place of limits -/
theorem lim_at {K : PySem.W.Frag} {H : Hp} {rs : List Addr} {L : List (Int × Int)} {i : Nat} {x : V} (h : Paired (fun r p => SqT K H r [.int p.1, .int p.2]) rs L) (hx : (rs.map V.ref)[i]? = some x) :
    i < L.length ∧ ∃ r, x = .ref r ∧ L.getD i (0, 0) ∈ L ∧ SqT K H r [.int (L.getD i (0, 0)).1, .int (L.getD i (0, 0)).2] := by
  rw [List.getElem?_map] at hx
  cases e : rs[i]? with
  | none => rw [e] at hx; cases hx
  | some r =>
    rw [e] at hx
    obtain ⟨p, hp, hs⟩ := paired_at h e
    obtain ⟨hi, ep⟩ := List.getElem?_eq_some_iff.mp hp
    have ed : L.getD i (0, 0) = p := by
      rw [List.getD_eq_getElem?_getD, hp]
      rfl
    refine ⟨hi, r, (Option.some.inj hx).symm, ?_, ?_⟩
    · rw [ed]; exact List.mem_of_getElem? hp
    · rw [ed]; exact hs
theorem firstBad_none {L : List (Int × Int)} {hs ns : List Int} : firstBad L hs ns = none ↔ ∀ j, j < ns.length → badAt L hs ns j = false := by
  unfold firstBad
  rw [List.find?_eq_none]
  constructor
  · intro h j hj
    have := h j (List.mem_range.mpr hj)
    simpa using this
  · intro h j hj
    rw [h j (List.mem_range.mp hj)]
    exact Bool.false_ne_true
theorem firstBad_some {L : List (Int × Int)} {hs ns : List Int} {i : Nat} (hi : i < ns.length) (h1 : badAt L hs ns i = true) (h2 : ∀ j, j < i → badAt L hs ns j = false) : firstBad L hs ns = some i := by
  unfold firstBad
  rw [List.find?_range_eq_some]
  refine ⟨h1, List.mem_range.mpr hi, fun j hj => ?_⟩
  rw [h2 j hj]
  rfl
theorem firstBad_lt {L : List (Int × Int)} {hs ns : List Int} {i : Nat} (h : firstBad L hs ns = some i) : i < ns.length ∧ badAt L hs ns i = true ∧ ∀ j, j < i → badAt L hs ns j = false := by
  unfold firstBad at h
  rw [List.find?_range_eq_some] at h
  obtain ⟨h1, h2, h3⟩ := h
  exact ⟨List.mem_range.mp h2, h1, fun j hj => by simpa using h3 j hj⟩

/-! ### a comprehension that changes nothing: which turns give, and what -/
theorem lc_gen {J : It} {n : Nat} {G : Hp → Prop} {Y : Nat → Hp → V → Hp → Prop} (wk : Walk J n G Y) {g : TG} {tt : TT} {te : TE} {vs : List Nat} {σ : L2.St} {H : Hp} {D : Addr} {Qd : Hp → Prop} (f : Nat → Bool) (v : Nat → V) (hD : H D = none) (hn : n ≤ 1000)
    (hG : ∀ H', Same H H' → G H')
    (hs : ∀ i x H' H'' (C : VK) (N : Hp → Prop), i < n → Same H H' → Y i H' x H'' → (f i = true → ∀ H4, Same H' H4 → C (v i) H4) → (f i = false → ∀ H4, Same H' H4 → N H4) →
      g x (wipe σ vs) H'' fun σ2 H2 => wipe σ2 vs = wipe σ vs ∧ tt σ2 H2 fun b H3 => if b = true then te σ2 H3 C else N H3)
    (hd : ∀ H', Same H H' → H' D = some (.lst (given n f v)) → Qd H') :
    ∃ W : Nat → Nat → Hp → Prop, (∃ m, W 0 m (upd H D (.lst []))) ∧ ∀ i m H, W i m H →
      (J.stop i H ∧ Qd H) ∨ (J.go i H ∧ ∃ Nx : Hp → Prop, (∀ H', Nx H' → ∃ m', m' < m ∧ W (i + 1) m' H') ∧ ∀ x H', J.yld i H x H' → g x (wipe σ vs) H' fun σ2 H2 => wipe σ2 vs = wipe σ vs ∧ tt σ2 H2 fun b H3 =>
        if b = true then te σ2 H3 fun y H4 => ∃ acc, H4 D = some (.lst acc) ∧ acc.length < sizeLine ∧ Nx (upd H4 D (.lst (acc ++ [y]))) else Nx H3) := by
  refine lc_it wk (fun i H' => Same H H' ∧ H' D = some (.lst (given i f v))) ⟨same_new hD, upd_same⟩ (fun i H' _ p => hG H' p.1) (fun i x H' H'' hi p hy => ?_) (fun H' p => hd H' p.1 p.2)
  obtain ⟨p1, p2⟩ := p
  refine hs i x H' H'' _ _ hi p1 hy (fun hf H4 e => ⟨given i f v, e _ _ p2, Nat.lt_of_le_of_lt (given_len i f v) (Nat.lt_of_lt_of_le hi (Nat.le_trans hn (by decide))), same_mut (p1.trans e) hD, ?_⟩) (fun hf H4 e => ⟨p1.trans e, ?_⟩)
  · rw [given_yes hf]; exact upd_same
  · rw [given_no hf]; exact e _ _ p2

/-! ### rules with the written part named, for a comprehension's block -/
theorem ix_tupK {X : Cx} {K : PySem.W.Frag} (h : X.K = K) : IxR X (rIxT K) := h ▸ ix_tup
def rLenK (K : PySem.W.Frag) : List V → Hp → VK → Prop := fun xs H Q => ∃ p ys, xs = [V.ref p] ∧ (SqL K H p ys ∨ SqT K H p ys) ∧ Q (.int ys.length) H
theorem call_lenK {X : Cx} {K : PySem.W.Frag} (h : X.K = K) : CallR X (.builtin "len") (rLenK K) := h ▸ call_len_seq
theorem pg_tupK {X : Cx} {K : PySem.W.Frag} {es : List Expr} {k n : Nat} {pos : Pos} {t : TGs} (h : X.K = K) (hc : X.calm = true) (hg : PGs X es t)
    (hn : (assignEach es X.env).length = n := by rfl) (hst : (assignEach es X.env).findIdx? (·.1) = none := by rfl) : PG X (.Tuple es k pos) (gTup K n t) := h ▸ pg_tup hc hg hn hst
end Gr

set_option maxHeartbeats 4000000
namespace Gr
open PySem PySem.Spec PyProof.Rows L2
open Evl (given given_yes given_no given_len)

/-! ### sorted rows -/
theorem up_get {ns : List Int} (h : ns.Pairwise (· ≤ ·)) {i j : Nat} (hij : i ≤ j) (hj : j < ns.length) : ns.getD i 0 ≤ ns.getD j 0 := by
  rcases Nat.lt_or_eq_of_le hij with z | z
  · have := List.pairwise_iff_getElem.mp h i j (by omega) hj z
    rw [List.getD_eq_getElem?_getD, List.getD_eq_getElem?_getD, List.getElem?_eq_getElem hj, List.getElem?_eq_getElem (by omega)]
    exact this
  · rw [z]; exact Int.le_refl _
theorem getD_mem {ns : List Int} {i : Nat} (hi : i < ns.length) : ns.getD i 0 ∈ ns := by
  rw [List.getD_eq_getElem?_getD, List.getElem?_eq_getElem hi]
  exact List.getElem_mem hi
theorem getD_lt {ns : List Int} {i : Nat} (hi : i < ns.length) : ns.getD i 0 = ns[i] := by
  rw [List.getD_eq_getElem?_getD, List.getElem?_eq_getElem hi]
  rfl
theorem take_succ' {ns : List Int} {n : Nat} (hn : n < ns.length) : ns.take (n + 1) = ns.take n ++ [ns.getD n 0] := by
  rw [List.take_succ, List.getElem?_eq_getElem hn, getD_lt hn]
  rfl
/-- how many of the first n are above b -/
def above (ns : List Int) (b : Int) (n : Nat) : Nat := ((ns.take n).filter fun x => decide (b < x)).length
theorem above_succ {ns : List Int} {b : Int} {n : Nat} (hn : n < ns.length) : above ns b (n + 1) = above ns b n + if b < ns.getD n 0 then 1 else 0 := by
  unfold above
  rw [take_succ' hn, List.filter_append, List.length_append, List.filter_cons]
  by_cases h : b < ns.getD n 0
  · rw [if_pos (decide_eq_true h), if_pos h]; rfl
  · rw [if_neg (by simpa using h), if_neg h]; rfl
theorem above_iff {ns : List Int} (up : ns.Pairwise (· ≤ ·)) (b : Int) : ∀ n, n ≤ ns.length → ∀ k : Nat, k < above ns b n ↔ k < n ∧ b < ns.getD (n - 1 - k) 0
  | 0, _, k => by
    unfold above
    simp
  | n + 1, hn, k => by
    have ih := above_iff up b n (by omega)
    rw [above_succ (by omega)]
    by_cases h : b < ns.getD n 0
    · rw [if_pos h]
      cases k with
      | zero =>
        have e : n + 1 - 1 - 0 = n := by omega
        rw [e]
        exact ⟨fun _ => ⟨by omega, h⟩, fun _ => by omega⟩
      | succ k =>
        have h1 := ih k
        have e : n + 1 - 1 - (k + 1) = n - 1 - k := by omega
        rw [e]
        constructor
        · intro z
          obtain ⟨z1, z2⟩ := h1.mp (by omega)
          exact ⟨by omega, z2⟩
        · rintro ⟨z1, z2⟩
          have := h1.mpr ⟨by omega, z2⟩
          omega
    · rw [if_neg h, Nat.add_zero, ih k]
      constructor
      · rintro ⟨z1, z2⟩
        have := up_get up (i := n - 1 - k) (j := n) (by omega) (by omega)
        omega
      · rintro ⟨z1, z2⟩
        have := up_get up (i := n + 1 - 1 - k) (j := n) (by omega) (by omega)
        omega
/-- the program's look, and the count -/
theorem crowded_iff {ns : List Int} (up : ns.Pairwise (· ≤ ·)) {i : Nat} (hi : i < ns.length) (p : Int × Int) (h1 : 1 ≤ p.1) : crowdedBy ns i p = decide (p.1 < ((above ns (ns.getD i 0 - p.2) (i + 1) : Nat) : Int)) := by
  have h := above_iff up (ns.getD i 0 - p.2) (i + 1) (by omega) p.1.toNat
  have e : i + 1 - 1 - p.1.toNat = i - p.1.toNat := by omega
  rw [e] at h
  unfold crowdedBy
  rw [Bool.eq_iff_iff, Bool.and_eq_true, decide_eq_true_eq, decide_eq_true_eq, decide_eq_true_eq]
  constructor
  · rintro ⟨z1, z2⟩
    have := h.mpr ⟨by omega, by omega⟩
    omega
  · intro z
    obtain ⟨z1, z2⟩ := h.mp (by omega)
    exact ⟨by omega, by omega⟩
/-- the law's second count: over the moments back -/
theorem sum_back (l : List Int) (t : Int) (hle : ∀ x ∈ l, x ≤ t) : ∀ W : Nat, ((List.range W).map fun (b : Nat) => ((l.count (t - (b : Int)) : Nat) : Int)).sum = ((l.filter fun x => decide (t - (W : Int) < x)).length : Int)
  | 0 => by
    have : l.filter (fun x => decide (t - ((0 : Nat) : Int) < x)) = [] := by
      rw [List.filter_eq_nil_iff]
      intro x hx
      have := hle x hx
      simp
      omega
    rw [this]
    rfl
  | W + 1 => by
    rw [List.range_succ, List.map_append, List.sum_append, sum_back l t hle W]
    have key : ∀ l : List Int, ((l.filter fun x => decide (t - ((W + 1 : Nat) : Int) < x)).length : Int) = ((l.filter fun x => decide (t - (W : Int) < x)).length : Int) + ((l.count (t - (W : Int)) : Nat) : Int) := by
      intro l
      induction l with
      | nil => rfl
      | cons a l ih =>
        rw [List.filter_cons, List.filter_cons, List.count_cons]
        by_cases h1 : t - (W : Int) < a
        · rw [if_pos (by simp; omega), if_pos (by simpa using h1), if_neg (by simp; omega)]
          simp only [List.length_cons]
          omega
        · by_cases h2 : a = t - (W : Int)
          · rw [if_pos (by simp; omega), if_neg (by simpa using h1), if_pos (by simp [h2])]
            simp only [List.length_cons]
            omega
          · rw [if_neg (by simp; omega), if_neg (by simpa using h1), if_neg (by simpa using h2)]
            omega
    rw [key l]
    simp
theorem given_filter (l : List Int) (p : Int → Bool) : given l.length (fun k => p (l.getD k 0)) (fun k => .int (l.getD k 0)) = (l.filter p).map V.int := by
  unfold given
  have e : (List.range l.length).map (fun k => l.getD k 0) = l := by
    have := range_getD 0 id l
    simpa using this
  have e2 : l.filter p = ((List.range l.length).filter (fun k => p (l.getD k 0))).map (fun k => l.getD k 0) := by
    conv => lhs; rw [← e]
    rw [List.filter_map]
    rfl
  rw [e2, List.map_map]
  rfl

/-! ### hours -/
theorem opn_add {hs : List Int} (t : Int) (k : Int) : opn hs (t + k * (hs.length : Int)) = opn hs t := by
  unfold opn
  rw [Int.add_mul_emod_self_right]
theorem open_soon {hs : List Int} (ok : HrsOk hs) (t : Int) : ∃ j : Nat, j < hs.length ∧ opn hs (t + (j : Int)) = true := by
  have hp := ok.pos
  obtain ⟨r, hr, e⟩ := List.mem_iff_getElem.mp ok.one
  have g1 := Int.emod_nonneg ((r : Int) - t) (b := (hs.length : Int)) (by omega)
  have g2 := Int.emod_lt_of_pos ((r : Int) - t) (b := (hs.length : Int)) (by omega)
  refine ⟨(((r : Int) - t) % (hs.length : Int)).toNat, by omega, ?_⟩
  unfold opn
  have e1 : (t + ((((r : Int) - t) % (hs.length : Int)).toNat : Int)) % (hs.length : Int) = (r : Int) := by
    rw [Int.toNat_of_nonneg g1, Int.add_emod, Int.emod_emod_of_dvd _ (Int.dvd_refl _), ← Int.add_emod]
    have : t + ((r : Int) - t) = (r : Int) := by omega
    rw [this]
    exact Int.emod_eq_of_lt (by omega) (by omega)
  rw [e1, Int.toNat_natCast, getD_lt hr, e]
  rfl

/-! ### slices -/
theorem sl_any {K : PySem.W.Frag} {a : Addr} {xs : List V} {lo hi : Option Int} {H : Hp} {Q : VK} (h : SqT K H a xs) (q : ∀ u H', Same H H' → SqT K H' u (cutV xs lo hi) → Q (.ref u) H') : rSlA K (.ref a) lo hi H Q := by
  refine ⟨a, xs, rfl, h, fun hw => q a H (Same.refl H) ?_, fun _ p hp => q p _ (same_new hp) (SqT.of upd_same)⟩
  have e : cutV xs lo hi = xs := by
    unfold cutV
    rw [hw.1, hw.2, List.drop_zero, Nat.sub_zero, List.take_length]
  rw [e]
  exact h
def cutI (ns : List Int) (lo hi : Option Int) : List Int := (ns.drop (HT.sIx ns.length 0 lo)).take (HT.sIx ns.length ns.length hi - HT.sIx ns.length 0 lo)
theorem cut_ints (ns : List Int) (lo hi : Option Int) : cutV (ns.map V.int) lo hi = (cutI ns lo hi).map V.int := by
  unfold cutV cutI
  rw [List.length_map, List.map_take, List.map_drop]
theorem cut_upto (ns : List Int) (k : Nat) : cutI ns none (some (k : Int)) = ns.take k := by
  unfold cutI HT.sIx
  show (ns.drop 0).take ((if (k : Int) < 0 then ((k : Int) + (ns.length : Int)).toNat else min (k : Int).toNat ns.length) - 0) = ns.take k
  rw [if_neg (by omega), List.drop_zero, Int.toNat_natCast, Nat.sub_zero]
  by_cases h : k ≤ ns.length
  · rw [Nat.min_eq_left h]
  · rw [Nat.min_eq_right (by omega), List.take_length, List.take_of_length_le (by omega)]
theorem cut_from (ns : List Int) (k : Nat) (hk : k ≤ ns.length) : cutI ns (some (k : Int)) none = ns.drop k := by
  unfold cutI HT.sIx
  show (ns.drop (if (k : Int) < 0 then ((k : Int) + (ns.length : Int)).toNat else min (k : Int).toNat ns.length)).take (ns.length - (if (k : Int) < 0 then ((k : Int) + (ns.length : Int)).toNat else min (k : Int).toNat ns.length)) = ns.drop k
  rw [if_neg (by omega), Int.toNat_natCast, Nat.min_eq_left hk]
  exact List.take_of_length_le (by rw [List.length_drop]; omega)
theorem cut_last (ns : List Int) : cutI ns (some (-1)) none = ns.drop (ns.length - 1) := by
  unfold cutI HT.sIx
  show (ns.drop (if (-1 : Int) < 0 then ((-1 : Int) + (ns.length : Int)).toNat else _)).take _ = _
  rw [if_pos (by decide)]
  have e : ((-1 : Int) + (ns.length : Int)).toNat = ns.length - 1 := by omega
  show (ns.drop ((-1 : Int) + (ns.length : Int)).toNat).take (ns.length - (if (-1 : Int) < 0 then ((-1 : Int) + (ns.length : Int)).toNat else _)) = _
  rw [if_pos (by decide), e]
  exact List.take_of_length_le (by rw [List.length_drop]; omega)

/-! ### wrong asks -/
/-- the inner loop's word: the first m limits let the ask at i -/
theorem crowded_of {L : List (Int × Int)} {ns : List Int} {i : Nat} (h : ∀ m, m < L.length → crowdedBy ns i (L.getD m (0, 0)) = false) : crowded L ns i = false := by
  unfold crowded
  rw [← Bool.not_eq_true, List.any_eq_true]
  rintro ⟨p, hp, hc⟩
  obtain ⟨m, hm, e⟩ := List.mem_iff_getElem.mp hp
  have := h m hm
  rw [List.getD_eq_getElem?_getD, List.getElem?_eq_getElem hm] at this
  rw [show (some L[m]).getD (0, 0) = p from e, hc] at this
  cases this
theorem crowded_hit {L : List (Int × Int)} {ns : List Int} {i : Nat} {p : Int × Int} (hp : p ∈ L) (h : crowdedBy ns i p = true) : crowded L ns i = true := List.any_eq_true.mpr ⟨p, hp, h⟩
theorem bad_closed {L : List (Int × Int)} {hs ns : List Int} {i : Nat} (h : opn hs (ns.getD i 0) = false) : badAt L hs ns i = true := by
  unfold badAt
  rw [h]; rfl
theorem bad_crowded {L : List (Int × Int)} {hs ns : List Int} {i : Nat} (h : crowded L ns i = true) : badAt L hs ns i = true := by
  unfold badAt
  rw [h, Bool.or_true]
theorem bad_not {L : List (Int × Int)} {hs ns : List Int} {i : Nat} (h1 : opn hs (ns.getD i 0) = true) (h2 : crowded L ns i = false) : badAt L hs ns i = false := by
  unfold badAt
  rw [h1, h2]; rfl
end Gr

set_option maxHeartbeats 4000000
namespace Gr
open PySem PySem.Spec PyProof.Rows L2

/-! ### where an ask is wrong: what it looks at -/
theorem any_congr {α : Type} {p q : α → Bool} : ∀ l : List α, (∀ x ∈ l, p x = q x) → l.any p = l.any q
  | [], _ => rfl
  | a :: l, h => by
    rw [List.any_cons, List.any_cons, h a List.mem_cons_self, any_congr l fun x hx => h x (List.mem_cons_of_mem _ hx)]
theorem bad_congr {L : List (Int × Int)} {hs ms ns : List Int} {i : Nat} (h : ∀ j, j ≤ i → ms.getD j 0 = ns.getD j 0) : badAt L hs ms i = badAt L hs ns i := by
  unfold badAt crowded
  rw [h i (Nat.le_refl _)]
  congr 1
  refine any_congr L fun p _ => ?_
  unfold crowdedBy
  rw [h i (Nat.le_refl _), h (i - p.1.toNat) (Nat.sub_le _ _)]
theorem bad_set {L L' : List (Int × Int)} (h : ∀ p, p ∈ L ↔ p ∈ L') (hs ns : List Int) (i : Nat) : badAt L hs ns i = badAt L' hs ns i := by
  unfold badAt
  congr 1
  unfold crowded
  rw [Bool.eq_iff_iff, List.any_eq_true, List.any_eq_true]
  constructor
  · rintro ⟨p, hp, e⟩
    exact ⟨p, (h p).mp hp, e⟩
  · rintro ⟨p, hp, e⟩
    exact ⟨p, (h p).mpr hp, e⟩
theorem find_congr {p q : Nat → Bool} : ∀ l : List Nat, (∀ x ∈ l, p x = q x) → l.find? p = l.find? q
  | [], _ => rfl
  | a :: l, h => by
    rw [List.find?_cons, List.find?_cons, h a List.mem_cons_self, find_congr l fun x hx => h x (List.mem_cons_of_mem _ hx)]
theorem fb_set {L L' : List (Int × Int)} (h : ∀ p, p ∈ L ↔ p ∈ L') (hs ns : List Int) : firstBad L hs ns = firstBad L' hs ns :=
  find_congr _ fun i _ => bad_set h hs ns i
theorem fb_rev (L : List (Int × Int)) (hs ns : List Int) : firstBad L.reverse hs ns = firstBad L hs ns := fb_set (fun p => List.mem_reverse) hs ns
theorem fb_twice (L : List (Int × Int)) (k : Nat) (hs ns : List Int) : firstBad (L ++ L.take k) hs ns = firstBad L hs ns :=
  fb_set (fun p => by
    rw [List.mem_append]
    exact ⟨fun h => h.elim id List.mem_of_mem_take, .inl⟩) hs ns
/-- the same moments under other hours, all later by the same -/
theorem fb_shift {L : List (Int × Int)} {hs hs' ns : List Int} (c : Int) (h : ∀ t ∈ ns, opn hs' (t + c) = opn hs t) : firstBad L hs' (ns.map (· + c)) = firstBad L hs ns := by
  unfold firstBad
  rw [List.length_map]
  refine find_congr _ fun i hi => ?_
  have hi' := List.mem_range.mp hi
  have g : ∀ j, j < ns.length → (ns.map (· + c)).getD j 0 = ns.getD j 0 + c := fun j hj => by
    rw [List.getD_eq_getElem?_getD, List.getElem?_map, List.getD_eq_getElem?_getD, List.getElem?_eq_getElem hj]
    rfl
  unfold badAt crowded
  rw [g i hi', h _ (getD_mem hi')]
  congr 1
  refine any_congr L fun p _ => ?_
  unfold crowdedBy
  rw [g i hi', g (i - p.1.toNat) (by omega)]
  congr 1
  by_cases z : ns.getD i 0 < ns.getD (i - p.1.toNat) 0 + p.2
  · rw [decide_eq_true z, decide_eq_true (by omega)]
  · rw [decide_eq_false z, decide_eq_false (by omega)]
theorem opn_twice (hs : List Int) (h0 : 0 < hs.length) (t : Int) : opn (hs ++ hs) t = opn hs t := by
  unfold opn
  have hn : ((hs ++ hs).length : Int) = (hs.length : Int) * 2 := by rw [List.length_append]; omega
  rw [hn]
  have g1 := Int.emod_nonneg t (b := (hs.length : Int) * 2) (by omega)
  have g2 := Int.emod_lt_of_pos t (b := (hs.length : Int) * 2) (by omega)
  have e : t % (hs.length : Int) = (t % ((hs.length : Int) * 2)) % (hs.length : Int) := (Int.emod_emod_of_dvd t (Int.dvd_mul_right _ _)).symm
  rw [e]
  generalize t % ((hs.length : Int) * 2) = r at g1 g2
  refine congrArg (fun x => decide (x = (1 : Int))) ?_
  rw [List.getD_eq_getElem?_getD, List.getD_eq_getElem?_getD]
  by_cases hr : r < (hs.length : Int)
  · rw [Int.emod_eq_of_lt g1 hr, List.getElem?_append_left (by omega)]
  · have e2 : r % (hs.length : Int) = r - (hs.length : Int) := by
      have : r = (r - (hs.length : Int)) + (hs.length : Int) := by omega
      rw [this, Int.add_emod_right, Int.emod_eq_of_lt (by omega) (by omega)]
      omega
    rw [e2, List.getElem?_append_right (by omega)]
    congr 2
    omega

/-! ### one ask more -/
theorem app_getD {ns : List Int} {t : Int} {j : Nat} (h : j < ns.length) : (ns ++ [t]).getD j 0 = ns.getD j 0 := by
  rw [List.getD_eq_getElem?_getD, List.getElem?_append_left h, List.getD_eq_getElem?_getD]
theorem app_last {ns : List Int} {t : Int} : (ns ++ [t]).getD ns.length 0 = t := by
  rw [List.getD_eq_getElem?_getD, List.getElem?_append_right (Nat.le_refl _), Nat.sub_self]
  rfl
theorem fb_next {L : List (Int × Int)} {hs ns : List Int} {st t : Int} (ok : LimOk L) (h : firstBad L hs ns = none) (n : NextOk L hs ns st t) : firstBad L hs (ns ++ [t]) = none := by
  rw [firstBad_none] at h ⊢
  intro j hj
  rw [List.length_append] at hj
  rcases Nat.lt_or_ge j ns.length with z | z
  · rw [bad_congr (ns := ns) fun k hk => app_getD (Nat.lt_of_le_of_lt hk z)]
    exact h j z
  · obtain rfl : j = ns.length := by
      have : ([t] : List Int).length = 1 := rfl
      omega
    refine bad_not (by rw [app_last]; exact n.op) ?_
    unfold crowded
    rw [← Bool.not_eq_true, List.any_eq_true]
    rintro ⟨p, hp, hc⟩
    obtain ⟨g1, g2, g3, g4⟩ := ok.rg p hp
    unfold crowdedBy at hc
    rw [Bool.and_eq_true, decide_eq_true_eq, decide_eq_true_eq, app_last] at hc
    obtain ⟨c1, c2⟩ := hc
    rw [app_getD (by omega)] at c2
    have := n.lim p hp c1
    omega
theorem asks_next {ns : List Int} {t : Int} (ok : AsksOk ns) (hn : ns.length ≤ 99) (h0 : 0 ≤ t) (h : ∀ x ∈ ns, x ≤ t) : AsksOk (ns ++ [t]) :=
  ⟨by rw [List.length_append]; exact Nat.succ_le_succ hn, fun n hm => by
    rcases List.mem_append.mp hm with z | z
    · exact ok.nn n z
    · rw [List.mem_singleton.mp z]; exact h0,
  List.pairwise_append.mpr ⟨ok.up, List.pairwise_singleton _ _, fun a ha b hb => by rw [List.mem_singleton.mp hb]; exact h a ha⟩⟩
theorem last_le {ns : List Int} (up : ns.Pairwise (· ≤ ·)) {m : Int} (h : ∀ y ∈ ns.drop (ns.length - 1), y ≤ m) : ∀ x ∈ ns, x ≤ m := by
  intro x hx
  obtain ⟨j, hj, rfl⟩ := List.mem_iff_getElem.mp hx
  have h1 := up_get up (i := j) (j := ns.length - 1) (by omega) (by omega)
  rw [getD_lt hj, getD_lt (by omega)] at h1
  refine Int.le_trans h1 (h _ ?_)
  refine List.mem_iff_getElem.mpr ⟨0, by rw [List.length_drop]; omega, ?_⟩
  rw [List.getElem_drop]
  rfl
/-! ### fewer asks -/
theorem asks_sub {ms ns : List Int} (ok : AsksOk ns) (s : ms.Sublist ns) : AsksOk ms :=
  ⟨Nat.le_trans s.length_le ok.len, fun n hm => ok.nn n (s.subset hm), ok.up.sublist s⟩
theorem take_getD {ns : List Int} {k j : Nat} (h : j < k) : (ns.take k).getD j 0 = ns.getD j 0 := by
  rw [List.getD_eq_getElem?_getD, List.getElem?_take_of_lt h, List.getD_eq_getElem?_getD]
theorem fb_take {L : List (Int × Int)} {hs ns : List Int} (k : Nat) : firstBad L hs (ns.take k) = (firstBad L hs ns).bind fun i => if i < k then some i else none := by
  cases h : firstBad L hs ns with
  | none =>
    rw [firstBad_none] at h
    show _ = none
    rw [firstBad_none]
    intro j hj
    rw [List.length_take] at hj
    rw [bad_congr (ns := ns) fun i hi => take_getD (by omega)]
    exact h j (by omega)
  | some i =>
    obtain ⟨h1, h2, h3⟩ := firstBad_lt h
    show _ = if i < k then some i else none
    by_cases hk : i < k
    · rw [if_pos hk]
      refine firstBad_some (by rw [List.length_take]; omega) ?_ fun j hj => ?_
      · rw [bad_congr (ns := ns) fun i hi => take_getD (by omega)]
        exact h2
      · rw [bad_congr (ns := ns) fun i hi => take_getD (by omega)]
        exact h3 j hj
    · rw [if_neg hk, firstBad_none]
      intro j hj
      rw [List.length_take] at hj
      rw [bad_congr (ns := ns) fun i hi => take_getD (by omega)]
      exact h3 j (by omega)
theorem sub_map {ms ns : List Int} (s : ms.Sublist ns) : ∃ f : Nat → Nat, (∀ i j, i < j → f i < f j) ∧ ∀ i, i < ms.length → f i < ns.length ∧ ms.getD i 0 = ns.getD (f i) 0 := by
  induction s with
  | slnil => exact ⟨id, fun _ _ h => h, fun i h => absurd h (Nat.not_lt_zero _)⟩
  | cons a s ih =>
    obtain ⟨f, h1, h2⟩ := ih
    refine ⟨fun i => f i + 1, fun i j h => Nat.succ_lt_succ (h1 i j h), fun i h => ?_⟩
    obtain ⟨h3, h4⟩ := h2 i h
    exact ⟨Nat.succ_lt_succ h3, by rw [h4]; rfl⟩
  | cons_cons a s ih =>
    obtain ⟨f, h1, h2⟩ := ih
    refine ⟨fun i => if i = 0 then 0 else f (i - 1) + 1, fun i j h => ?_, fun i h => ?_⟩
    · show (if i = 0 then 0 else f (i - 1) + 1) < (if j = 0 then 0 else f (j - 1) + 1)
      rw [if_neg (show ¬ j = 0 by omega)]
      by_cases hi : i = 0
      · rw [if_pos hi]; exact Nat.succ_pos _
      · rw [if_neg hi]; exact Nat.succ_lt_succ (h1 _ _ (by omega))
    · cases i with
      | zero => exact ⟨Nat.succ_pos _, rfl⟩
      | succ i =>
        obtain ⟨h3, h4⟩ := h2 i (Nat.lt_of_succ_lt_succ h)
        exact ⟨Nat.succ_lt_succ h3, h4⟩
theorem inc_gap {f : Nat → Nat} (h : ∀ i j, i < j → f i < f j) (i : Nat) : ∀ d, f i + d ≤ f (i + d)
  | 0 => Nat.le_refl _
  | d + 1 => by
    have h1 := inc_gap h i d
    have h2 := h (i + d) (i + (d + 1)) (by omega)
    omega
theorem fb_sub {L : List (Int × Int)} {hs ms ns : List Int} (ok : LimOk L) (up : ns.Pairwise (· ≤ ·)) (h : firstBad L hs ns = none) (s : ms.Sublist ns) : firstBad L hs ms = none := by
  obtain ⟨f, hf, hm⟩ := sub_map s
  rw [firstBad_none] at h ⊢
  intro i hi
  obtain ⟨h1, h2⟩ := hm i hi
  have hb := h (f i) h1
  unfold badAt at hb
  rw [Bool.or_eq_false_iff] at hb
  obtain ⟨b1, b2⟩ := hb
  refine bad_not (by rw [h2]; simpa using b1) ?_
  unfold crowded at b2 ⊢
  rw [← Bool.not_eq_true, List.any_eq_true] at b2 ⊢
  rintro ⟨p, hp, hc⟩
  refine b2 ⟨p, hp, ?_⟩
  obtain ⟨g1, g2, g3, g4⟩ := ok.rg p hp
  unfold crowdedBy at hc ⊢
  rw [Bool.and_eq_true, decide_eq_true_eq, decide_eq_true_eq] at hc ⊢
  obtain ⟨c1, c2⟩ := hc
  have k1 := inc_gap hf 0 i
  rw [Nat.zero_add] at k1
  have k2 := inc_gap hf (i - p.1.toNat) p.1.toNat
  have e : i - p.1.toNat + p.1.toNat = i := by omega
  rw [e] at k2
  obtain ⟨h3, h4⟩ := hm (i - p.1.toNat) (by omega)
  have k3 := up_get up (i := f (i - p.1.toNat)) (j := f i - p.1.toNat) (by omega) (by omega)
  exact ⟨by omega, by omega⟩
/-! ### limits -/
theorem lim_rev {L : List (Int × Int)} (ok : LimOk L) : LimOk L.reverse := ⟨by rw [List.length_reverse]; exact ok.len, fun p hp => ok.rg p (List.mem_reverse.mp hp)⟩
theorem lim_nil : LimOk [] := ⟨Nat.zero_le _, fun _ h => nomatch h⟩
theorem lim_app {L L' : List (Int × Int)} (ok : LimOk L) (ok' : LimOk L') (h : L.length + L'.length ≤ 4) : LimOk (L ++ L') := ⟨by rw [List.length_append]; exact h, fun p hp => (List.mem_append.mp hp).elim (ok.rg p) (ok'.rg p)⟩
theorem lim_take {L : List (Int × Int)} (ok : LimOk L) (k : Nat) : LimOk (L.take k) := ⟨by rw [List.length_take]; have := ok.len; omega, fun p hp => ok.rg p (List.mem_of_mem_take hp)⟩
theorem hrs_twice {hs : List Int} (ok : HrsOk hs) (h : hs.length < 7) : HrsOk (hs ++ hs) := ⟨by rw [List.length_append]; omega, fun p hp => (List.mem_append.mp hp).elim (ok.rg p) (ok.rg p), List.mem_append_left _ ok.one⟩
theorem asks_shift {ns : List Int} (ok : AsksOk ns) {c : Int} (h : 0 ≤ c) : AsksOk (ns.map (· + c)) := by
  refine ⟨by rw [List.length_map]; exact ok.len, fun n hn => ?_, ?_⟩
  · obtain ⟨x, hx, rfl⟩ := List.mem_map.mp hn
    have := ok.nn x hx
    show 0 ≤ x + c
    omega
  · rw [List.pairwise_map]
    exact ok.up.imp fun {a b} hab => by omega
theorem asks_perm {ms ns : List Int} (hp : ms.Perm ns) (up : ms.Pairwise (· ≤ ·)) (len : ns.length ≤ 100) (nn : ∀ n ∈ ns, 0 ≤ n) : AsksOk ms := ⟨by rw [hp.length_eq]; exact len, fun n hn => nn n (hp.mem_iff.mp hn), up⟩
/-! ### heaps -/
theorem sqt_upd {K : PySem.W.Frag} {H : Hp} {D r : Addr} {ys xs : List V} {o : HO} (hD : H D = some (.lst ys)) (h : SqT K H r xs) : SqT K (upd H D o) r xs := by
  rcases h with (h | ⟨u, h⟩) | h
  · exact .inl (.inl (by rw [upd_ne (ne_of h hD (by intro z; cases z))]; exact h))
  · exact .inl (.inr ⟨u, by rw [upd_ne (ne_of h hD (by intro z; cases z))]; exact h⟩)
  · exact .inr h
theorem paired_snoc {α β : Type} {G : α → β → Prop} : ∀ {l1 : List α} {l2 : List β}, Paired G l1 l2 → ∀ {x : α} {y : β}, G x y → Paired G (l1 ++ [x]) (l2 ++ [y])
  | _, _, .nil, _, _, h => .cons h .nil
  | _, _, .cons r t, _, _, h => .cons r (paired_snoc t h)
theorem Well.upd {H : Hp} {p D : Addr} {o : HO} (w : Well H p) (h : D ≠ p) : Well (L2.upd H D o) p := by
  obtain ⟨d, m, c, hp, h0⟩ := w
  exact ⟨d, m, c, by rw [upd_ne (Ne.symm h)]; exact hp, h0⟩
theorem Well.ne_new {H : Hp} {p D : Addr} (w : Well H p) (h : H D = none) : D ≠ p := by
  obtain ⟨d, m, c, hp, h0⟩ := w
  exact Ne.symm (ne_of_none hp h)
theorem paired_app {α β : Type} {G : α → β → Prop} : ∀ {l1 l3 : List α} {l2 l4 : List β}, Paired G l1 l2 → Paired G l3 l4 → Paired G (l1 ++ l3) (l2 ++ l4)
  | _, _, _, _, .nil, h => h
  | _, _, _, _, .cons r t, h => .cons r (paired_app t h)
theorem paired_rev {α β : Type} {G : α → β → Prop} : ∀ {l1 : List α} {l2 : List β}, Paired G l1 l2 → Paired G l1.reverse l2.reverse
  | _, _, .nil => .nil
  | _, _, .cons r t => by
    rw [List.reverse_cons, List.reverse_cons]
    exact paired_snoc (paired_rev t) r
theorem paired_take {α β : Type} {G : α → β → Prop} : ∀ {l1 : List α} {l2 : List β} (k : Nat), Paired G l1 l2 → Paired G (l1.take k) (l2.take k)
  | _, _, 0, _ => by
    rw [List.take_zero, List.take_zero]
    exact .nil
  | _, _, _ + 1, .nil => .nil
  | _, _, k + 1, .cons r t => .cons r (paired_take k t)
theorem cutV_upto (xs : List V) (k : Nat) : cutV xs none (some (k : Int)) = xs.take k := by
  unfold cutV HT.sIx
  show (xs.drop 0).take ((if (k : Int) < 0 then ((k : Int) + (xs.length : Int)).toNat else min (k : Int).toNat xs.length) - 0) = xs.take k
  rw [if_neg (by omega), List.drop_zero, Int.toNat_natCast, Nat.sub_zero]
  by_cases h : k ≤ xs.length
  · rw [Nat.min_eq_left h]
  · rw [Nat.min_eq_right (by omega), List.take_length, List.take_of_length_le (by omega)]
/-- t + u, whatever is made of it -/
theorem cat_any {K : PySem.W.Frag} {H : Hp} {a b : Addr} {xs ys : List V} {Q : VK} (ha : SqT K H a xs) (hb : SqT K H b ys) (hz : xs.length + ys.length ≤ sizeLine) (q : ∀ u H', Same H H' → SqT K H' u (xs ++ ys) → Q (.ref u) H') :
    rCatA K (.ref a) (.ref b) H Q := by
  refine ⟨a, b, xs, ys, rfl, rfl, ha, hb, hz, fun e => ?_, fun _ e => ?_, fun _ _ p hp => q p _ (same_new hp) (SqT.of upd_same)⟩
  · subst e
    exact q b H (Same.refl _) hb
  · subst e
    refine q a H (Same.refl _) ?_
    rw [List.append_nil]
    exact ha
/-! ### two arguments by keyword, the other way round -/
def swp {α : Type} : List α → List α
  | [x, y] => [y, x]
  | l => l
theorem swp_len {α : Type} (l : List α) : (swp l).length = l.length := by
  match l with
  | [] => rfl
  | [_] => rfl
  | [_, _] => rfl
  | _ :: _ :: _ :: _ => rfl
theorem swp_vals {vs : List V} {us : List Value} (r : Vals vs us) : Vals (swp vs) (swp us) := by
  cases r with
  | nil => exact .nil
  | cons r1 r2 =>
    cases r2 with
    | nil => exact .cons r1 .nil
    | cons r3 r4 =>
      cases r4 with
      | nil => exact .cons r3 (.cons r1 .nil)
      | cons r5 r6 => exact .cons r1 (.cons r3 (.cons r5 r6))
theorem kw_ispolite {K : PySem.W.Frag} {f : Addr} {fd : FuncData} (F : FnP K "is_polite" s_ispolite f fd) {us : List Value} (hl : us.length = 2) :
    bindArgs fd ⟨[], (["asks", "rules"] : List Str).zip us⟩ = pure ((["rules", "asks"] : List Str).zip (swp us)) := by
  obtain ⟨oc, od, dV, kV, doc, pm, an, cdv, ct, osl, rfl, lk, hcd, hD, hK⟩ := F.ex
  match us, hl with
  | [u1, u2], _ =>
    rcases hD with ⟨_, rfl⟩ | ⟨e, _⟩
    · rfl
    · exact absurd rfl e
/-! ### reprs -/
theorem flat_opt {o : Option Nat} (h : ∀ i, o = some i → i < 1000000) : flatB (optV o) = true := by
  cases o with
  | none => rfl
  | some i => exact decide_eq_true (by simpa using h i rfl)
theorem fb_small {L : List (Int × Int)} {hs ns : List Int} (h : ns.length ≤ 1000) : flatB (optV (firstBad L hs ns)) = true :=
  flat_opt fun i e => by
    have := (firstBad_lt e).1
    omega
theorem optV_non (o : Option Nat) : decide (optV o = .non) = o.isNone := by
  cases o with
  | none => rfl
  | some i => rfl
theorem ne_same {x y : V} (h : x = y) : (!decide (x = y)) = false := by
  rw [decide_eq_true h]; rfl
theorem asks_rep {ns : List Int} (ok : AsksOk ns) (h : ns.length ≤ 50) : AsksOk (ns ++ ns.drop (ns.length - 1)) := by
  refine ⟨by rw [List.length_append, List.length_drop]; omega, fun n hn => ?_, List.pairwise_append.mpr ⟨ok.up, ok.up.sublist (List.drop_sublist _ _), fun a ha b hb => ?_⟩⟩
  · rcases List.mem_append.mp hn with z | z
    · exact ok.nn n z
    · exact ok.nn n (List.mem_of_mem_drop z)
  · obtain ⟨i, hi, rfl⟩ := List.mem_iff_getElem.mp ha
    obtain ⟨j, hj, rfl⟩ := List.mem_iff_getElem.mp hb
    rw [List.length_drop] at hj
    have h1 := up_get ok.up (i := i) (j := ns.length - 1) (by omega) (by omega)
    rw [getD_lt hi, getD_lt (by omega)] at h1
    rw [List.getElem_drop]
    have e : ns.length - 1 + j = ns.length - 1 := by omega
    refine Int.le_trans h1 (Int.le_of_eq ?_)
    congr 1
    omega
/-! ### what a drawn turn holds -/
structure DrE (K : PySem.W.Frag) (p a b c : Addr) (L : List (Int × Int)) (hs ns : List Int) (H : Hp) : Prop where
  w : Well H p
  l : LimT K H a L
  h : IntT K H b hs
  r : IntT K H c ns
theorem DrE.but {K : PySem.W.Frag} {p a b c : Addr} {L : List (Int × Int)} {hs ns : List Int} {H H' : Hp} (d : DrE K p a b c L hs ns H) (e : But p H H') (w' : Well H' p) : DrE K p a b c L hs ns H' :=
  ⟨w', d.l.but e d.w, but_t e d.w d.h, but_t e d.w d.r⟩
theorem DrE.same {K : PySem.W.Frag} {p a b c : Addr} {L : List (Int × Int)} {hs ns : List Int} {H H' : Hp} (d : DrE K p a b c L hs ns H) (e : Same H H') : DrE K p a b c L hs ns H' :=
  ⟨d.w.same e, d.l.same e, same_t e d.h, same_t e d.r⟩
/-! ### a list of our own that grows -/
theorem but_tL {K : PySem.W.Frag} {p : Addr} {H H' : Hp} {a : Addr} {xs ys : List V} (e : But p H H') (hp : H p = some (.lst ys)) (h : SqT K H a xs) : SqT K H' a xs := by
  rcases h with (h | ⟨o, h⟩) | h
  · exact .inl (.inl (e _ _ (ne_of h hp (by intro z; cases z)) h))
  · exact .inl (.inr ⟨o, e _ _ (ne_of h hp (by intro z; cases z)) h⟩)
  · exact .inr h
theorem LimT.butL {K : PySem.W.Frag} {p : Addr} {H H' : Hp} {a : Addr} {L : List (Int × Int)} {ys : List V} (e : But p H H') (hp : H p = some (.lst ys)) (h : LimT K H a L) : LimT K H' a L := by
  obtain ⟨rs, h1, h2⟩ := h
  exact ⟨rs, but_tL e hp h1, Paired.mapP h2 fun _ _ z => but_tL e hp z⟩
theorem TupF.butL {p : Addr} {H H' : Hp} {a : Addr} {xs ys : List V} (e : But p H H') (hp : H p = some (.lst ys)) (h : TupF H a xs) : TupF H' a xs := by
  obtain ⟨o, ho, hd⟩ := h
  exact ⟨o, e _ _ (ne_of ho hp (by intro z; cases z)) ho, hd⟩
theorem same_but {p : Addr} {H H1 H2 : Hp} (e : Same H H1) (hp : H p = none) (f : But p H1 H2) : Same H H2 := fun b o h => f b o (ne_of_none h hp) (e b o h)
theorem first_one : ∀ {hs : List Int}, (1 : Int) ∈ hs → ∃ j : Nat, hs[j]? = some 1 ∧ ∀ m, m < j → hs[m]? ≠ some 1
  | [], h => nomatch h
  | a :: hs, h => by
    by_cases e : a = 1
    · exact ⟨0, by rw [e]; rfl, fun m hm => absurd hm (Nat.not_lt_zero _)⟩
    · have h' : (1 : Int) ∈ hs := by
        rcases List.mem_cons.mp h with z | z
        · exact absurd z.symm e
        · exact z
      obtain ⟨j, h1, h2⟩ := first_one h'
      refine ⟨j + 1, h1, fun m hm => ?_⟩
      cases m with
      | zero => exact fun z => e (Option.some.inj z)
      | succ m => exact h2 m (Nat.lt_of_succ_lt_succ hm)
theorem asks_scale {ns : List Int} (ok : AsksOk ns) {n j : Int} (h : 0 < n) (hj : 0 ≤ j) : AsksOk (ns.map fun t => t * n + j) := by
  refine ⟨by rw [List.length_map]; exact ok.len, fun x hx => ?_, ?_⟩
  · obtain ⟨y, hy, rfl⟩ := List.mem_map.mp hx
    have := Int.mul_nonneg (ok.nn y hy) (Int.le_of_lt h)
    show 0 ≤ y * n + j
    omega
  · rw [List.pairwise_map]
    exact ok.up.imp fun {a b} hab => by
      have := Int.mul_le_mul_of_nonneg_right hab (Int.le_of_lt h)
      omega
theorem cut_len (ns : List Int) (lo hi : Option Int) : (cutI ns lo hi).length ≤ ns.length := by
  unfold cutI
  rw [List.length_take, List.length_drop]
  omega
end Gr

set_option maxHeartbeats 4000000
namespace Gr
open PySem PySem.Spec PyProof.Rows L2
section
variable {P : Program} {w : World} {K : PySem.W.Frag} {mg : Str → Option Value} {base : Heap} {f : Addr} {fd : FuncData}
theorem sc_iswhole : FnScope ["value"] ["value"] (defScope s_iswhole) := ⟨rfl, rfl, rfl, by decide +kernel, rfl, by decide +kernel, by decide +kernel⟩
theorem ok_iswhole (F : FnP K "is_whole" s_iswhole f fd) (T : Txt mg) : FnG P w K mg base 1 f fd ["value"] (pr_iswhole) := by
  refine fnG_of F sc_iswhole (fun vs H Q h => ?_) (fun cdv A outer s H vs Q hr h => ?_)
  · obtain ⟨n, rfl, _⟩ := h; rfl
  · obtain ⟨n, rfl, q⟩ := h
    refine ⟨_, (pss_one (ps_ret (pe_and (pe_callB call_isi (by rfl) T.isinstance (by decide +kernel) (pa_cons (pv 0) (pa_cons (pe_bltn (v := .ty "int") (by rfl) T.int (by decide +kernel) rfl) pa_nil))) (pe_one (pe_not (pe_callB call_isi (by rfl) T.isinstance (by decide +kernel) (pa_cons (pv 0) (pa_cons (pe_bltn (v := .ty "bool") (by rfl) T.bool (by decide +kernel) rfl) pa_nil)))))))), ?_⟩
    refine ⟨_, rfl, _, _, _, _, true, rfl, .ty "int", .base (.int n), kit_ty (by decide +kernel), true, rfl, iteT ?_⟩
    exact ⟨_, rfl, _, _, _, _, false, rfl, .ty "bool", .base (.int n), kit_ty (by decide +kernel), false, rfl, q⟩
theorem sc_isbetween : FnScope ["value", "low", "high"] ["value", "low", "high"] (defScope s_isbetween) := ⟨rfl, rfl, rfl, by decide +kernel, rfl, by decide +kernel, by decide +kernel⟩
theorem ok_isbetween (F : FnP K "is_between" s_isbetween f fd) (T : Txt mg) (C_iswhole : Cal P w K mg base "is_whole" s_iswhole 1 ["value"] (pr_iswhole)) : FnG P w K mg base 2 f fd ["value", "low", "high"] (pr_isbetween) := by
  refine fnG_of F sc_isbetween (fun vs H Q h => ?_) (fun cdv A outer s H vs Q hr h => ?_)
  · obtain ⟨v, lo, hi, rfl, _⟩ := h; rfl
  · obtain ⟨v, lo, hi, rfl, q⟩ := h
    refine ⟨_, (pss_one (ps_ret (pe_and (pe_go C_iswhole (hr.mono (by decide)) rfl (pa_cons (pv 0) pa_nil)) (pe_one (pe_chain op_le op_le (pv 1) (pv 0) (pv 2)))))), ?_⟩
    refine ⟨_, rfl, v, rfl, true, rfl, iteT ?_⟩
    refine ⟨_, rfl, _, rfl, _, _, rfl, rfl, _, rfl, ?_⟩
    cases h1 : decide (lo ≤ v) with
    | true =>
      rw [h1, Bool.true_and] at q
      exact iteT ⟨_, rfl, _, _, rfl, rfl, q⟩
    | false =>
      rw [h1, Bool.false_and] at q
      exact iteF q
theorem sc_isfrom : FnScope ["value", "low"] ["value", "low"] (defScope s_isfrom) := ⟨rfl, rfl, rfl, by decide +kernel, rfl, by decide +kernel, by decide +kernel⟩
theorem ok_isfrom (F : FnP K "is_from" s_isfrom f fd) (T : Txt mg) (C_iswhole : Cal P w K mg base "is_whole" s_iswhole 1 ["value"] (pr_iswhole)) : FnG P w K mg base 2 f fd ["value", "low"] (pr_isfrom) := by
  refine fnG_of F sc_isfrom (fun vs H Q h => ?_) (fun cdv A outer s H vs Q hr h => ?_)
  · obtain ⟨v, lo, rfl, _⟩ := h; rfl
  · obtain ⟨v, lo, rfl, q⟩ := h
    refine ⟨_, (pss_one (ps_ret (pe_and (pe_go C_iswhole (hr.mono (by decide)) rfl (pa_cons (pv 0) pa_nil)) (pe_one (pe_cmpR op_ge (pv 0) (pv 1) (nomark _)))))), ?_⟩
    refine ⟨_, rfl, v, rfl, true, rfl, iteT ?_⟩
    exact ⟨_, rfl, _, rfl, _, _, rfl, rfl, q⟩
theorem sc_istupleupto : FnScope ["value", "low", "high"] ["value", "low", "high"] (defScope s_istupleupto) := ⟨rfl, rfl, rfl, by decide +kernel, rfl, by decide +kernel, by decide +kernel⟩
theorem ok_istupleupto (F : FnP K "is_tuple_up_to" s_istupleupto f fd) (T : Txt mg) : FnG P w K mg base 1 f fd ["value", "low", "high"] (pr_istupleupto K) := by
  refine fnG_of F sc_istupleupto (fun vs H Q h => ?_) (fun cdv A outer s H vs Q hr h => ?_)
  · obtain ⟨a, xs, lo, hi, rfl, _⟩ := h; rfl
  · obtain ⟨a, xs, lo, hi, rfl, ha, q⟩ := h
    refine ⟨_, (pss_one (ps_ret (pe_and (pe_callB call_isi (by rfl) T.isinstance (by decide +kernel) (pa_cons (pv 0) (pa_cons (pe_bltn (v := .ty "tuple") (by rfl) T.tuple (by decide +kernel) rfl) pa_nil))) (pe_one (pe_chain op_le op_le (pv 1) (pe_callB call_len_seq (by rfl) T.len (by decide +kernel) (pa_cons (pv 0) pa_nil)) (pv 2)))))), ?_⟩
    refine ⟨_, rfl, _, _, _, _, true, rfl, .ty "tuple", ty_tup ha, kit_ty (by decide +kernel), true, rfl, iteT ?_⟩
    refine ⟨_, rfl, _, rfl, _, _, rfl, .inr ha, _, _, rfl, rfl, _, rfl, ?_⟩
    cases h1 : decide (lo ≤ (xs.length : Int)) with
    | true =>
      rw [h1, Bool.true_and] at q
      exact iteT ⟨_, rfl, _, _, rfl, rfl, q⟩
    | false =>
      rw [h1, Bool.false_and] at q
      exact iteF q
theorem sc_islimit : FnScope ["value"] ["value"] (defScope s_islimit) := ⟨rfl, rfl, rfl, by decide +kernel, rfl, by decide +kernel, by decide +kernel⟩
theorem ok_islimit (F : FnP K "is_limit" s_islimit f fd) (T : Txt mg) (C_istupleupto : Cal P w K mg base "is_tuple_up_to" s_istupleupto 1 ["value", "low", "high"] (pr_istupleupto K)) (C_isbetween : Cal P w K mg base "is_between" s_isbetween 2 ["value", "low", "high"] (pr_isbetween)) : FnG P w K mg base 3 f fd ["value"] (pr_islimit K) := by
  refine fnG_of F sc_islimit (fun vs H Q h => ?_) (fun cdv A outer s H vs Q hr h => ?_)
  · obtain ⟨a, p, rfl, _⟩ := h; rfl
  · obtain ⟨a, p, rfl, ha, ⟨h1, h2, h3, h4⟩, q⟩ := h
    refine ⟨_, (pss_cons (ps_if (pt_not (pt_val (pe_go C_istupleupto (hr.mono (by decide)) rfl (pa_cons (pv 0) (pa_cons pe_int (pa_cons pe_int pa_nil)))))) (pss_one (ps_ret pe_bl)) pss_nil) (pss_one (ps_ret (pe_and (pe_go C_isbetween (hr.mono (by decide)) rfl (pa_cons (pe_ix ix_tup (pv 0) pe_int (fun _ _ => rfl)) (pa_cons pe_int (pa_cons (pe_gi rfl T.mASKS) pa_nil)))) (pe_one (pe_go C_isbetween (hr.mono (by decide)) rfl (pa_cons (pe_ix ix_tup (pv 0) pe_int (fun _ _ => rfl)) (pa_cons pe_int (pa_cons (pe_gi rfl T.mMOMENTS) pa_nil))))))))), ?_⟩
    refine ⟨_, rfl, a, _, 2, 2, rfl, ha, true, rfl, iteF ?_⟩
    refine ⟨_, rfl, a, _, _, _, rfl, rfl, ha, rfl, p.1, 1, 6, rfl, true, ?_, iteT ?_⟩
    · rw [decide_eq_true h1, decide_eq_true h2]; rfl
    refine ⟨_, rfl, a, _, _, _, rfl, rfl, ha, rfl, p.2, 1, 12, rfl, ?_⟩
    rw [decide_eq_true h3, decide_eq_true h4]
    exact q
end
end Gr

set_option maxHeartbeats 4000000
namespace Gr
open PySem PySem.Spec PyProof.Rows L2
section
variable {P : Program} {w : World} {K : PySem.W.Frag} {mg : Str → Option Value} {base : Heap} {f : Addr} {fd : FuncData}
theorem sc_arelimits : FnScope ["value", "pair"] ["value"] (defScope s_arelimits) := ⟨rfl, rfl, rfl, by decide +kernel, rfl, by decide +kernel, by decide +kernel⟩
theorem ok_arelimits (F : FnP K "are_limits" s_arelimits f fd) (T : Txt mg) (C_istupleupto : Cal P w K mg base "is_tuple_up_to" s_istupleupto 1 ["value", "low", "high"] (pr_istupleupto K)) (C_islimit : Cal P w K mg base "is_limit" s_islimit 3 ["value"] (pr_islimit K)) : FnG P w K mg base 4 f fd ["value"] (pr_arelimits K) := by
  refine fnG_of F sc_arelimits (fun vs H Q h => ?_) (fun cdv A outer s H vs Q hr h => ?_)
  · obtain ⟨a, L, rfl, _⟩ := h; rfl
  · obtain ⟨a, L, rfl, ⟨rs, hS, hP⟩, ok, q⟩ := h
    have hl : rs.length = L.length := Paired.length hP
    have h4 := ok.len
    refine ⟨_, (pss_one (ps_ret (pe_and (pe_go C_istupleupto (hr.mono (by decide)) rfl (pa_cons (pv 0) (pa_cons pe_int (pa_cons (pe_gi rfl T.mLIMITS) pa_nil)))) (pe_one (pe_callB (cr_all rfl) (by rfl) T.all (by decide +kernel) (pa_cons (pe_lc (own := [("pair", 1)]) (by rfl) sc_arelimits.nd (pi_tup (pv 0)) (blkOk_by (own := [("pair", 1)]) (N := ["value", "pair"]) (sc := defScope s_arelimits) (by decide +kernel)) (fun _ _ _ _ _ => (pg_name (i := 1) sc_arelimits.nd rfl (Or.inl rfl))) (fun _ _ _ _ _ => pts_nil) (fun _ _ _ _ _ => (pe_go C_islimit (hr.mono (by decide)) rfl (pa_cons (pv 1) pa_nil)))) pa_nil)))))), ?_⟩
    refine ⟨_, rfl, a, _, 0, 4, rfl, hS, true, ?_, iteT ?_⟩
    · rw [List.length_map, decide_eq_true (by omega), decide_eq_true (by omega)]; rfl
    refine ⟨_, rfl, a, rfl, ⟨_, hS⟩, fun D hD => ?_⟩
    refine lc_gen walk_tup (fun _ => true) (fun _ => .bl true) hD (by rw [List.length_map]; omega) (fun H' e => same_t e hS) (fun i x H' H'' C N hi e hy k1 k2 => ?_) (fun H' e hDl => ?_)
    · obtain ⟨rfl, hx⟩ := hy
      obtain ⟨hi', r, rfl, hm, hr'⟩ := lim_at hP hx
      exact ⟨rfl, _, rfl, r, _, rfl, same_t e hr', ok.rg _ hm, k1 rfl _ (Same.refl _)⟩
    · refine ⟨D, List.replicate rs.length true, rfl, SqL.of ?_, ?_⟩
      · rw [hDl, given_all, List.length_map]
        congr 2
        rw [List.map_const', List.map_replicate, List.length_range]
      · have : (List.replicate rs.length true).all id = true := by simp
        rw [this]
        exact q _ e
theorem sc_arehours : FnScope ["value", "hour"] ["value"] (defScope s_arehours) := ⟨rfl, rfl, rfl, by decide +kernel, rfl, by decide +kernel, by decide +kernel⟩
theorem ok_arehours (F : FnP K "are_hours" s_arehours f fd) (T : Txt mg) (C_istupleupto : Cal P w K mg base "is_tuple_up_to" s_istupleupto 1 ["value", "low", "high"] (pr_istupleupto K)) (C_isbetween : Cal P w K mg base "is_between" s_isbetween 2 ["value", "low", "high"] (pr_isbetween)) : FnG P w K mg base 3 f fd ["value"] (pr_arehours K) := by
  refine fnG_of F sc_arehours (fun vs H Q h => ?_) (fun cdv A outer s H vs Q hr h => ?_)
  · obtain ⟨a, hs, rfl, _⟩ := h; rfl
  · obtain ⟨a, hs, rfl, hS, ok, q⟩ := h
    have h1 := ok.pos
    have h2 := ok.len
    refine ⟨_, (pss_cons (ps_if (PW.pt (pw_or (pt_not (pt_val (pe_go C_istupleupto (hr.mono (by decide)) rfl (pa_cons (pv 0) (pa_cons pe_int (pa_cons (pe_gi rfl T.mHOURS) pa_nil)))))) (pw_or1 (pt_not (pt_val (pe_callB (cr_all rfl) (by rfl) T.all (by decide +kernel) (pa_cons (pe_lc (own := [("hour", 1)]) (by rfl) sc_arehours.nd (pi_tup (pv 0)) (blkOk_by (own := [("hour", 1)]) (N := ["value", "hour"]) (sc := defScope s_arehours) (by decide +kernel)) (fun _ _ _ _ _ => (pg_name (i := 1) sc_arehours.nd rfl (Or.inl rfl))) (fun _ _ _ _ _ => pts_nil) (fun _ _ _ _ _ => (pe_go C_isbetween (hr.mono (by decide)) rfl (pa_cons (pv 1) (pa_cons pe_int (pa_cons pe_int pa_nil)))))) pa_nil))))))) (pss_one (ps_ret pe_bl)) pss_nil) (pss_one (ps_ret (pe_cmpR op_in_seq pe_int (pv 0) (by rfl))))), ?_⟩
    refine ⟨_, rfl, a, _, 1, 12, rfl, hS, true, ?_, iteF ?_⟩
    · rw [List.length_map, decide_eq_true (by omega), decide_eq_true (by omega)]; rfl
    refine ⟨_, rfl, a, rfl, ⟨_, hS⟩, fun D hD => ?_⟩
    refine lc_gen walk_tup (fun _ => true) (fun _ => .bl true) hD (by rw [List.length_map]; omega) (fun H' e => same_t e hS) (fun i x H' H'' C N hi e hy k1 k2 => ?_) (fun H' e hDl => ?_)
    · obtain ⟨rfl, hx⟩ := hy
      obtain ⟨hi', rfl⟩ := ints_at hx
      refine ⟨rfl, _, rfl, _, 0, 1, rfl, ?_⟩
      have hm : hs.getD i 0 ∈ hs := by
        rw [List.getD_eq_getElem?_getD, List.getElem?_eq_getElem hi']
        exact List.getElem_mem hi'
      rcases ok.rg _ hm with z | z <;> (rw [z]; exact k1 rfl _ (Same.refl _))
    · refine ⟨D, List.replicate hs.length true, rfl, SqL.of ?_, ?_⟩
      · rw [hDl, given_all, List.length_map]
        congr 2
        rw [List.map_const', List.map_replicate, List.length_range]
      · have : (List.replicate hs.length true).all id = true := by simp
        rw [this]
        refine ⟨true, rfl, iteF ?_⟩
        refine ⟨_, rfl, a, _, rfl, .inr (same_t e hS), rfl, flat_ints hs, ?_⟩
        have : inV (.int 1) (hs.map V.int) = true := by
          unfold inV
          rw [List.any_map, List.any_eq_true]
          exact ⟨1, ok.one, rfl⟩
        rw [this]
        exact q _ e
theorem sc_isrulespair : FnScope ["limits", "hours"] ["limits", "hours"] (defScope s_isrulespair) := ⟨rfl, rfl, rfl, by decide +kernel, rfl, by decide +kernel, by decide +kernel⟩
theorem ok_isrulespair (F : FnP K "is_rules_pair" s_isrulespair f fd) (T : Txt mg) (C_arelimits : Cal P w K mg base "are_limits" s_arelimits 4 ["value"] (pr_arelimits K)) (C_arehours : Cal P w K mg base "are_hours" s_arehours 3 ["value"] (pr_arehours K)) : FnG P w K mg base 5 f fd ["limits", "hours"] (pr_isrulespair K) := by
  refine fnG_of F sc_isrulespair (fun vs H Q h => ?_) (fun cdv A outer s H vs Q hr h => ?_)
  · obtain ⟨a, b, L, hs, rfl, _⟩ := h; rfl
  · obtain ⟨a, b, L, hs, rfl, hL, okL, hH, okH, q⟩ := h
    refine ⟨_, (pss_one (ps_ret (pe_and (pe_go C_arelimits (hr.mono (by decide)) rfl (pa_cons (pv 0) pa_nil)) (pe_one (pe_go C_arehours (hr.mono (by decide)) rfl (pa_cons (pv 1) pa_nil)))))), ?_⟩
    refine ⟨_, rfl, a, L, rfl, hL, okL, fun H1 e1 => ⟨true, rfl, iteT ?_⟩⟩
    exact ⟨_, rfl, b, hs, rfl, same_t e1 hH, okH, fun H2 e2 => q _ (e1.trans e2)⟩
theorem sc_isopenat : FnScope ["hours", "moment"] ["hours", "moment"] (defScope s_isopenat) := ⟨rfl, rfl, rfl, by decide +kernel, rfl, by decide +kernel, by decide +kernel⟩
theorem ok_isopenat (F : FnP K "is_open_at" s_isopenat f fd) (T : Txt mg) : FnG P w K mg base 1 f fd ["hours", "moment"] (pr_isopenat K) := by
  refine fnG_of F sc_isopenat (fun vs H Q h => ?_) (fun cdv A outer s H vs Q hr h => ?_)
  · obtain ⟨a, hs, t, rfl, _⟩ := h; rfl
  · obtain ⟨a, hs, t, rfl, hS, h1, q⟩ := h
    refine ⟨_, (pss_one (ps_ret (pe_cmpR op_eq (pe_ix ix_tup (pv 0) (pe_op op_mod (pv 1) (pe_callB call_len_seq (by rfl) T.len (by decide +kernel) (pa_cons (pv 0) pa_nil))) (fun _ _ => rfl)) pe_int (nomark _)))), ?_⟩
    have g0 : (0 : Int) < ((hs.map V.int).length : Int) := by rw [List.length_map]; omega
    have g1 := Int.emod_nonneg t (b := (hs.length : Int)) (by omega)
    have g2 := Int.emod_lt_of_pos t (b := (hs.length : Int)) (by omega)
    refine ⟨_, rfl, _, rfl, _, rfl, a, _, rfl, .inr hS, _, _, rfl, rfl, g0, a, _, _, _, rfl, rfl, hS, atI_ints (i := (t % (hs.length : Int)).toNat) ?_ (by omega), rfl, ?_⟩
    · rw [List.length_map]; omega
    have e : decide (V.int (hs.getD (t % (hs.length : Int)).toNat 0) = V.int 1) = opn hs t := by
      unfold opn
      by_cases z : hs.getD (t % (hs.length : Int)).toNat 0 = 1
      · rw [decide_eq_true (congrArg V.int z), decide_eq_true z]
      · rw [decide_eq_false (fun y => z (V.int.inj y)), decide_eq_false z]
    rw [e]
    exact q
theorem sc_iscrowded : FnScope ["limits", "asks", "index", "many", "size"] ["limits", "asks", "index"] (defScope s_iscrowded) := ⟨rfl, rfl, rfl, by decide +kernel, rfl, by decide +kernel, by decide +kernel⟩
theorem ok_iscrowded (F : FnP K "is_crowded" s_iscrowded f fd) (T : Txt mg) : FnG P w K mg base 1 f fd ["limits", "asks", "index"] (pr_iscrowded K) := by
  refine fnG_of F sc_iscrowded (fun vs H Q h => ?_) (fun cdv A outer s H vs Q hr h => ?_)
  · obtain ⟨a, b, L, ns, i, rfl, _⟩ := h; rfl
  · obtain ⟨a, b, L, ns, ix, rfl, ⟨rs, hS, hP⟩, ok, hN, hix, q⟩ := h
    have hl : rs.length = L.length := Paired.length hP
    have h4 := ok.len
    refine ⟨_, (pss_one (ps_ret (pe_callB (cr_any rfl) (by rfl) T.any (by decide +kernel) (pa_cons (pe_lc (own := [("many", 3), ("size", 4)]) (by rfl) sc_iscrowded.nd (pi_tup (pv 0)) (blkOk_by (own := [("many", 3), ("size", 4)]) (N := ["limits", "asks", "index", "many", "size"]) (sc := defScope s_iscrowded) (by decide +kernel)) (fun _ _ _ _ _ => (pg_tupK (K := K) (n := 2) rfl rfl (pgs_cons (pg_name (i := 3) sc_iscrowded.nd rfl (Or.inl rfl)) (pgs_cons (pg_name (i := 4) sc_iscrowded.nd rfl (Or.inl rfl)) pgs_nil)))) (fun _ _ _ _ _ => pts_nil) (fun _ _ _ _ _ => (pe_and (pe_cmpR op_ge (pv 2) (pv 3) (nomark _)) (pe_one (pe_cmpR op_lt (pe_ix (ix_tupK (K := K) rfl) (pv 1) (pv 2) (fun _ _ => rfl)) (pe_op op_add (pe_ix (ix_tupK (K := K) rfl) (pv 1) (pe_op op_sub (pv 2) (pv 3)) (fun _ _ => rfl)) (pv 4)) (nomark _)))))) pa_nil)))), ?_⟩
    refine ⟨_, rfl, a, rfl, ⟨_, hS⟩, fun D hD => ?_⟩
    refine lc_gen walk_tup (fun _ => true) (fun i => .bl (crowdedBy ns ix (L.getD i (0, 0)))) hD (by rw [List.length_map]; omega) (fun H' e => same_t e hS) (fun i x H' H'' C N hi e hy k1 k2 => ?_) (fun H' e hDl => ?_)
    · obtain ⟨rfl, hx⟩ := hy
      obtain ⟨hi', r, rfl, hm, hr'⟩ := lim_at hP hx
      have k := k1 rfl _ (Same.refl _)
      obtain ⟨g1, g2, g3, g4⟩ := ok.rg _ hm
      generalize L.getD i (0, 0) = p at *
      refine ⟨r, _, rfl, same_t e hr', rfl, _, _, rfl, _, _, rfl, rfl, rfl, ?_⟩
      refine ⟨_, rfl, _, rfl, _, _, rfl, rfl, decide (p.1 ≤ (ix : Int)), rfl, ?_⟩
      unfold crowdedBy at k
      cases hd : decide (p.1 ≤ (ix : Int)) with
      | false =>
        rw [hd, Bool.false_and] at k
        exact iteF k
      | true =>
        rw [hd, Bool.true_and] at k
        have hd' := of_decide_eq_true hd
        refine iteT ?_
        refine ⟨_, rfl, _, rfl, b, _, _, _, rfl, rfl, same_t e hN, atI_ints rfl hix, ?_⟩
        refine ⟨_, rfl, _, rfl, _, rfl, _, _, rfl, rfl, b, _, _, _, rfl, rfl, same_t e hN, atI_ints (i := ix - p.1.toNat) (by omega) (by omega), _, rfl, _, _, rfl, rfl, _, _, rfl, rfl, k⟩
    · refine ⟨D, L.map (crowdedBy ns ix), rfl, SqL.of ?_, ?_⟩
      · rw [hDl, given_all, List.length_map, hl, ← range_getD (0, 0) (crowdedBy ns ix) L, List.map_map]
        rfl
      · have : (L.map (crowdedBy ns ix)).any id = crowded L ns ix := by
          unfold crowded
          rw [List.any_map]
          rfl
        rw [this]
        exact q _ e
theorem sc_firstwrongby : FnScope ["rules", "asks", "limits", "hours", "index", "moment"] ["rules", "asks"] (defScope s_firstwrongby) := ⟨rfl, rfl, rfl, by decide +kernel, rfl, by decide +kernel, by decide +kernel⟩
theorem ok_firstwrongby (F : FnP K "first_wrong_by" s_firstwrongby f fd) (T : Txt mg) (C_iscrowded : Cal P w K mg base "is_crowded" s_iscrowded 1 ["limits", "asks", "index"] (pr_iscrowded K)) (C_isopenat : Cal P w K mg base "is_open_at" s_isopenat 1 ["hours", "moment"] (pr_isopenat K)) : FnG P w K mg base 2 f fd ["rules", "asks"] (pr_firstwrongby K) := by
  refine fnG_of F sc_firstwrongby (fun vs H Q h => ?_) (fun cdv A outer s H vs Q hr h => ?_)
  · obtain ⟨a, b, L, hs, ns, rfl, _⟩ := h; rfl
  · obtain ⟨a, b, L, hs, ns, rfl, ⟨la, ha, hR, hL, hH⟩, okL, okH, hN, q⟩ := h
    refine ⟨_, (pss_cons (ps_asg (pv 0) (pg_tup rfl (pgs_cons (pg_name (i := 2) sc_firstwrongby.nd rfl (Or.inl rfl)) (pgs_cons (pg_name (i := 3) sc_firstwrongby.nd rfl (Or.inl rfl)) pgs_nil)))) (pss_cons (ps_for PassesOwn.never rfl (pi_enumT rfl T.enumerate (pa_cons (pv 1) pa_nil)) (pg_tup rfl (pgs_cons (pg_name (i := 4) sc_firstwrongby.nd rfl (Or.inl rfl)) (pgs_cons (pg_name (i := 5) sc_firstwrongby.nd rfl (Or.inl rfl)) pgs_nil))) (pss_one (ps_if (PW.pt (pw_or (pt_not (pt_val (pe_go C_isopenat (hr.mono (by decide)) rfl (pa_cons (pv 3) (pa_cons (pv 5) pa_nil))))) (pw_or1 (pt_val (pe_go C_iscrowded (hr.mono (by decide)) rfl (pa_cons (pv 2) (pa_cons (pv 1) (pa_cons (pv 4) pa_nil)))))))) (pss_one (ps_ret (pv 4))) pss_nil))) (pss_one (ps_ret pe_non)))), ?_⟩
    refine ⟨_, rfl, a, _, rfl, hR, rfl, _, _, rfl, _, _, rfl, rfl, ?_⟩
    refine ⟨_, rfl, b, _, rfl, hN, for_it walk_enumT (fun i σ H' => ∃ x y, σ = [some (.ref a), some (.ref b), some (.ref la), some (.ref ha), x, y] ∧ Same H H' ∧ ∀ j, j < i → badAt L hs ns j = false) ⟨none, none, rfl, Same.refl _, fun j hj => absurd hj (Nat.not_lt_zero _)⟩
      (fun i σ H' _ p => same_t p.choose_spec.choose_spec.2.1 hN) (fun i x σ H' H'' hi p hy => ?_) (fun σ H' p => ?_)⟩
    · obtain ⟨x0, y0, rfl, e, hb⟩ := p
      obtain ⟨Tq, x1, y1, rfl, hT, rfl, e1, e2⟩ := hy
      cases e1
      obtain ⟨hi', rfl⟩ := ints_at e2
      have e3 : Same H (upd H' Tq (.tup [.int (i : Nat), .int (ns.getD i 0)])) := e.trans (same_new hT)
      refine ⟨Tq, _, rfl, SqT.of upd_same, rfl, _, _, rfl, _, _, rfl, rfl, ?_⟩
      refine ⟨_, rfl, _, rfl, ha, hs, _, rfl, same_t e3 hH, okH.pos, opn hs (ns.getD i 0), rfl, ?_⟩
      cases ho : opn hs (ns.getD i 0) with
      | false =>
        refine iteT (iteT ⟨_, rfl, ?_⟩)
        have : firstBad L hs ns = some i := firstBad_some hi' (by unfold badAt; rw [ho]; rfl) hb
        rw [this] at q
        exact q _ e3
      | true =>
        refine iteF ?_
        refine ⟨_, rfl, _, rfl, _, rfl, la, b, L, ns, i, rfl, hL.same e3, okL, same_t e3 hN, hi', fun H3 e4 => ⟨crowded L ns i, rfl, ?_⟩⟩
        cases hc : crowded L ns i with
        | true =>
          refine iteT ⟨_, rfl, ?_⟩
          have : firstBad L hs ns = some i := firstBad_some hi' (by unfold badAt; rw [ho, hc]; rfl) hb
          rw [this] at q
          exact q _ (e3.trans e4)
        | false =>
          refine iteF ⟨_, _, rfl, e3.trans e4, fun j hj => ?_⟩
          rcases Nat.lt_succ_iff_lt_or_eq.mp hj with z | z
          · exact hb j z
          · rw [z]
            unfold badAt
            rw [ho, hc]
            rfl
    · obtain ⟨x0, y0, rfl, e, hb⟩ := p
      have : firstBad L hs ns = none := firstBad_none.mpr fun j hj => hb j (by rw [List.length_map]; exact hj)
      rw [this] at q
      exact q _ e
theorem sc_ispoliteby : FnScope ["rules", "asks"] ["rules", "asks"] (defScope s_ispoliteby) := ⟨rfl, rfl, rfl, by decide +kernel, rfl, by decide +kernel, by decide +kernel⟩
theorem ok_ispoliteby (F : FnP K "is_polite_by" s_ispoliteby f fd) (T : Txt mg) (C_firstwrongby : Cal P w K mg base "first_wrong_by" s_firstwrongby 2 ["rules", "asks"] (pr_firstwrongby K)) : FnG P w K mg base 3 f fd ["rules", "asks"] (pr_ispoliteby K) := by
  refine fnG_of F sc_ispoliteby (fun vs H Q h => ?_) (fun cdv A outer s H vs Q hr h => ?_)
  · obtain ⟨a, b, L, hs, ns, rfl, _⟩ := h; rfl
  · obtain ⟨a, b, L, hs, ns, rfl, hR, okL, okH, hN, q⟩ := h
    refine ⟨_, (pss_one (ps_ret (pe_cmpR op_isN (pe_go C_firstwrongby (hr.mono (by decide)) rfl (pa_cons (pv 0) (pa_cons (pv 1) pa_nil))) pe_non (nomark _)))), ?_⟩
    refine ⟨_, rfl, _, rfl, a, b, L, hs, ns, rfl, hR, okL, okH, hN, fun H1 e1 => ⟨rfl, ?_⟩⟩
    have q1 := q _ e1
    cases hf : firstBad L hs ns with
    | none => rw [hf] at q1; exact q1
    | some i => rw [hf] at q1; exact q1
end
end Gr

set_option maxHeartbeats 4000000
namespace Gr
open PySem PySem.Spec PyProof.Rows L2
open StX (pa_star)
section
variable {P : Program} {w : World} {K : PySem.W.Frag} {mg : Str → Option Value} {base : Heap} {f : Addr} {fd : FuncData}
theorem dp_ints {K : PySem.W.Frag} {H : Hp} : ∀ ns : List Int, DpAll K H (ns.map V.int) (ns.map PyData.int)
  | [] => .nil
  | n :: ns => .cons (.int n) (dp_ints ns)
theorem lay_ints : ∀ ns : List Int, PyData.canLayAll0 (ns.map PyData.int) = true ∧ PyData.depthAll (ns.map PyData.int) = 0
  | [] => ⟨rfl, rfl⟩
  | n :: ns => by
    obtain ⟨h1, h2⟩ := lay_ints ns
    refine ⟨?_, ?_⟩
    · simp only [List.map_cons, PyData.canLayAll0, PyData.canLay0, h1, Bool.and_self]
    · simp only [List.map_cons, PyData.depthAll, PyData.depth, h2]
      rfl
theorem shaped_ints (ns : List Int) : SeqAt.shaped (.tuple (ns.map PyData.int)) = true := by
  obtain ⟨h1, h2⟩ := lay_ints ns
  unfold SeqAt.shaped
  simp only [PyData.canLay0, PyData.depth, h1, h2]
  rfl
theorem sc_checkmoment : FnScope ["value"] ["value"] (defScope s_checkmoment) := ⟨rfl, rfl, rfl, by decide +kernel, rfl, by decide +kernel, by decide +kernel⟩
theorem ok_checkmoment (F : FnP K "check_moment" s_checkmoment f fd) (T : Txt mg) (C_isfrom : Cal P w K mg base "is_from" s_isfrom 2 ["value", "low"] (pr_isfrom)) : FnG P w K mg base 3 f fd ["value"] (pr_checkmoment) := by
  refine fnG_of F sc_checkmoment (fun vs H Q h => ?_) (fun cdv A outer s H vs Q hr h => ?_)
  · obtain ⟨n, rfl, _⟩ := h; rfl
  · obtain ⟨n, rfl, h0, q⟩ := h
    refine ⟨_, (pss_one (ps_if (pt_not (pt_val (pe_go C_isfrom (hr.mono (by decide)) rfl (pa_cons (pv 0) (pa_cons pe_int pa_nil))))) (pss_one ps_never) pss_nil)), ?_⟩
    exact ⟨_, rfl, n, 0, rfl, true, by rw [decide_eq_true h0], iteF q⟩
theorem sc_checkhours : FnScope ["value"] ["value"] (defScope s_checkhours) := ⟨rfl, rfl, rfl, by decide +kernel, rfl, by decide +kernel, by decide +kernel⟩
theorem ok_checkhours (F : FnP K "check_hours" s_checkhours f fd) (T : Txt mg) (C_arehours : Cal P w K mg base "are_hours" s_arehours 3 ["value"] (pr_arehours K)) : FnG P w K mg base 4 f fd ["value"] (pr_checkhours K) := by
  refine fnG_of F sc_checkhours (fun vs H Q h => ?_) (fun cdv A outer s H vs Q hr h => ?_)
  · obtain ⟨a, hs, rfl, _⟩ := h; rfl
  · obtain ⟨a, hs, rfl, hS, ok, q⟩ := h
    refine ⟨_, (pss_one (ps_if (pt_not (pt_val (pe_go C_arehours (hr.mono (by decide)) rfl (pa_cons (pv 0) pa_nil)))) (pss_one ps_never) pss_nil)), ?_⟩
    exact ⟨_, rfl, a, hs, rfl, hS, ok, fun H1 e1 => ⟨true, rfl, iteF (q _ e1)⟩⟩
theorem sc_aresomerules : FnScope ["value"] ["value"] (defScope s_aresomerules) := ⟨rfl, rfl, rfl, by decide +kernel, rfl, by decide +kernel, by decide +kernel⟩
theorem ok_aresomerules (F : FnP K "are_some_rules" s_aresomerules f fd) (T : Txt mg) (C_istupleupto : Cal P w K mg base "is_tuple_up_to" s_istupleupto 1 ["value", "low", "high"] (pr_istupleupto K)) (C_isrulespair : Cal P w K mg base "is_rules_pair" s_isrulespair 5 ["limits", "hours"] (pr_isrulespair K)) : FnG P w K mg base 6 f fd ["value"] (pr_aresomerules K) := by
  refine fnG_of F sc_aresomerules (fun vs H Q h => ?_) (fun cdv A outer s H vs Q hr h => ?_)
  · obtain ⟨a, L, hs, rfl, _⟩ := h; rfl
  · obtain ⟨a, L, hs, rfl, ⟨la, ha, hR, hL, hH⟩, okL, okH, q⟩ := h
    refine ⟨_, (pss_one (ps_ret (pe_and (pe_go C_istupleupto (hr.mono (by decide)) rfl (pa_cons (pv 0) (pa_cons pe_int (pa_cons pe_int pa_nil)))) (pe_one (pe_go C_isrulespair (hr.mono (by decide)) rfl (pa_cons (pe_ix ix_tup (pv 0) pe_int (fun _ _ => rfl)) (pa_cons (pe_ix ix_tup (pv 0) pe_int (fun _ _ => rfl)) pa_nil))))))), ?_⟩
    refine ⟨_, rfl, a, _, 2, 2, rfl, hR, true, rfl, iteT ?_⟩
    exact ⟨_, rfl, a, _, _, _, rfl, rfl, hR, rfl, _, rfl, a, _, _, _, rfl, rfl, hR, rfl, la, ha, L, hs, rfl, hL, okL, hH, okH, q⟩
theorem sc_checkrules : FnScope ["value"] ["value"] (defScope s_checkrules) := ⟨rfl, rfl, rfl, by decide +kernel, rfl, by decide +kernel, by decide +kernel⟩
theorem ok_checkrules (F : FnP K "check_rules" s_checkrules f fd) (T : Txt mg) (C_aresomerules : Cal P w K mg base "are_some_rules" s_aresomerules 6 ["value"] (pr_aresomerules K)) : FnG P w K mg base 7 f fd ["value"] (pr_checkrules K) := by
  refine fnG_of F sc_checkrules (fun vs H Q h => ?_) (fun cdv A outer s H vs Q hr h => ?_)
  · obtain ⟨a, L, hs, rfl, _⟩ := h; rfl
  · obtain ⟨a, L, hs, rfl, hR, okL, okH, q⟩ := h
    refine ⟨_, (pss_one (ps_if (pt_not (pt_val (pe_go C_aresomerules (hr.mono (by decide)) rfl (pa_cons (pv 0) pa_nil)))) (pss_one ps_never) pss_nil)), ?_⟩
    exact ⟨_, rfl, a, L, hs, rfl, hR, okL, okH, fun H1 e1 => ⟨true, rfl, iteF (q _ e1)⟩⟩
theorem sc_checkasks : FnScope ["value", "index", "moment"] ["value"] (defScope s_checkasks) := ⟨rfl, rfl, rfl, by decide +kernel, rfl, by decide +kernel, by decide +kernel⟩
theorem ok_checkasks (F : FnP K "check_asks" s_checkasks f fd) (T : Txt mg) (C_istupleupto : Cal P w K mg base "is_tuple_up_to" s_istupleupto 1 ["value", "low", "high"] (pr_istupleupto K)) (C_isfrom : Cal P w K mg base "is_from" s_isfrom 2 ["value", "low"] (pr_isfrom)) : FnG P w K mg base 3 f fd ["value"] (pr_checkasks K) := by
  refine fnG_of F sc_checkasks (fun vs H Q h => ?_) (fun cdv A outer s H vs Q hr h => ?_)
  · obtain ⟨a, ns, rfl, _⟩ := h; rfl
  · obtain ⟨a, ns, rfl, hS, ok, q⟩ := h
    have hl := ok.len
    refine ⟨_, (pss_cons (ps_if (pt_not (pt_val (pe_go C_istupleupto (hr.mono (by decide)) rfl (pa_cons (pv 0) (pa_cons pe_int (pa_cons (pe_gi rfl T.mROW) pa_nil)))))) (pss_one ps_never) pss_nil) (pss_one (ps_for PassesOwn.never rfl (pi_enumT rfl T.enumerate (pa_cons (pv 0) pa_nil)) (pg_tup rfl (pgs_cons (pg_name (i := 1) sc_checkasks.nd rfl (Or.inl rfl)) (pgs_cons (pg_name (i := 2) sc_checkasks.nd rfl (Or.inl rfl)) pgs_nil))) (pss_one (ps_if (PW.pt (pw_or (pt_not (pt_val (pe_go C_isfrom (hr.mono (by decide)) rfl (pa_cons (pv 2) (pa_cons pe_int pa_nil))))) (pw_or1 (PW.pt (pw_and (pt_cmpR op_gt (pv 1) pe_int (nomark _)) (pw_and1 (pt_cmpR op_lt (pv 2) (pe_ix ix_tup (pv 0) (pe_op op_sub (pv 1) pe_int) (fun _ _ => rfl)) (nomark _)))))))) (pss_one ps_never) pss_nil))))), ?_⟩
    refine ⟨_, rfl, a, _, 0, 200, rfl, hS, true, ?_, iteF ?_⟩
    · rw [List.length_map, decide_eq_true (by omega), decide_eq_true (by omega)]; rfl
    refine ⟨_, rfl, a, _, rfl, hS, for_it walk_enumT (fun i σ H' => ∃ x y, σ = [some (.ref a), x, y] ∧ Same H H') ⟨none, none, rfl, Same.refl _⟩
      (fun i σ H' _ p => same_t p.choose_spec.choose_spec.2 hS) (fun i x σ H' H'' hi p hy => ?_) (fun σ H' p => ?_)⟩
    · obtain ⟨x0, y0, rfl, e⟩ := p
      obtain ⟨Tq, x1, y1, rfl, hT, rfl, e1, e2⟩ := hy
      cases e1
      obtain ⟨hi', rfl⟩ := ints_at e2
      have e3 : Same H (upd H' Tq (.tup [.int (i : Nat), .int (ns.getD i 0)])) := e.trans (same_new hT)
      refine ⟨Tq, _, rfl, SqT.of upd_same, rfl, _, _, rfl, _, _, rfl, rfl, ?_⟩
      refine ⟨_, rfl, _, 0, rfl, true, by rw [decide_eq_true (ok.nn _ (getD_mem hi'))], iteF ?_⟩
      refine ⟨_, rfl, _, _, rfl, rfl, decide ((0 : Int) < (i : Int)), rfl, ?_⟩
      cases h0 : decide ((0 : Int) < (i : Int)) with
      | false => exact iteF (iteF ⟨_, _, rfl, e3⟩)
      | true =>
        have h0' := of_decide_eq_true h0
        refine iteT ?_
        refine ⟨_, rfl, _, rfl, _, rfl, _, _, rfl, rfl, a, _, _, _, rfl, rfl, same_t e3 hS, atI_ints (i := i - 1) (by omega) (by omega), _, _, rfl, rfl, false, ?_, iteF ⟨_, _, rfl, e3⟩⟩
        have := up_get ok.up (i := i - 1) (j := i) (by omega) hi'
        exact congrArg V.bl (decide_eq_false (by omega))
    · obtain ⟨x0, y0, rfl, e⟩ := p
      exact q _ e
theorem sc_checkpolite : FnScope ["rules", "asks", "wrong"] ["rules", "asks"] (defScope s_checkpolite) := ⟨rfl, rfl, rfl, by decide +kernel, rfl, by decide +kernel, by decide +kernel⟩
theorem ok_checkpolite (F : FnP K "check_polite" s_checkpolite f fd) (T : Txt mg) (C_firstwrongby : Cal P w K mg base "first_wrong_by" s_firstwrongby 2 ["rules", "asks"] (pr_firstwrongby K)) : FnG P w K mg base 3 f fd ["rules", "asks"] (pr_checkpolite K) := by
  refine fnG_of F sc_checkpolite (fun vs H Q h => ?_) (fun cdv A outer s H vs Q hr h => ?_)
  · obtain ⟨a, b, L, hs, ns, rfl, _⟩ := h; rfl
  · obtain ⟨a, b, L, hs, ns, rfl, hR, okL, okH, hN, hf, q⟩ := h
    refine ⟨_, (pss_cons (ps_set (i := 2) sc_checkpolite.nd rfl (Or.inl rfl) (pe_go C_firstwrongby (hr.mono (by decide)) rfl (pa_cons (pv 0) (pa_cons (pv 1) pa_nil)))) (pss_one (ps_if (pt_cmpR op_notN (pv 2) pe_non (nomark _)) (pss_one ps_never) pss_nil))), ?_⟩
    refine ⟨_, rfl, _, rfl, a, b, L, hs, ns, rfl, hR, okL, okH, hN, fun H1 e1 => ?_⟩
    rw [hf]
    exact ⟨_, rfl, rfl, false, rfl, iteF (q _ e1)⟩
theorem sc_isopen : FnScope ["hours", "moment"] ["hours", "moment"] (defScope s_isopen) := ⟨rfl, rfl, rfl, by decide +kernel, rfl, by decide +kernel, by decide +kernel⟩
theorem ok_isopen (F : FnP K "is_open" s_isopen f fd) (T : Txt mg) (C_checkhours : Cal P w K mg base "check_hours" s_checkhours 4 ["value"] (pr_checkhours K)) (C_checkmoment : Cal P w K mg base "check_moment" s_checkmoment 3 ["value"] (pr_checkmoment)) (C_isopenat : Cal P w K mg base "is_open_at" s_isopenat 1 ["hours", "moment"] (pr_isopenat K)) : FnG P w K mg base 5 f fd ["hours", "moment"] (pr_isopen K) := by
  refine fnG_of F sc_isopen (fun vs H Q h => ?_) (fun cdv A outer s H vs Q hr h => ?_)
  · obtain ⟨a, hs, t, rfl, _⟩ := h; rfl
  · obtain ⟨a, hs, t, rfl, hS, ok, h0, q⟩ := h
    refine ⟨_, (pss_cons (ps_expr (pe_go C_checkhours (hr.mono (by decide)) rfl (pa_cons (pv 0) pa_nil))) (pss_cons (ps_expr (pe_go C_checkmoment (hr.mono (by decide)) rfl (pa_cons (pv 1) pa_nil))) (pss_one (ps_ret (pe_go C_isopenat (hr.mono (by decide)) rfl (pa_cons (pv 0) (pa_cons (pv 1) pa_nil))))))), ?_⟩
    refine ⟨_, rfl, a, hs, rfl, hS, ok, fun H1 e1 => ?_⟩
    refine ⟨_, rfl, t, rfl, h0, ?_⟩
    exact ⟨_, rfl, _, rfl, a, hs, t, rfl, same_t e1 hS, ok.pos, q _ e1⟩
theorem sc_ispolite : FnScope ["rules", "asks"] ["rules", "asks"] (defScope s_ispolite) := ⟨rfl, rfl, rfl, by decide +kernel, rfl, by decide +kernel, by decide +kernel⟩
theorem ok_ispolite (F : FnP K "is_polite" s_ispolite f fd) (T : Txt mg) (C_checkrules : Cal P w K mg base "check_rules" s_checkrules 7 ["value"] (pr_checkrules K)) (C_checkasks : Cal P w K mg base "check_asks" s_checkasks 3 ["value"] (pr_checkasks K)) (C_ispoliteby : Cal P w K mg base "is_polite_by" s_ispoliteby 3 ["rules", "asks"] (pr_ispoliteby K)) : FnG P w K mg base 8 f fd ["rules", "asks"] (pr_ispolite K) := by
  refine fnG_of F sc_ispolite (fun vs H Q h => ?_) (fun cdv A outer s H vs Q hr h => ?_)
  · obtain ⟨a, b, L, hs, ns, rfl, _⟩ := h; rfl
  · obtain ⟨a, b, L, hs, ns, rfl, hR, okL, okH, hN, okN, q⟩ := h
    refine ⟨_, (pss_cons (ps_expr (pe_go C_checkrules (hr.mono (by decide)) rfl (pa_cons (pv 0) pa_nil))) (pss_cons (ps_expr (pe_go C_checkasks (hr.mono (by decide)) rfl (pa_cons (pv 1) pa_nil))) (pss_one (ps_ret (pe_go C_ispoliteby (hr.mono (by decide)) rfl (pa_cons (pv 0) (pa_cons (pv 1) pa_nil))))))), ?_⟩
    refine ⟨_, rfl, a, L, hs, rfl, hR, okL, okH, fun H1 e1 => ?_⟩
    refine ⟨_, rfl, b, ns, rfl, same_t e1 hN, okN, fun H2 e2 => ?_⟩
    have e3 := e1.trans e2
    exact ⟨_, rfl, _, rfl, a, b, L, hs, ns, rfl, hR.same e3, okL, okH, same_t e3 hN, fun H3 e4 => q _ (e3.trans e4)⟩
theorem sc_firstwrong : FnScope ["rules", "asks"] ["rules", "asks"] (defScope s_firstwrong) := ⟨rfl, rfl, rfl, by decide +kernel, rfl, by decide +kernel, by decide +kernel⟩
theorem ok_firstwrong (F : FnP K "first_wrong" s_firstwrong f fd) (T : Txt mg) (C_checkrules : Cal P w K mg base "check_rules" s_checkrules 7 ["value"] (pr_checkrules K)) (C_checkasks : Cal P w K mg base "check_asks" s_checkasks 3 ["value"] (pr_checkasks K)) (C_firstwrongby : Cal P w K mg base "first_wrong_by" s_firstwrongby 2 ["rules", "asks"] (pr_firstwrongby K)) : FnG P w K mg base 8 f fd ["rules", "asks"] (pr_firstwrong K) := by
  refine fnG_of F sc_firstwrong (fun vs H Q h => ?_) (fun cdv A outer s H vs Q hr h => ?_)
  · obtain ⟨a, b, L, hs, ns, rfl, _⟩ := h; rfl
  · obtain ⟨a, b, L, hs, ns, rfl, hR, okL, okH, hN, okN, q⟩ := h
    refine ⟨_, (pss_cons (ps_expr (pe_go C_checkrules (hr.mono (by decide)) rfl (pa_cons (pv 0) pa_nil))) (pss_cons (ps_expr (pe_go C_checkasks (hr.mono (by decide)) rfl (pa_cons (pv 1) pa_nil))) (pss_one (ps_ret (pe_go C_firstwrongby (hr.mono (by decide)) rfl (pa_cons (pv 0) (pa_cons (pv 1) pa_nil))))))), ?_⟩
    refine ⟨_, rfl, a, L, hs, rfl, hR, okL, okH, fun H1 e1 => ?_⟩
    refine ⟨_, rfl, b, ns, rfl, same_t e1 hN, okN, fun H2 e2 => ?_⟩
    have e3 := e1.trans e2
    exact ⟨_, rfl, _, rfl, a, b, L, hs, ns, rfl, hR.same e3, okL, okH, same_t e3 hN, fun H3 e4 => q _ (e3.trans e4)⟩
theorem sc_mayask : FnScope ["rules", "asks", "moment"] ["rules", "asks", "moment"] (defScope s_mayask) := ⟨rfl, rfl, rfl, by decide +kernel, rfl, by decide +kernel, by decide +kernel⟩
theorem ok_mayask (F : FnP K "may_ask" s_mayask f fd) (T : Txt mg) (C_checkrules : Cal P w K mg base "check_rules" s_checkrules 7 ["value"] (pr_checkrules K)) (C_checkasks : Cal P w K mg base "check_asks" s_checkasks 3 ["value"] (pr_checkasks K)) (C_checkmoment : Cal P w K mg base "check_moment" s_checkmoment 3 ["value"] (pr_checkmoment)) (C_checkpolite : Cal P w K mg base "check_polite" s_checkpolite 3 ["rules", "asks"] (pr_checkpolite K)) (C_ispoliteby : Cal P w K mg base "is_polite_by" s_ispoliteby 3 ["rules", "asks"] (pr_ispoliteby K)) : FnG P w K mg base 8 f fd ["rules", "asks", "moment"] (pr_mayask K) := by
  refine fnG_of F sc_mayask (fun vs H Q h => ?_) (fun cdv A outer s H vs Q hr h => ?_)
  · obtain ⟨a, b, L, hs, ns, t, rfl, _⟩ := h; rfl
  · obtain ⟨a, b, L, hs, ns, t, rfl, hR, okL, okH, hN, okN, hf, h0, hle, q⟩ := h
    have hlen := okN.len
    refine ⟨_, (pss_cons (ps_expr (pe_go C_checkrules (hr.mono (by decide)) rfl (pa_cons (pv 0) pa_nil))) (pss_cons (ps_expr (pe_go C_checkasks (hr.mono (by decide)) rfl (pa_cons (pv 1) pa_nil))) (pss_cons (ps_expr (pe_go C_checkmoment (hr.mono (by decide)) rfl (pa_cons (pv 2) pa_nil))) (pss_cons (ps_if (PW.pt (pw_and (pt_cmpR (op_neD hr.rm.units) (pv 1) (pe_tup pa_nil) (nomark _)) (pw_and1 (pt_cmpR op_lt (pv 2) (pe_ix ix_tup (pv 1) (pe_un un_neg pe_int) (fun _ _ => rfl)) (nomark _))))) (pss_one ps_never) pss_nil) (pss_cons (ps_expr (pe_go C_checkpolite (hr.mono (by decide)) rfl (pa_cons (pv 0) (pa_cons (pv 1) pa_nil)))) (pss_one (ps_ret (pe_go C_ispoliteby (hr.mono (by decide)) rfl (pa_cons (pv 0) (pa_cons (pe_tup (pa_star (pv 1) (pa_cons (pv 2) pa_nil))) pa_nil)))))))))), ?_⟩
    refine ⟨_, rfl, a, L, hs, rfl, hR, okL, okH, fun H1 e1 => ?_⟩
    refine ⟨_, rfl, b, ns, rfl, same_t e1 hN, okN, fun H2 e2 => ?_⟩
    have e3 := e1.trans e2
    refine ⟨_, rfl, t, rfl, h0, ?_⟩
    have fin : ∀ H4, Same H H4 → (tSeq (tDrop (tGo (pr_checkpolite K) (tCons (tVar 0) (tCons (tVar 1) tNil)))) (tRet (tGo (pr_ispoliteby K) (tCons (tVar 0) (tCons (tTup (StX.tStar K (tVar 1) (tCons (tVar 2) tNil))) tNil))))) { nx := fun _ H' => Q .non H', rt := Q } [some (.ref a), some (.ref b), some (.int t)] H4 := by
      intro H4 e4
      refine ⟨_, rfl, _, rfl, a, b, L, hs, ns, rfl, hR.same e4, okL, okH, same_t e4 hN, hf, fun H5 e5 => ?_⟩
      have e6 := e4.trans e5
      refine ⟨_, rfl, _, rfl, b, _, rfl, .inl (same_t e6 hN), _, rfl, ?_, fun p hp => ?_⟩
      · rw [List.length_append, List.length_map]
        exact Nat.le_trans (Nat.add_le_add_right hlen 1) (by decide)
      · have e7 := e6.trans (same_new (o := .tup (ns.map V.int ++ [.int t])) hp)
        refine ⟨a, p, L, hs, ns ++ [t], rfl, hR.same e7, okL, okH, ?_, fun H8 e8 => q _ (e7.trans e8)⟩
        unfold IntT
        rw [List.map_append]
        exact SqT.of upd_same
    refine ⟨_, rfl, by show 0 ≤ sizeLine; decide, fun p hp => ⟨.tuple (ns.map PyData.int), .tuple [], .tup (same_t (e3.trans (same_new hp)) hN) (dp_ints ns), .tup (SqT.of upd_same) .nil, ?_, rfl, _, rfl, ?_⟩⟩
    · exact shaped_ints ns
    cases hq : !PyData.eqv (.tuple (ns.map PyData.int)) (.tuple []) with
    | false => exact iteF (iteF (fin _ (e3.trans (same_new hp))))
    | true =>
      refine iteT ?_
      have hp0 : 0 < ns.length := by
        cases ns with
        | nil => exact absurd hq (by decide)
        | cons n r => exact Nat.succ_pos _
      have hat : atI (ns.map V.int) (-1) = some (.int (ns.getD (ns.length - 1) 0)) := by
        have e : ns.map V.int = (ns.dropLast.map V.int) ++ [.int (ns.getD (ns.length - 1) 0)] := by
          have z := List.dropLast_concat_getLast (l := ns) (List.ne_nil_of_length_pos hp0)
          rw [List.getLast_eq_getElem] at z
          rw [List.getD_eq_getElem?_getD, List.getElem?_eq_getElem (by omega)]
          show _ = _ ++ [V.int ns[ns.length - 1]]
          rw [← List.map_singleton (f := V.int), ← List.map_append, z]
        rw [e]
        exact atI_last _ _
      refine ⟨_, rfl, _, rfl, 1, rfl, b, _, _, _, rfl, rfl, same_t (e3.trans (same_new hp)) hN, hat, _, _, rfl, rfl, false, ?_, iteF (fin _ (e3.trans (same_new hp)))⟩
      have := hle _ (getD_mem (ns := ns) (i := ns.length - 1) (by omega))
      exact congrArg V.bl (decide_eq_false (by omega))
end
end Gr

set_option maxHeartbeats 4000000
namespace Gr
open PySem PySem.Spec PyProof.Rows L2
open StX (pa_star)
section
variable {P : Program} {w : World} {K : PySem.W.Frag} {mg : Str → Option Value} {base : Heap} {f : Addr} {fd : FuncData}
theorem sc_lawwell : FnScope ["_law_script", "_law_turn", "_law_mixed", "_law_each", "_law_cell", "_law_digits"] ["_law_script", "_law_turn"] (defScope s_lawwell) := ⟨rfl, rfl, rfl, by decide +kernel, rfl, by decide +kernel, by decide +kernel⟩
theorem ok_lawwell (F : FnP K "_law_well" s_lawwell f fd) (T : Txt mg) : FnG P w K mg base 1 f fd ["_law_script", "_law_turn"] (pr_lawwell K) := by
  refine fnG_of F sc_lawwell (fun vs H Q h => ?_) (fun cdv A outer s H vs Q hr h => ?_)
  · obtain ⟨a, ns, t, rfl, _⟩ := h; rfl
  · obtain ⟨a, ns, t, rfl, hS, q⟩ := h
    have big : ∀ j : Int, j = 2038074743 → 0 < j := fun j e => by omega
    refine ⟨_, (pss_cons (ps_set (i := 2) sc_lawwell.nd rfl (Or.inl rfl) (pe_op op_add pe_int (pe_op op_mul pe_int (pv 1)))) (pss_cons (ps_for PassesOwn.never rfl (pi_list (pe_slice sl_list (pv 0) po_none (po_some pe_int))) (pg_name (i := 3) sc_lawwell.nd rfl (Or.inl rfl)) (pss_one (ps_set (i := 2) sc_lawwell.nd rfl (Or.inl rfl) (pe_op op_mod (pe_callTy call_int1 (by rfl) T.int (by decide +kernel) (pa_cons (pe_op op_add (pe_op op_add (pe_op op_mul (pv 2) pe_int) (pe_op op_mul (pe_op op_mod (pe_callTy call_int1 (by rfl) T.int (by decide +kernel) (pa_cons (pv 3) pa_nil)) pe_int) pe_int)) pe_int) pa_nil)) pe_int)))) (Evl.pss_cut (ps_set (i := 4) sc_lawwell.nd rfl (Or.inl rfl) (pe_ifExp (pt_cmpR op_lt (pv 1) (pe_callB call_len_seq (by rfl) T.len (by decide +kernel) (pa_cons (pv 0) pa_nil)) (nomark _)) (pe_callTy call_int1 (by rfl) T.int (by decide +kernel) (pa_cons (pe_ix ix_list (pv 0) (pv 1) (fun _ _ => rfl)) pa_nil)) (pv 2))) (Evl.pss_cut (ps_set (i := 5) sc_lawwell.nd rfl (Or.inl rfl) (pe_ifExp (pt_cmpR op_ge (pe_callB call_abs (by rfl) T.abs (by decide +kernel) (pa_cons (pv 4) pa_nil)) (pe_op op_pow pe_int pe_int) (nomark _)) (pe_callB call_abs (by rfl) T.abs (by decide +kernel) (pa_cons (pv 4) pa_nil)) pe_int)) (pss_cons (ps_set (i := 2) sc_lawwell.nd rfl (Or.inl rfl) (pe_op op_mod (pe_callTy call_int1 (by rfl) T.int (by decide +kernel) (pa_cons (pe_op op_add (pe_op op_add (pe_op op_mul (pv 2) pe_int) (pe_op op_mul (pe_op op_mod (pe_callTy call_int1 (by rfl) T.int (by decide +kernel) (pa_cons (pv 4) pa_nil)) pe_int) pe_int)) pe_int) pa_nil)) pe_int)) (pss_one (ps_ret (pe_lst (pa_cons (pv 5) (pa_cons (pv 2) (pa_cons pe_int pa_nil))))))))))), ?_⟩
    refine ⟨_, rfl, _, _, rfl, rfl, .inl ⟨by decide, by decide⟩, _, _, rfl, rfl, ?_⟩
    refine ⟨_, rfl, _, rfl, a, _, rfl, hS, fun p hp => ⟨p, rfl, ⟨_, SqL.of upd_same⟩, ?_⟩⟩
    rw [cut_ints]
    have e0 : Same H (upd H p (.lst ((cutI ns none (some 9)).map V.int))) := same_new hp
    refine for_list (K := K) (a := p) (xs := (cutI ns none (some 9)).map V.int) (fun i σ H' => ∃ (m : Int) (x : Option V), σ = [some (.ref a), some (.int (t : Int)), some (.int m), x, none, none] ∧ H' = upd H p (.lst ((cutI ns none (some 9)).map V.int)))
      ⟨_, none, rfl, rfl⟩ (fun i σ H' _ z => by rw [z.choose_spec.choose_spec.2]; exact SqL.of upd_same) (fun i x σ H' hx z => ?_) (fun σ H' z => ?_)
    · obtain ⟨m, x0, rfl, rfl⟩ := z
      obtain ⟨_, rfl⟩ := ints_at hx
      exact ⟨_, rfl, _, _, rfl, rfl, .inr ⟨by decide, by decide⟩, _, rfl, .inl ⟨_, rfl, _, _, rfl, rfl, big _ rfl, _, _, rfl, rfl, .inr ⟨by decide, by decide⟩, _, _, rfl, rfl, _, _, rfl, rfl, .inl ⟨_, rfl, _, _, rfl, rfl, big _ rfl, _, _, rfl, rfl⟩⟩⟩
    obtain ⟨m, x0, rfl, rfl⟩ := z
    generalize upd H p (.lst ((cutI ns none (some 9)).map V.int)) = H1 at e0
    have hS1 := e0.seq hS
    refine ⟨fun σ' H' => ∃ c : Int, σ' = [some (.ref a), some (.int (t : Int)), some (.int m), x0, some (.int c), none] ∧ H' = H1, ?_, fun σ' H' z => ?_⟩
    · refine ⟨_, rfl, _, rfl, a, _, rfl, .inl hS1, _, _, rfl, rfl, _, rfl, ?_⟩
      refine ite2 (fun hc => ?_) (fun _ => ⟨_, rfl, _, rfl, rfl⟩)
      have hc' := of_decide_eq_true hc
      rw [List.length_map] at hc'
      exact ⟨_, rfl, _, rfl, a, _, _, _, rfl, rfl, hS1, atI_ints (i := t) rfl (by omega), .inl ⟨_, rfl, _, rfl, rfl⟩⟩
    obtain ⟨c, rfl, rfl⟩ := z
    refine ⟨fun σ' H2 => ∃ d : Int, 0 ≤ d ∧ σ' = [some (.ref a), some (.int (t : Int)), some (.int m), x0, some (.int c), some (.int d)] ∧ H2 = H', ?_, fun σ' H2 z => ?_⟩
    · refine ⟨_, rfl, _, rfl, _, _, rfl, rfl, ⟨by decide, by decide, by decide⟩, _, _, rfl, rfl, _, rfl, ?_⟩
      refine ite2 (fun hc => ⟨_, rfl, _, rfl, _, ?_, rfl, rfl⟩) (fun _ => ⟨_, by decide, rfl, rfl⟩)
      split <;> omega
    obtain ⟨d, h0, rfl, rfl⟩ := z
    refine ⟨_, rfl, _, _, rfl, rfl, .inr ⟨by decide, by decide⟩, _, rfl, .inl ⟨_, rfl, _, _, rfl, rfl, big _ rfl, _, _, rfl, rfl, .inr ⟨by decide, by decide⟩, _, _, rfl, rfl, _, _, rfl, rfl, .inl ⟨_, rfl, _, _, rfl, rfl, big _ rfl, ?_⟩⟩⟩
    refine ⟨_, rfl, _, rfl, by show 3 ≤ sizeLine; decide, fun u hu => ?_⟩
    exact q u _ (e0.trans (same_new hu)) (e0.free hu) ⟨_, _, _, upd_same, h0⟩
theorem sc_lawpick : FnScope ["_law_well_here", "_law_top", "_law_digit"] ["_law_well_here", "_law_top"] (defScope s_lawpick) := ⟨rfl, rfl, rfl, by decide +kernel, rfl, by decide +kernel, by decide +kernel⟩
theorem ok_lawpick (F : FnP K "_law_pick" s_lawpick f fd) (T : Txt mg) : FnG P w K mg base 1 f fd ["_law_well_here", "_law_top"] (pr_lawpick) := by
  refine fnG_of F sc_lawpick (fun vs H Q h => ?_) (fun cdv A outer s H vs Q hr h => ?_)
  · obtain ⟨p, top, rfl, _⟩ := h; rfl
  · obtain ⟨p, top, rfl, ⟨d, m, c, hp, hd⟩, h0, h1, q⟩ := h
    have big : ∀ j : Int, j = 2038074743 → 0 < j := fun j e => by omega
    refine ⟨_, (pss_cons (ps_if (pt_cmpR op_gt (pe_ix ix_list (pv 0) pe_int (fun _ _ => rfl)) pe_int (nomark _)) (pss_cons (ps_asg (pe_callB call_divmod (by rfl) T.divmod (by decide +kernel) (pa_cons (pe_ix ix_list (pv 0) pe_int (fun _ _ => rfl)) (pa_cons (pv 1) pa_nil))) (pg_tup rfl (pgs_cons (pg_sub (pv 0) pe_int set_list) (pgs_cons (pg_name (i := 2) sc_lawpick.nd rfl (Or.inl rfl)) pgs_nil)))) (pss_one (ps_ret (pv 2)))) pss_nil) (pss_cons (ps_asg (pe_op op_add (pe_ix ix_list (pv 0) pe_int (fun _ _ => rfl)) pe_int) (pg_sub (pv 0) pe_int set_list)) (pss_cons (ps_asg (pe_op op_mod (pe_callTy call_int1 (by rfl) T.int (by decide +kernel) (pa_cons (pe_op op_add (pe_op op_mul (pe_ix ix_list (pv 0) pe_int (fun _ _ => rfl)) pe_int) (pe_op op_mul pe_int (pe_ix ix_list (pv 0) pe_int (fun _ _ => rfl)))) pa_nil)) pe_int) (pg_sub (pv 0) pe_int set_list)) (pss_one (ps_ret (pe_op op_mod (pe_callTy call_int1 (by rfl) T.int (by decide +kernel) (pa_cons (pe_op op_fdiv (pe_ix ix_list (pv 0) pe_int (fun _ _ => rfl)) pe_int) pa_nil)) (pv 1))))))), ?_⟩
    refine ⟨_, rfl, p, _, _, _, rfl, rfl, SqL.of hp, rfl, _, _, rfl, rfl, _, rfl, ?_⟩
    refine ite2 (fun hc => ?_) (fun hc => ?_)
    · refine ⟨_, rfl, p, _, _, _, rfl, rfl, SqL.of hp, rfl, _, rfl, _, _, rfl, ⟨h0, by omega⟩, fun t ht => ?_⟩
      have npt : p ≠ t := ne_of_none hp ht
      refine ⟨t, _, rfl, SqT.of upd_same, rfl, _, _, rfl, _, rfl, p, _, _, _, rfl, rfl, by rw [upd_ne npt]; exact hp, rfl, _, _, rfl, rfl, ?_⟩
      refine ⟨_, rfl, q _ _ (Int.emod_nonneg _ (by omega)) (Int.emod_lt_of_pos _ h0) ?_ ⟨_, _, _, upd_same, Int.ediv_nonneg hd (by omega)⟩⟩
      exact ((But.refl p H).new ht).upd
    · refine ⟨_, rfl, p, _, _, _, rfl, rfl, SqL.of hp, rfl, _, _, rfl, rfl, _, rfl, p, _, _, _, rfl, rfl, hp, rfl, ?_⟩
      refine ⟨_, rfl, p, _, _, _, rfl, rfl, SqL.of upd_same, rfl, _, _, rfl, rfl, .inr ⟨by decide, by decide⟩, _, rfl, p, _, _, _, rfl, rfl, SqL.of upd_same, rfl, _, _, rfl, rfl, .inl ⟨by decide, by decide⟩, _, _, rfl, rfl, .inl ⟨_, rfl, _, _, rfl, rfl, big _ rfl, _, rfl, p, _, _, _, rfl, rfl, upd_same, rfl, ?_⟩⟩
      refine ⟨_, rfl, p, _, _, _, rfl, rfl, SqL.of upd_same, rfl, _, _, rfl, rfl, ⟨by decide, by decide⟩, .inl ⟨_, rfl, _, rfl, _, _, rfl, rfl, h0, ?_⟩⟩
      exact q _ _ (Int.emod_nonneg _ (by omega)) (Int.emod_lt_of_pos _ h0) (But.refl p H).upd.upd ⟨_, _, _, upd_same, hd⟩
theorem sc_lawone : FnScope ["_law_well_here", "_law_some"] ["_law_well_here", "_law_some"] (defScope s_lawone) := ⟨rfl, rfl, rfl, by decide +kernel, rfl, by decide +kernel, by decide +kernel⟩
theorem ok_lawone (F : FnP K "_law_one" s_lawone f fd) (T : Txt mg) (C_lawpick : Cal P w K mg base "_law_pick" s_lawpick 1 ["_law_well_here", "_law_top"] (pr_lawpick)) : FnG P w K mg base 2 f fd ["_law_well_here", "_law_some"] (pr_lawone) := by
  refine fnG_of F sc_lawone (fun vs H Q h => ?_) (fun cdv A outer s H vs Q hr h => ?_)
  · obtain ⟨p, u, xs, rfl, _⟩ := h; rfl
  · obtain ⟨p, u, xs, rfl, hw, hne, hu, h0, h1, q⟩ := h
    refine ⟨_, (pss_one (ps_ret (pe_ix ix_list (pv 1) (pe_go C_lawpick (hr.mono (by decide)) rfl (pa_cons (pv 0) (pa_cons (pe_callB call_len_seq (by rfl) T.len (by decide +kernel) (pa_cons (pv 1) pa_nil)) pa_nil))) (fun _ _ => rfl)))), ?_⟩
    refine ⟨_, rfl, _, rfl, _, rfl, u, _, rfl, .inl (SqL.of hu), p, _, rfl, hw, by omega, by omega, fun r H' g0 g1 e w' => ?_⟩
    have hi : r.toNat < xs.length := by omega
    refine ⟨u, xs, r, xs[r.toNat], rfl, rfl, SqL.of (e _ _ hne hu), at_of (j := r.toNat) (by omega) (List.getElem?_eq_getElem hi), q _ _ (List.getElem_mem hi) e w'⟩
theorem sc_lawopen : FnScope ["_law_clock", "_law_time"] ["_law_clock", "_law_time"] (defScope s_lawopen) := ⟨rfl, rfl, rfl, by decide +kernel, rfl, by decide +kernel, by decide +kernel⟩
theorem ok_lawopen (F : FnP K "_law_open" s_lawopen f fd) (T : Txt mg) : FnG P w K mg base 1 f fd ["_law_clock", "_law_time"] (pr_lawopen K) := by
  refine fnG_of F sc_lawopen (fun vs H Q h => ?_) (fun cdv A outer s H vs Q hr h => ?_)
  · obtain ⟨a, hs, t, rfl, _⟩ := h; rfl
  · obtain ⟨a, hs, t, rfl, hS, h1, q⟩ := h
    refine ⟨_, (pss_one (ps_ret (pe_cmpR op_eq (pe_ix ix_tup (pv 0) (pe_op op_mod (pe_callTy call_int1 (by rfl) T.int (by decide +kernel) (pa_cons (pv 1) pa_nil)) (pe_callB call_len_seq (by rfl) T.len (by decide +kernel) (pa_cons (pv 0) pa_nil))) (fun _ _ => rfl)) pe_int (nomark _)))), ?_⟩
    have g0 : (0 : Int) < ((hs.map V.int).length : Int) := by rw [List.length_map]; omega
    have g1 := Int.emod_nonneg t (b := (hs.length : Int)) (by omega)
    have g2 := Int.emod_lt_of_pos t (b := (hs.length : Int)) (by omega)
    refine ⟨_, rfl, _, rfl, .inl ⟨_, rfl, _, rfl, a, _, rfl, .inr hS, _, _, rfl, rfl, g0, a, _, _, _, rfl, rfl, hS, atI_ints (i := (t % (hs.length : Int)).toNat) ?_ (by omega), rfl, ?_⟩⟩
    · rw [List.length_map]; omega
    have e : decide (V.int (hs.getD (t % (hs.length : Int)).toNat 0) = V.int 1) = opn hs t := by
      unfold opn
      by_cases z : hs.getD (t % (hs.length : Int)).toNat 0 = 1
      · rw [decide_eq_true (congrArg V.int z), decide_eq_true z]
      · rw [decide_eq_false (fun y => z (V.int.inj y)), decide_eq_false z]
    rw [e]
    exact q
end
end Gr

set_option maxHeartbeats 4000000
namespace Gr
open PySem PySem.Spec PyProof.Rows L2
open StX (pa_star)
section
variable {P : Program} {w : World} {K : PySem.W.Frag} {mg : Str → Option Value} {base : Heap} {f : Addr} {fd : FuncData}
theorem sc_lawwrongat : FnScope ["_law_pairs", "_law_clock", "_law_row", "_law_at", "_law_time", "_law_pair", "_law_other"] ["_law_pairs", "_law_clock", "_law_row"] (defScope s_lawwrongat) := ⟨rfl, rfl, rfl, by decide +kernel, rfl, by decide +kernel, by decide +kernel⟩
theorem ok_lawwrongat (F : FnP K "_law_wrong_at" s_lawwrongat f fd) (T : Txt mg) (C_lawopen : Cal P w K mg base "_law_open" s_lawopen 1 ["_law_clock", "_law_time"] (pr_lawopen K)) : FnG P w K mg base 2 f fd ["_law_pairs", "_law_clock", "_law_row"] (pr_lawwrongat K) := by
  refine fnG_of F sc_lawwrongat (fun vs H Q h => ?_) (fun cdv A outer s H vs Q hr h => ?_)
  · obtain ⟨a, b, c, L, hs, ns, rfl, _⟩ := h; rfl
  · obtain ⟨a, b, c, L, hs, ns, rfl, ⟨rs, hS, hP⟩, okL, hH, okH, hN, okN, q⟩ := h
    have hl : rs.length = L.length := Paired.length hP
    have hlen := okN.len
    refine ⟨_, (pss_cons (ps_for PassesOwn.never rfl (pi_enumT rfl T.enumerate (pa_cons (pv 2) pa_nil)) (pg_tup rfl (pgs_cons (pg_name (i := 3) sc_lawwrongat.nd rfl (Or.inl rfl)) (pgs_cons (pg_name (i := 4) sc_lawwrongat.nd rfl (Or.inr rfl)) pgs_nil))) (pss_cons (ps_if (pt_not (pt_val (pe_go C_lawopen (hr.mono (by decide)) rfl (pa_cons (pv 1) (pa_cons (pv 4) pa_nil))))) (pss_one (ps_ret (pv 3))) pss_nil) (pss_one (ps_for PassesOwn.never rfl (pi_tup (pv 0)) (pg_name (i := 5) sc_lawwrongat.nd rfl (Or.inr rfl)) (pss_one (ps_if (pt_cmpR op_gt (pe_callB call_len_seq (by rfl) T.len (by decide +kernel) (pa_cons (pe_lc (own := [("_law_other", 6)]) (by rfl) sc_lawwrongat.nd (pi_tup (pe_slice sl_tupA (pv 2) po_none (po_some (pe_op op_add (pv 3) pe_int)))) (blkOk_by (own := [("_law_other", 6)]) (N := ["_law_pairs", "_law_clock", "_law_row", "_law_at", "_law_time", "_law_pair", "_law_other"]) (sc := defScope s_lawwrongat) (by decide +kernel)) (fun _ _ _ _ _ => (pg_name (i := 6) sc_lawwrongat.nd rfl (Or.inl rfl))) (fun _ _ _ _ _ => (pts_one (pt_cmpR op_gt (pv 6) (pe_op op_sub (pv 4) (pe_ix (ix_tupK (K := K) rfl) (pv 5) pe_int (fun _ _ => rfl))) (nomark _)))) (fun _ _ _ _ _ => (pv 6))) pa_nil)) (pe_ix ix_tup (pv 5) pe_int (fun _ _ => rfl)) (nomark _)) (pss_one (ps_ret (pv 3))) pss_nil)))))) (pss_one (ps_ret pe_non))), ?_⟩
    refine ⟨_, rfl, c, _, rfl, hN, for_it walk_enumT (fun i σ H' => ∃ x y z, σ = [some (.ref a), some (.ref b), some (.ref c), x, y, z, none] ∧ Same H H' ∧ ∀ j, j < i → badAt L hs ns j = false) ⟨none, none, none, rfl, Same.refl _, fun j hj => absurd hj (Nat.not_lt_zero _)⟩
      (fun i σ H' _ p => by obtain ⟨_, _, _, _, e, _⟩ := p; exact same_t e hN) (fun i x σ H' H'' hi p hy => ?_) (fun σ H' p => ?_)⟩
    · obtain ⟨x0, y0, z0, rfl, e, hb⟩ := p
      obtain ⟨Tq, x1, y1, rfl, hT, rfl, e1, e2⟩ := hy
      cases e1
      obtain ⟨hi', rfl⟩ := ints_at e2
      have e3 : Same H (upd H' Tq (.tup [.int (i : Nat), .int (ns.getD i 0)])) := e.trans (same_new hT)
      generalize hH1 : upd H' Tq (.tup [.int (i : Nat), .int (ns.getD i 0)]) = H1 at e3
      refine ⟨Tq, _, rfl, SqT.of (by rw [← hH1]; exact upd_same), rfl, _, _, rfl, _, _, rfl, rfl, ?_⟩
      refine ⟨_, rfl, _, rfl, b, hs, _, rfl, same_t e3 hH, okH.pos, opn hs (ns.getD i 0), rfl, ?_⟩
      cases ho : opn hs (ns.getD i 0) with
      | false =>
        refine iteT ⟨_, rfl, ?_⟩
        have := firstBad_some hi' (bad_closed ho) hb
        rw [this] at q
        exact q _ e3
      | true =>
        refine iteF ?_
        refine ⟨_, rfl, a, rfl, ⟨_, same_t e3 hS⟩, for_tup (K := K) (a := a) (xs := rs.map V.ref) (fun m σ H2 => ∃ z, σ = [some (.ref a), some (.ref b), some (.ref c), some (.int (i : Nat)), some (.int (ns.getD i 0)), z, none] ∧ Same H H2 ∧ ∀ k, k < m → crowdedBy ns i (L.getD k (0, 0)) = false)
          ⟨z0, rfl, e3, fun k hk => absurd hk (Nat.not_lt_zero _)⟩ (fun m σ H2 _ p => by obtain ⟨_, _, e, _⟩ := p; exact same_t e hS) (fun m x σ H2 hx p => ?_) (fun σ H2 p => ?_)⟩
        · obtain ⟨z, rfl, e4, hk⟩ := p
          obtain ⟨hm, r, rfl, hmem, hr'⟩ := lim_at hP hx
          obtain ⟨g1, g2, g3, g4⟩ := okL.rg _ hmem
          generalize hp : L.getD m (0, 0) = p at *
          refine ⟨_, rfl, _, rfl, _, _, rfl, rfl, _, rfl, sl_any (same_t e4 hN) fun u H3 e5 hu => ?_⟩
          rw [cut_ints] at hu
          have e6 := e4.trans e5
          refine ⟨u, rfl, ⟨_, hu⟩, fun D hD => ?_⟩
          have hz : (cutI ns none (some ((i : Int) + 1))) = ns.take (i + 1) := cut_upto ns (i + 1)
          rw [hz] at hu
          refine lc_gen (n := (ns.take (i + 1)).length) (by have := walk_tup (K := K) (a := u) (xs := (ns.take (i + 1)).map V.int); rw [List.length_map] at this; exact this) (fun k => decide (ns.getD i 0 - p.2 < (ns.take (i + 1)).getD k 0)) (fun k => .int ((ns.take (i + 1)).getD k 0)) hD (by rw [List.length_take]; omega) (fun H' e => same_t e hu) (fun k x H' H'' C N hk' e7 hy k1 k2 => ?_) (fun H' e7 hDl => ?_)
          · obtain ⟨rfl, hx'⟩ := hy
            obtain ⟨hk2, rfl⟩ := ints_at hx'
            refine ⟨rfl, _, rfl, _, rfl, _, rfl, r, _, _, _, rfl, rfl, same_t (e6.trans e7) hr', rfl, _, _, rfl, rfl, _, _, rfl, rfl, _, rfl, ?_⟩
            cases hd : decide (ns.getD i 0 - p.2 < (ns.take (i + 1)).getD k 0) with
            | true => exact iteT ⟨_, rfl, k1 hd _ (Same.refl _)⟩
            | false => exact iteF (k2 hd _ (Same.refl _))
          · have e8 := e6.trans e7
            refine ⟨D, _, rfl, .inl (SqL.of hDl), _, rfl, r, _, _, _, rfl, rfl, same_t e8 hr', rfl, _, _, rfl, rfl, _, rfl, ?_⟩
            have hcnt : ((Evl.given (ns.take (i + 1)).length (fun k => decide (ns.getD i 0 - p.2 < (ns.take (i + 1)).getD k 0)) (fun k => .int ((ns.take (i + 1)).getD k 0))).length : Int) = ((above ns (ns.getD i 0 - p.2) (i + 1) : Nat) : Int) := by
              rw [given_filter (ns.take (i + 1)) (fun x => decide (ns.getD i 0 - p.2 < x)), List.length_map]
              rfl
            rw [hcnt]
            have hc := crowded_iff okN.up hi' p g1
            cases hd : decide (p.1 < ((above ns (ns.getD i 0 - p.2) (i + 1) : Nat) : Int)) with
            | true =>
              refine iteT ⟨_, rfl, ?_⟩
              rw [hd] at hc
              have := firstBad_some hi' (bad_crowded (hs := hs) (crowded_hit hmem hc)) hb
              rw [this] at q
              exact q _ e8
            | false =>
              rw [hd] at hc
              refine iteF ⟨_, rfl, e8, fun k hk3 => ?_⟩
              rcases Nat.lt_succ_iff_lt_or_eq.mp hk3 with z | z
              · exact hk k z
              · rw [z, hp]; exact hc
        · obtain ⟨z, rfl, e4, hk⟩ := p
          refine ⟨_, _, _, rfl, e4, fun j hj => ?_⟩
          rcases Nat.lt_succ_iff_lt_or_eq.mp hj with z | z
          · exact hb j z
          · rw [z]
            refine bad_not ho (crowded_of fun m hm => hk m ?_)
            rw [List.length_map, hl]
            exact hm
    · obtain ⟨x0, y0, z0, rfl, e, hb⟩ := p
      have : firstBad L hs ns = none := firstBad_none.mpr fun j hj => hb j (by rw [List.length_map]; exact hj)
      rw [this] at q
      exact q _ e
end
end Gr

set_option maxHeartbeats 4000000
namespace Gr
open PySem PySem.Spec PyProof.Rows L2
open StX (pa_star)
section
variable {P : Program} {w : World} {K : PySem.W.Frag} {mg : Str → Option Value} {base : Heap} {f : Addr} {fd : FuncData}
/-- the table of counts of the first n asks -/
def CntOk (kvs : List (Key × V)) (l : List Int) : Prop := ∀ x : Int, (valV kvs (Sum.inl x : Key)).getD (.int 0) = .int ((l.count x : Nat) : Int)
theorem cnt_put {kvs : List (Key × V)} {l : List Int} (h : CntOk kvs l) (t : Int) : CntOk (putK kvs (Sum.inl t : Key) (.int (((l.count t : Nat) : Int) + 1))) (l ++ [t]) := by
  intro x
  rw [valV_put, List.count_append]
  by_cases e : (Sum.inl x : Key) = Sum.inl t
  · have e' : x = t := Sum.inl.inj e
    rw [if_pos e, e']
    simp
  · have e' : ¬ t = x := fun z => e (by rw [z])
    rw [if_neg e, h x]
    congr 2
    simp [e']
theorem put_len (kvs : List (Key × V)) (k : Key) (v : V) : (putK kvs k v).length ≤ kvs.length + 1 := by
  unfold putK
  split
  · rw [List.length_map]; omega
  · rw [List.length_append]; exact Nat.le_refl _
theorem sc_lawcounted : FnScope ["_law_pairs", "_law_clock", "_law_row", "_law_known", "_law_at", "_law_time", "_law_pair", "_law_back"] ["_law_pairs", "_law_clock", "_law_row"] (defScope s_lawcounted) := ⟨rfl, rfl, rfl, by decide +kernel, rfl, by decide +kernel, by decide +kernel⟩
theorem ok_lawcounted (F : FnP K "_law_counted" s_lawcounted f fd) (T : Txt mg) : FnG P w K mg base 1 f fd ["_law_pairs", "_law_clock", "_law_row"] (pr_lawcounted K) := by
  refine fnG_of F sc_lawcounted (fun vs H Q h => ?_) (fun cdv A outer s H vs Q hr h => ?_)
  · obtain ⟨a, b, c, L, hs, ns, rfl, _⟩ := h; rfl
  · obtain ⟨a, b, c, L, hs, ns, rfl, ⟨rs, hS, hP⟩, okL, hH, okH, hN, okN, q⟩ := h
    have hl : rs.length = L.length := Paired.length hP
    have hlen := okN.len
    refine ⟨_, (pss_cons (ps_set (i := 3) sc_lawcounted.nd rfl (Or.inr rfl) pe_dnewK) (pss_cons (ps_for PassesOwn.never rfl (pi_enumT rfl T.enumerate (pa_cons (pv 2) pa_nil)) (pg_tup rfl (pgs_cons (pg_name (i := 4) sc_lawcounted.nd rfl (Or.inl rfl)) (pgs_cons (pg_name (i := 5) sc_lawcounted.nd rfl (Or.inr rfl)) pgs_nil))) (pss_cons (ps_asg (pe_op op_add (pe_dget2 (hu_of hr.rm) (pv 3) (pv 5) pe_int (by exact ⟨rfl, rfl, rfl, rfl⟩)) pe_int) (pg_sub (pv 3) (pv 5) (set_dict (hu_of hr.rm)))) (pss_cons (ps_if (pt_cmpR op_ne (pe_ix ix_tup (pv 1) (pe_op op_mod (pe_callTy call_int1 (by rfl) T.int (by decide +kernel) (pa_cons (pv 5) pa_nil)) (pe_callB call_len_seq (by rfl) T.len (by decide +kernel) (pa_cons (pv 1) pa_nil))) (fun _ _ => rfl)) pe_int (nomark _)) (pss_one (ps_ret (pv 4))) pss_nil) (pss_one (ps_for PassesOwn.never rfl (pi_tup (pv 0)) (pg_name (i := 6) sc_lawcounted.nd rfl (Or.inl rfl)) (pss_one (ps_if (pt_cmpR op_gt (pe_callB (cr_sum rfl) (by rfl) T.sum (by decide +kernel) (pa_cons (pe_lc (own := [("_law_back", 7)]) (by rfl) sc_lawcounted.nd (pi_range1 rfl T.range (pa_cons (pe_ix ix_tup (pv 6) pe_int (fun _ _ => rfl)) pa_nil)) (blkOk_by (own := [("_law_back", 7)]) (N := ["_law_pairs", "_law_clock", "_law_row", "_law_known", "_law_at", "_law_time", "_law_pair", "_law_back"]) (sc := defScope s_lawcounted) (by decide +kernel)) (fun _ _ _ _ _ => (pg_name (i := 7) sc_lawcounted.nd rfl (Or.inl rfl))) (fun _ _ _ _ _ => pts_nil) (fun _ _ _ _ _ => (pe_dget2 (hu_of hr.rm) (pv 3) (pe_op op_sub (pv 5) (pv 7)) pe_int (by exact ⟨rfl, rfl, rfl, rfl⟩)))) pa_nil)) (pe_ix ix_tup (pv 6) pe_int (fun _ _ => rfl)) (nomark _)) (pss_one (ps_ret (pv 4))) pss_nil))))))) (pss_one (ps_ret pe_non)))), ?_⟩
    intro d hd
    have e0 : Same H (upd H d (.dK [])) := same_new hd
    refine ⟨_, rfl, c, _, rfl, same_t e0 hN, for_it walk_enumT (fun i σ H' => ∃ x y z kvs, σ = [some (.ref a), some (.ref b), some (.ref c), some (.ref d), x, y, z, none] ∧ Same H H' ∧ H' d = some (.dK kvs) ∧ CntOk kvs (ns.take i) ∧ kvs.length ≤ i ∧ ∀ j, j < i → badAt L hs ns j = false)
      ⟨none, none, none, [], rfl, e0, upd_same, fun x => rfl, Nat.le_refl _, fun j hj => absurd hj (Nat.not_lt_zero _)⟩
      (fun i σ H' _ p => by obtain ⟨_, _, _, _, _, e, _⟩ := p; exact same_t e hN) (fun i x σ H' H'' hi p hy => ?_) (fun σ H' p => ?_)⟩
    · obtain ⟨x0, y0, z0, kvs, rfl, e, hk, hc, hkl, hb⟩ := p
      obtain ⟨Tq, x1, y1, rfl, hT, rfl, e1, e2⟩ := hy
      cases e1
      obtain ⟨hi', rfl⟩ := ints_at e2
      have e3 : Same H (upd H' Tq (.tup [.int (i : Nat), .int (ns.getD i 0)])) := e.trans (same_new hT)
      have hk3 : upd H' Tq (.tup [.int (i : Nat), .int (ns.getD i 0)]) d = some (.dK kvs) := same_new hT _ _ hk
      generalize hH1 : upd H' Tq (.tup [.int (i : Nat), .int (ns.getD i 0)]) = H1 at e3 hk3
      refine ⟨Tq, _, rfl, SqT.of (by rw [← hH1]; exact upd_same), rfl, _, _, rfl, _, _, rfl, rfl, ?_⟩
      generalize ht : ns.getD i 0 = t at *
      have hcl : kvs.length < sizeLine := Nat.lt_of_le_of_lt hkl (Nat.lt_of_lt_of_le hi' (Nat.le_trans hlen (by decide)))
      refine ⟨_, rfl, d, rfl, .inl ⟨kvs, .inl hk3⟩, _, rfl, _, DGet.k (k := Sum.inl t) hk3, _, _, hc t, rfl, _, rfl, _, rfl, d, _, rfl, DPut.k (k := Sum.inl t) hk3 hcl, ?_⟩
      have hc2 := cnt_put hc t
      have htk : ns.take i ++ [t] = ns.take (i + 1) := by rw [take_succ' hi', ht]
      rw [htk] at hc2
      have e4 : Same H (upd H1 d (.dK (putK kvs (Sum.inl t : Key) (.int ((((ns.take i).count t : Nat) : Int) + 1))))) := same_mut e3 hd
      have hk4 : upd H1 d (.dK (putK kvs (Sum.inl t : Key) (.int ((((ns.take i).count t : Nat) : Int) + 1)))) d = some (.dK (putK kvs (Sum.inl t : Key) (.int ((((ns.take i).count t : Nat) : Int) + 1)))) := upd_same
      have hl4 : (putK kvs (Sum.inl t : Key) (.int ((((ns.take i).count t : Nat) : Int) + 1))).length ≤ i + 1 := Nat.le_trans (put_len _ _ _) (Nat.succ_le_succ hkl)
      generalize putK kvs (Sum.inl t : Key) (.int ((((ns.take i).count t : Nat) : Int) + 1)) = kv2 at *
      generalize upd H1 d (.dK kv2) = H2 at *
      have g0 : (0 : Int) < ((hs.map V.int).length : Int) := by rw [List.length_map]; have := okH.pos; omega
      have g1 := Int.emod_nonneg t (b := (hs.length : Int)) (by have := okH.pos; omega)
      have g2 := Int.emod_lt_of_pos t (b := (hs.length : Int)) (by have := okH.pos; omega)
      refine ⟨_, rfl, _, rfl, .inl ⟨_, rfl, _, rfl, b, _, rfl, .inr (same_t e4 hH), _, _, rfl, rfl, g0, b, _, _, _, rfl, rfl, same_t e4 hH, atI_ints (i := (t % (hs.length : Int)).toNat) (by rw [List.length_map]; omega) (by omega), rfl, !opn hs t, ?_, ?_⟩⟩
      · unfold opn
        refine congrArg V.bl ?_
        by_cases z : hs.getD (t % (hs.length : Int)).toNat 0 = 1
        · rw [decide_eq_true (congrArg V.int z), decide_eq_true z]
        · rw [decide_eq_false (fun y => z (V.int.inj y)), decide_eq_false z]
      cases ho : opn hs t with
      | false =>
        refine iteT ⟨_, rfl, ?_⟩
        have := firstBad_some (L := L) hi' (bad_closed (by rw [ht]; exact ho)) hb
        rw [this] at q
        exact q _ e4
      | true =>
        refine iteF ?_
        refine ⟨_, rfl, a, rfl, ⟨_, same_t e4 hS⟩, for_tup (K := K) (a := a) (xs := rs.map V.ref) (fun m σ H3 => ∃ z, σ = [some (.ref a), some (.ref b), some (.ref c), some (.ref d), some (.int (i : Nat)), some (.int t), z, none] ∧ Same H H3 ∧ H3 d = some (.dK kv2) ∧ ∀ k, k < m → crowdedBy ns i (L.getD k (0, 0)) = false)
          ⟨z0, rfl, e4, hk4, fun k hk => absurd hk (Nat.not_lt_zero _)⟩ (fun m σ H2 _ p => by obtain ⟨_, _, e, _⟩ := p; exact same_t e hS) (fun m x σ H3 hx p => ?_) (fun σ H3 p => ?_)⟩
        · obtain ⟨z, rfl, e5, hk5, hkb⟩ := p
          obtain ⟨hm, r, rfl, hmem, hr'⟩ := lim_at hP hx
          obtain ⟨w1, w2, w3, w4⟩ := okL.rg _ hmem
          generalize hp : L.getD m (0, 0) = p at *
          have hkk : ∀ x : Int, kv2 = kv2 → (valV kv2 (Sum.inl x : Key)).getD (.int 0) = .int (((ns.take (i + 1)).count x : Nat) : Int) := fun x _ => hc2 x
          refine ⟨_, rfl, r, _, _, _, rfl, rfl, same_t e5 hr', rfl, p.2, rfl, by omega, by omega, fun D hD => ?_⟩
          refine lc_gen walk_range (fun _ => true) (fun k => .int (((ns.take (i + 1)).count (t - (k : Int)) : Nat) : Int)) hD (by omega) (fun H' e => trivial) (fun k x H' H'' C N hk' e7 hy k1 k2 => ?_) (fun H' e7 hDl => ?_)
          · obtain ⟨rfl, rfl⟩ := hy
            have hk7 := e7 _ _ hk5
            have hz : (0 : Int) + (k : Int) = (k : Int) := Int.zero_add _
            refine ⟨rfl, _, rfl, d, rfl, .inl ⟨kv2, .inl hk7⟩, _, rfl, _, rfl, _, _, rfl, rfl, _, DGet.k (k := Sum.inl (t - (0 + (k : Int)))) hk7, ?_⟩
            rw [hz, hc2]
            exact k1 rfl _ (Same.refl _)
          · have e8 := e5.trans e7
            have hsum : Evl.given p.2.toNat (fun _ => true) (fun k => .int (((ns.take (i + 1)).count (t - (k : Int)) : Nat) : Int)) = ((List.range p.2.toNat).map fun (k : Nat) => (((ns.take (i + 1)).count (t - (k : Int)) : Nat) : Int)).map V.int := by
              rw [given_all, List.map_map]
              rfl
            rw [hsum] at hDl
            refine ⟨D, _, rfl, SqL.of hDl, _, rfl, r, _, _, _, rfl, rfl, same_t e8 hr', rfl, _, _, rfl, rfl, _, rfl, ?_⟩
            have hle : ∀ x ∈ ns.take (i + 1), x ≤ t := fun x hx => by
              obtain ⟨j, hj, ej⟩ := List.mem_iff_getElem.mp hx
              rw [List.length_take] at hj
              rw [List.getElem_take] at ej
              have := up_get okN.up (i := j) (j := i) (by omega) hi'
              rw [getD_lt (by omega), ej, ht] at this
              exact this
            rw [sum_back _ t hle]
            have hw : ((p.2.toNat : Nat) : Int) = p.2 := Int.toNat_of_nonneg (by omega)
            rw [hw]
            have hcr := crowded_iff okN.up hi' p w1
            rw [ht] at hcr
            unfold above at hcr
            cases hd2 : decide (p.1 < (((ns.take (i + 1)).filter fun x => decide (t - p.2 < x)).length : Int)) with
            | true =>
              refine iteT ⟨_, rfl, ?_⟩
              rw [hd2] at hcr
              have := firstBad_some hi' (bad_crowded (hs := hs) (crowded_hit hmem hcr)) hb
              rw [this] at q
              exact q _ e8
            | false =>
              rw [hd2] at hcr
              refine iteF ⟨_, rfl, e8, e7 _ _ hk5, fun k hk3 => ?_⟩
              rcases Nat.lt_succ_iff_lt_or_eq.mp hk3 with z | z
              · exact hkb k z
              · rw [z, hp]; exact hcr
        · obtain ⟨z, rfl, e5, hk5, hkb⟩ := p
          refine ⟨_, _, _, kv2, rfl, e5, hk5, hc2, hl4, fun j hj => ?_⟩
          rcases Nat.lt_succ_iff_lt_or_eq.mp hj with z | z
          · exact hb j z
          · rw [z]
            refine bad_not (by rw [ht]; exact ho) (crowded_of fun m hm => hkb m ?_)
            rw [List.length_map, hl]
            exact hm
    · obtain ⟨x0, y0, z0, kvs, rfl, e, _, _, _, hb⟩ := p
      have : firstBad L hs ns = none := firstBad_none.mpr fun j hj => hb j (by rw [List.length_map]; exact hj)
      rw [this] at q
      exact q _ e
end
end Gr

set_option maxHeartbeats 4000000
namespace Gr
open PySem PySem.Spec PyProof.Rows L2
open StX (pa_star)
section
variable {P : Program} {w : World} {K : PySem.W.Frag} {mg : Str → Option Value} {base : Heap} {f : Addr} {fd : FuncData}
theorem wt_ge {i : Nat} {v : Nat} : (0 : Int) + (i : Int) = (i : Int) := Int.zero_add _
theorem sc_lawsoonest : FnScope ["_law_pairs", "_law_clock", "_law_row", "_law_number", "_law_start", "_law_line", "_law_turn", "_law_time", "_law_pair", "_law_step"] ["_law_pairs", "_law_clock", "_law_row", "_law_number", "_law_start"] (defScope s_lawsoonest) := ⟨rfl, rfl, rfl, by decide +kernel, rfl, by decide +kernel, by decide +kernel⟩
theorem ok_lawsoonest (F : FnP K "_law_soonest" s_lawsoonest f fd) (T : Txt mg) (C_lawopen : Cal P w K mg base "_law_open" s_lawopen 1 ["_law_clock", "_law_time"] (pr_lawopen K)) : FnG P w K mg base 2 f fd ["_law_pairs", "_law_clock", "_law_row", "_law_number", "_law_start"] (pr_lawsoonest K) := by
  refine fnG_of F sc_lawsoonest (fun vs H Q h => ?_) (fun cdv A outer s H vs Q hr h => ?_)
  · obtain ⟨a, b, c, L, hs, ns, st, rfl, _⟩ := h; rfl
  · obtain ⟨a, b, c, L, hs, ns, st, rfl, ⟨rs, hS, hP⟩, okL, hH, okH, hc, hlen, q⟩ := h
    have hl : rs.length = L.length := Paired.length hP
    refine ⟨_, (pss_cons (ps_set (i := 5) sc_lawsoonest.nd rfl (Or.inl rfl) (pe_callTy call_list_of (by rfl) T.list (by decide +kernel) (pa_cons (pv 2) pa_nil))) (pss_cons (ps_for PassesOwn.never rfl (pi_range1 rfl T.range (pa_cons (pv 3) pa_nil)) (pg_name (i := 6) sc_lawsoonest.nd rfl (Or.inl rfl)) (pss_cons (ps_set (i := 7) sc_lawsoonest.nd rfl (Or.inl rfl) (pe_callB (cr_max rfl) (by rfl) T.max (by decide +kernel) (pa_cons (pe_op op_cat (pe_lst (pa_cons (pv 4) pa_nil)) (pe_slice sl_list (pv 5) (po_some (pe_un un_neg pe_int)) po_none)) pa_nil))) (pss_cons (ps_for PassesOwn.never rfl (pi_tup (pv 0)) (pg_name (i := 8) sc_lawsoonest.nd rfl (Or.inl rfl)) (pss_one (ps_if (pt_cmpR op_ge (pe_callB call_len_seq (by rfl) T.len (by decide +kernel) (pa_cons (pv 5) pa_nil)) (pe_ix ix_tup (pv 8) pe_int (fun _ _ => rfl)) (nomark _)) (pss_one (ps_set (i := 7) sc_lawsoonest.nd rfl (Or.inl rfl) (pe_callB (call_max2 rfl) (by rfl) T.max (by decide +kernel) (pa_cons (pv 7) (pa_cons (pe_op op_add (pe_ix ix_list (pv 5) (pe_op op_sub (pe_callB call_len_seq (by rfl) T.len (by decide +kernel) (pa_cons (pv 5) pa_nil)) (pe_ix ix_tup (pv 8) pe_int (fun _ _ => rfl))) (fun _ _ => rfl)) (pe_ix ix_tup (pv 8) pe_int (fun _ _ => rfl))) pa_nil))))) pss_nil))) (pss_cons (ps_for PassesOwn.never rfl (pi_range1 rfl T.range (pa_cons (pe_callB call_len_seq (by rfl) T.len (by decide +kernel) (pa_cons (pv 1) pa_nil)) pa_nil)) (pg_name (i := 9) sc_lawsoonest.nd rfl (Or.inl rfl)) (pss_one (ps_if (pt_not (pt_val (pe_go C_lawopen (hr.mono (by decide)) rfl (pa_cons (pv 1) (pa_cons (pv 7) pa_nil))))) (pss_one (ps_set (i := 7) sc_lawsoonest.nd rfl (Or.inl rfl) (pe_op op_add (pv 7) pe_int))) pss_nil))) (pss_one (ps_expr (pe_bm PySem.F.plainAttrs_list PySem.F.slot_list_append PySem.F.type_list_append mt_append (pv 5) (pa_cons (pv 7) pa_nil)))))))) (pss_one (ps_ret (pe_slice sl_list (pv 5) (po_some (pe_callB call_len_seq (by rfl) T.len (by decide +kernel) (pa_cons (pv 2) pa_nil))) po_none))))), ?_⟩
    refine ⟨_, rfl, c, _, rfl, .inl (SqL.of hc), fun l hnl => ?_⟩
    have e0 : Same H (upd H l (.lst (ns.map V.int))) := same_new hnl
    refine ⟨_, rfl, 1, rfl, by decide, by decide, for_range (lo := 0) (n := 1) (fun i σ H' => ∃ x6 x7 x8 x9, σ = [some (.ref a), some (.ref b), some (.ref c), some (.int 1), some (.int st), some (.ref l), x6, x7, x8, x9] ∧ Same H H' ∧
        ((i = 0 ∧ H' l = some (.lst (ns.map V.int))) ∨ (i = 1 ∧ ∃ t, NextOk L hs ns st t ∧ H' l = some (.lst ((ns ++ [t]).map V.int)))))
      ⟨none, none, none, none, rfl, e0, .inl ⟨rfl, upd_same⟩⟩ (fun i σ H' hi p => ?_) (fun σ H' p => ?_)⟩
    · obtain ⟨x6, x7, x8, x9, rfl, e, p⟩ := p
      obtain rfl : i = 0 := by omega
      have hl1 : H' l = some (.lst (ns.map V.int)) := by
        rcases p with ⟨_, p⟩ | ⟨z, _⟩
        · exact p
        · cases z
      refine ⟨_, rfl, by show 1 ≤ sizeLine; decide, fun u hu => ?_⟩
      have e1 : Same H (upd H' u (.lst [.int st])) := e.trans (same_new hu)
      have hl2 : upd H' u (.lst [.int st]) l = some (.lst (ns.map V.int)) := same_new hu _ _ hl1
      have hu2 : upd H' u (.lst [.int st]) u = some (.lst [.int st]) := upd_same
      generalize upd H' u (.lst [.int st]) = H1 at e1 hl2 hu2
      refine ⟨_, rfl, _, rfl, _, rfl, l, _, rfl, SqL.of hl2, fun u2 hu3 => ?_⟩
      rw [cut_ints]
      generalize hlast : cutI ns (some (-1)) none = last
      have e2 : Same H (upd H1 u2 (.lst (last.map V.int))) := e1.trans (same_new hu3)
      have hl3 : upd H1 u2 (.lst (last.map V.int)) l = some (.lst (ns.map V.int)) := same_new hu3 _ _ hl2
      have hu4 : upd H1 u2 (.lst (last.map V.int)) u = some (.lst [.int st]) := same_new hu3 _ _ hu2
      have hu5 : upd H1 u2 (.lst (last.map V.int)) u2 = some (.lst (last.map V.int)) := upd_same
      generalize upd H1 u2 (.lst (last.map V.int)) = H2 at e2 hl3 hu4 hu5
      have hll : last.length ≤ 1 := by
        rw [← hlast, cut_last, List.length_drop]; omega
      refine ⟨u, u2, _, _, rfl, rfl, hu4, hu5, by rw [List.length_map]; exact Nat.le_trans (Nat.add_le_add_left hll 1) (by decide), fun u3 hu6 => ?_⟩
      have e3 : Same H (upd H2 u3 (.lst ([.int st] ++ last.map V.int))) := e2.trans (same_new hu6)
      have hl4 : upd H2 u3 (.lst ([.int st] ++ last.map V.int)) l = some (.lst (ns.map V.int)) := same_new hu6 _ _ hl3
      have hu7 : upd H2 u3 (.lst ([.int st] ++ last.map V.int)) u3 = some (.lst ((st :: last).map V.int)) := upd_same
      generalize upd H2 u3 (.lst ([.int st] ++ last.map V.int)) = H3 at e3 hl4 hu7
      refine ⟨u3, st :: last, rfl, SqL.of hu7, Nat.succ_pos _, fun t0 _ ht0 => ?_⟩
      have hst0 : st ≤ t0 := ht0 _ List.mem_cons_self
      refine ⟨_, rfl, a, rfl, ⟨_, same_t e3 hS⟩, for_tup (K := K) (a := a) (xs := rs.map V.ref) (fun m σ H4 => ∃ t z8, σ = [some (.ref a), some (.ref b), some (.ref c), some (.int 1), some (.int st), some (.ref l), some (.int (0 + (0 : Nat))), some (.int t), z8, x9] ∧ Same H H4 ∧ H4 l = some (.lst (ns.map V.int)) ∧ st ≤ t ∧
          ∀ k, k < m → (L.getD k (0, 0)).1 ≤ (ns.length : Int) → ns.getD (ns.length - (L.getD k (0, 0)).1.toNat) 0 + (L.getD k (0, 0)).2 ≤ t)
        ⟨t0, x8, rfl, e3, hl4, hst0, fun k hk => absurd hk (Nat.not_lt_zero _)⟩ (fun m σ H2 _ p => by obtain ⟨_, _, _, e, _⟩ := p; exact same_t e hS) (fun m x σ H4 hx p => ?_) (fun σ H4 p => ?_)⟩
      · obtain ⟨t, z8, rfl, e4, hl5, ht, hk⟩ := p
        obtain ⟨hm, r, rfl, hmem, hr'⟩ := lim_at hP hx
        obtain ⟨g1, g2, g3, g4⟩ := okL.rg _ hmem
        generalize hp : L.getD m (0, 0) = p at *
        refine ⟨_, rfl, l, _, rfl, .inl (SqL.of hl5), _, rfl, r, _, _, _, rfl, rfl, same_t e4 hr', rfl, _, _, rfl, rfl, ?_⟩
        have hlm : ((ns.map V.int).length : Int) = (ns.length : Int) := by rw [List.length_map]
        refine ⟨_, rfl, ite2 (fun hc => ?_) (fun hc => ⟨t, _, rfl, e4, hl5, ht, fun k hk3 => ?_⟩)⟩
        · have hc' := of_decide_eq_true hc
          rw [hlm] at hc'
          refine ⟨_, rfl, _, rfl, _, rfl, l, _, rfl, .inl (SqL.of hl5), _, rfl, r, _, _, _, rfl, rfl, same_t e4 hr', rfl, _, _, rfl, rfl, l, _, _, _, rfl, rfl, SqL.of hl5, atI_ints (i := ns.length - p.1.toNat) (by rw [hlm]; omega) (by omega), ?_⟩
          refine ⟨_, rfl, r, _, _, _, rfl, rfl, same_t e4 hr', rfl, _, _, rfl, rfl, _, _, rfl, _, _, rfl, e4, hl5, ?_, fun k hk3 => ?_⟩
          · split <;> omega
          · rcases Nat.lt_succ_iff_lt_or_eq.mp hk3 with z | z
            · intro h1
              have := hk k z h1
              split <;> omega
            · rw [z, hp]
              intro _
              split <;> omega
        · rcases Nat.lt_succ_iff_lt_or_eq.mp hk3 with z | z
          · exact hk k z
          · rw [z, hp]
            intro h1
            have hc' : ¬ p.1 ≤ ((ns.map V.int).length : Int) := fun z => hc (decide_eq_true z)
            rw [hlm] at hc'
            exact absurd h1 hc'
      · obtain ⟨t1, z8, rfl, e4, hl5, ht1, hk⟩ := p
        have hlm : ((hs.map V.int).length : Int) = (hs.length : Int) := by rw [List.length_map]
        refine ⟨_, rfl, b, _, rfl, .inr (same_t e4 hH), _, rfl, by rw [hlm]; omega, by rw [hlm]; have := okH.len; omega, for_range (lo := 0) (n := ((hs.map V.int).length : Int).toNat) (fun k σ H5 => ∃ t z9, σ = [some (.ref a), some (.ref b), some (.ref c), some (.int 1), some (.int st), some (.ref l), some (.int (0 + (0 : Nat))), some (.int t), z8, z9] ∧ Same H H5 ∧ H5 l = some (.lst (ns.map V.int)) ∧ t1 ≤ t ∧
            (opn hs t = true ∨ (t = t1 + (k : Int) ∧ ∀ j : Nat, j < k → opn hs (t1 + (j : Int)) = false)))
          ⟨t1, x9, rfl, e4, hl5, Int.le_refl _, .inr ⟨by omega, fun j hj => absurd hj (Nat.not_lt_zero _)⟩⟩ (fun k σ H5 hk5 p => ?_) (fun σ H5 p => ?_)⟩
        · obtain ⟨t, z9, rfl, e5, hl6, ht, ho⟩ := p
          refine ⟨_, rfl, _, rfl, b, hs, t, rfl, same_t e5 hH, okH.pos, opn hs t, rfl, ?_⟩
          cases hop : opn hs t with
          | true => exact iteF ⟨t, _, rfl, e5, hl6, ht, .inl hop⟩
          | false =>
            rcases ho with z | ⟨z1, z2⟩
            · rw [hop] at z; cases z
            · refine iteT ⟨_, rfl, _, _, rfl, rfl, _, _, rfl, e5, hl6, by omega, .inr ⟨by rw [z1]; omega, fun j hj => ?_⟩⟩
              rcases Nat.lt_succ_iff_lt_or_eq.mp hj with w | w
              · exact z2 j w
              · rw [w, ← z1]; exact hop
        · obtain ⟨t, z9, rfl, e5, hl6, ht, ho⟩ := p
          have hop : opn hs t = true := by
            rcases ho with z | ⟨_, z2⟩
            · exact z
            · obtain ⟨j, hj, hj2⟩ := open_soon okH t1
              rw [z2 j (by rw [hlm]; omega)] at hj2
              cases hj2
          refine ⟨_, rfl, .inl ⟨rfl, _, SqL.of hl6⟩, _, rfl, l, _, _, rfl, rfl, hl6, by rw [List.length_map]; exact Nat.lt_of_le_of_lt hlen (by decide), ?_⟩
          refine ⟨_, _, _, _, rfl, same_mut e5 hnl, .inr ⟨rfl, t, ⟨by omega, hop, fun p hp h1 => ?_⟩, ?_⟩⟩
          · obtain ⟨k, hk3, ek⟩ := List.mem_iff_getElem.mp hp
            have hk4 := hk k (by rw [List.length_map, hl]; exact hk3)
            rw [List.getD_eq_getElem?_getD, List.getElem?_eq_getElem hk3] at hk4
            rw [show (some L[k]).getD (0, 0) = p from ek] at hk4
            have := hk4 h1
            omega
          · rw [upd_same, List.map_append]; rfl
    · obtain ⟨x6, x7, x8, x9, rfl, e, p⟩ := p
      rcases p with ⟨z, _⟩ | ⟨_, t, hn, hl1⟩
      · cases z
      refine ⟨_, rfl, _, rfl, c, _, rfl, .inl (SqL.of (e _ _ hc)), _, rfl, l, _, rfl, SqL.of hl1, fun p hp => ?_⟩
      have e1 : Same H (upd H' p (.lst [.int t])) := e.trans (same_new hp)
      rw [cut_ints, List.length_map, cut_from _ _ (by rw [List.length_append]; omega), List.drop_left]
      exact q p t _ e1 (e.free hp) upd_same hn
end
end Gr

set_option maxHeartbeats 4000000
namespace Gr
open PySem PySem.Spec PyProof.Rows L2
open StX (pa_star)
section
variable {P : Program} {w : World} {K : PySem.W.Frag} {mg : Str → Option Value} {base : Heap} {f : Addr} {fd : FuncData}
theorem sc_lawsomelimits : FnScope ["_law_well_here", "_law_top", "_law_width", "_law_number", "_law_turn"] ["_law_well_here", "_law_top", "_law_width"] (defScope s_lawsomelimits) := ⟨rfl, rfl, rfl, by decide +kernel, rfl, by decide +kernel, by decide +kernel⟩
theorem ok_lawsomelimits (F : FnP K "_law_some_limits" s_lawsomelimits f fd) (T : Txt mg) (C_lawone : Cal P w K mg base "_law_one" s_lawone 2 ["_law_well_here", "_law_some"] (pr_lawone)) (C_lawpick : Cal P w K mg base "_law_pick" s_lawpick 1 ["_law_well_here", "_law_top"] (pr_lawpick)) : FnG P w K mg base 3 f fd ["_law_well_here", "_law_top", "_law_width"] (pr_lawsomelimits K) := by
  refine fnG_of F sc_lawsomelimits (fun vs H Q h => ?_) (fun cdv A outer s H vs Q hr h => ?_)
  · obtain ⟨p, top, wd, rfl, _⟩ := h; rfl
  · obtain ⟨p, top, wd, rfl, hw, t0, t1, w0, w1, q⟩ := h
    refine ⟨_, (pss_cons (ps_set (i := 3) sc_lawsomelimits.nd rfl (Or.inl rfl) (pe_go C_lawone (hr.mono (by decide)) rfl (pa_cons (pv 0) (pa_cons (pe_lst (pa_cons pe_int (pa_cons pe_int (pa_cons pe_int (pa_cons pe_int (pa_cons pe_int (pa_cons pe_int (pa_cons pe_int (pa_cons pe_int (pa_cons pe_int pa_nil)))))))))) pa_nil)))) (pss_one (ps_ret (pe_callTy call_tuple_of (by rfl) T.tuple (by decide +kernel) (pa_cons (pe_lc (own := [("_law_turn", 4)]) (by rfl) sc_lawsomelimits.nd (pi_range1 rfl T.range (pa_cons (pv 3) pa_nil)) (blkOk_by (own := [("_law_turn", 4)]) (N := ["_law_well_here", "_law_top", "_law_width", "_law_number", "_law_turn"]) (sc := defScope s_lawsomelimits) (by decide +kernel)) (fun _ _ _ _ _ => (pg_name (i := 4) sc_lawsomelimits.nd rfl (Or.inl rfl))) (fun _ _ _ _ _ => pts_nil) (fun _ _ _ _ _ => (pe_tup (pa_cons (pe_op op_add pe_int (pe_go C_lawpick (hr.mono (by decide)) rfl (pa_cons (pv 0) (pa_cons (pv 1) pa_nil)))) (pa_cons (pe_op op_add pe_int (pe_go C_lawpick (hr.mono (by decide)) rfl (pa_cons (pv 0) (pa_cons (pv 2) pa_nil)))) pa_nil))))) pa_nil))))), ?_⟩
    refine ⟨_, rfl, by show 9 ≤ sizeLine; decide, fun u hu => ⟨p, u, _, rfl, hw.same (same_new hu), hw.ne_new hu, upd_same, by show 0 < 9; decide, by show 9 < 1000; decide, fun v H1 hv e1 hw1 => ?_⟩⟩
    have hv' : ∃ n : Nat, v = .int (n : Int) ∧ n ≤ 4 := by
      simp only [List.mem_cons, List.not_mem_nil, or_false] at hv
      rcases hv with rfl | rfl | rfl | rfl | rfl | rfl | rfl | rfl | rfl
      · exact ⟨1, rfl, by decide⟩
      · exact ⟨1, rfl, by decide⟩
      · exact ⟨1, rfl, by decide⟩
      · exact ⟨2, rfl, by decide⟩
      · exact ⟨2, rfl, by decide⟩
      · exact ⟨2, rfl, by decide⟩
      · exact ⟨3, rfl, by decide⟩
      · exact ⟨4, rfl, by decide⟩
      · exact ⟨0, rfl, by decide⟩
    obtain ⟨n, rfl, hn⟩ := hv'
    have e2 : But p H H1 := (But.of (same_new hu)).trans e1
    refine ⟨_, rfl, n, rfl, by omega, by omega, fun D hD => ?_⟩
    have nD := hw1.ne_new hD
    refine lc_range (lo := 0) (n := ((n : Int)).toNat) (fun i H' => But p H1 H' ∧ Well H' p ∧ ∃ (rs : List Addr) (L : List (Int × Int)), H' D = some (.lst (rs.map V.ref)) ∧ L.length = i ∧ Paired (fun r q => SqT K H' r [.int q.1, .int q.2]) rs L ∧ ∀ q ∈ L, 1 ≤ q.1 ∧ q.1 ≤ 6 ∧ 1 ≤ q.2 ∧ q.2 ≤ 12)
      ⟨But.of (same_new hD), hw1.upd nD, [], [], upd_same, rfl, .nil, fun _ h => nomatch h⟩ (fun i H' hi z => ?_) (fun H' z => ?_)
    · obtain ⟨e3, hw3, rs, L, hD3, hL, hP, hok⟩ := z
      refine ⟨rfl, _, rfl, _, rfl, p, top, rfl, hw3, by omega, by omega, fun r1 H4 a0 a1 e4 hw4 => ⟨_, _, rfl, rfl, ?_⟩⟩
      refine ⟨_, rfl, _, rfl, p, wd, rfl, hw4, by omega, by omega, fun r2 H5 b0 b1 e5 hw5 => ⟨_, _, rfl, rfl, ?_⟩⟩
      refine ⟨by show 2 ≤ sizeLine; decide, fun T hT => ⟨rs.map V.ref, ?_, ?_, ?_⟩⟩
      · rw [upd_ne (ne_of_none (e5 _ _ nD (e4 _ _ nD hD3)) hT)]
        exact e5 _ _ nD (e4 _ _ nD hD3)
      · have := Paired.length hP
        rw [List.length_map, this, hL]
        exact Nat.lt_of_lt_of_le hi (Nat.le_trans (show ((n : Int)).toNat ≤ 4 by omega) (by decide))
      · have hTD : upd H5 T (.tup [.int (1 + r1), .int (1 + r2)]) D = some (.lst (rs.map V.ref)) := by
          rw [upd_ne (ne_of_none (e5 _ _ nD (e4 _ _ nD hD3)) hT)]
          exact e5 _ _ nD (e4 _ _ nD hD3)
        refine ⟨((((e3.trans e4).trans e5).trans (But.of (same_new hT))).new hD), (hw5.same (same_new hT)).upd nD, rs ++ [T], L ++ [(1 + r1, 1 + r2)], ?_, ?_, paired_snoc (Paired.mapP hP fun a b z => ?_) ?_, fun q hq => ?_⟩
        · rw [upd_same, List.map_append]; rfl
        · rw [List.length_append, hL]; rfl
        · exact sqt_upd hTD (same_t (same_new hT) (but_t e5 hw4 (but_t e4 hw3 z)))
        · exact sqt_upd hTD (SqT.of upd_same)
        · rcases List.mem_append.mp hq with z | z
          · exact hok q z
          · rw [List.mem_singleton.mp z]
            exact ⟨by show 1 ≤ 1 + r1; omega, by show 1 + r1 ≤ 6; omega, by show 1 ≤ 1 + r2; omega, by show 1 + r2 ≤ 12; omega⟩
    · obtain ⟨e3, hw3, rs, L, hD3, hL, hP, hok⟩ := z
      refine ⟨D, _, rfl, .inl ⟨SqL.of hD3, fun l hl => ?_⟩⟩
      have e4 := same_new (o := .tup (rs.map V.ref)) hl
      exact q l L _ ((e2.trans e3).trans (But.of e4)) (hw3.same e4) ⟨rs, SqT.of upd_same, Paired.mapP hP fun _ _ z => same_t e4 z⟩ ⟨by omega, hok⟩
theorem sc_lawsomehours : FnScope ["_law_well_here", "_law_top", "_law_row", "_law_turn"] ["_law_well_here", "_law_top"] (defScope s_lawsomehours) := ⟨rfl, rfl, rfl, by decide +kernel, rfl, by decide +kernel, by decide +kernel⟩
theorem ok_lawsomehours (F : FnP K "_law_some_hours" s_lawsomehours f fd) (T : Txt mg) (C_lawone : Cal P w K mg base "_law_one" s_lawone 2 ["_law_well_here", "_law_some"] (pr_lawone)) (C_lawpick : Cal P w K mg base "_law_pick" s_lawpick 1 ["_law_well_here", "_law_top"] (pr_lawpick)) : FnG P w K mg base 3 f fd ["_law_well_here", "_law_top"] (pr_lawsomehours) := by
  refine fnG_of F sc_lawsomehours (fun vs H Q h => ?_) (fun cdv A outer s H vs Q hr h => ?_)
  · obtain ⟨p, top, rfl, _⟩ := h; rfl
  · obtain ⟨p, top, rfl, hw, t0, t1, q⟩ := h
    refine ⟨_, (pss_cons (ps_setLc (i := 2) (own := [("_law_turn", 3)]) (by rfl) sc_lawsomehours.nd rfl rfl (sw_true rfl rfl rfl (by decide +kernel)) (pi_range1 rfl T.range (pa_cons (pe_op op_add pe_int (pe_go C_lawpick (hr.mono (by decide)) rfl (pa_cons (pv 0) (pa_cons (pv 1) pa_nil)))) pa_nil)) (blkOk_by (own := [("_law_turn", 3)]) (N := ["_law_well_here", "_law_top", "_law_row", "_law_turn"]) (sc := defScope s_lawsomehours) (by decide +kernel)) (fun _ _ _ _ _ => (pg_name (i := 3) sc_lawsomehours.nd rfl (Or.inl rfl))) (fun _ _ _ _ _ => pts_nil) (fun _ _ _ _ _ => (pe_go C_lawone (hr.mono (by decide)) rfl (pa_cons (pv 0) (pa_cons (pe_lst (pa_cons pe_int (pa_cons pe_int (pa_cons pe_int pa_nil)))) pa_nil))))) (pss_cons (ps_asg pe_int (pg_sub (pv 2) (pe_go C_lawpick (hr.mono (by decide)) rfl (pa_cons (pv 0) (pa_cons (pe_callB call_len_seq (by rfl) T.len (by decide +kernel) (pa_cons (pv 2) pa_nil)) pa_nil))) set_list)) (pss_one (ps_ret (pe_callTy cr_tupF (by rfl) T.tuple (by decide +kernel) (pa_cons (pv 2) pa_nil)))))), ?_⟩
    refine ⟨_, rfl, _, rfl, p, top, rfl, hw, by omega, by omega, fun r H1 a0 a1 e1 hw1 => ⟨_, _, rfl, rfl, _, rfl, by omega, by omega, fun D hD => ?_⟩⟩
    have nD := hw1.ne_new hD
    refine lc_range (lo := 0) (n := (1 + r).toNat) (fun i H' => But p H1 H' ∧ Well H' p ∧ ∃ ns : List Int, H' D = some (.lst (ns.map V.int)) ∧ ns.length = i ∧ ∀ n ∈ ns, n = 0 ∨ n = 1)
      ⟨But.of (same_new hD), hw1.upd nD, [], upd_same, rfl, fun _ h => nomatch h⟩ (fun i H' hi z => ?_) (fun H' z => ?_)
    · obtain ⟨e3, hw3, ns, hD3, hL, hok⟩ := z
      refine ⟨rfl, _, rfl, by show 3 ≤ sizeLine; decide, fun u hu => ⟨p, u, _, rfl, hw3.same (same_new hu), hw3.ne_new hu, upd_same, by show 0 < 3; decide, by show 3 < 1000; decide, fun v H4 hv e4 hw4 => ?_⟩⟩
      have hv' : ∃ n : Int, v = .int n ∧ (n = 0 ∨ n = 1) := by
        simp only [List.mem_cons, List.not_mem_nil, or_false] at hv
        rcases hv with rfl | rfl | rfl
        · exact ⟨1, rfl, .inr rfl⟩
        · exact ⟨1, rfl, .inr rfl⟩
        · exact ⟨0, rfl, .inl rfl⟩
      obtain ⟨n, rfl, hn⟩ := hv'
      refine ⟨ns.map V.int, e4 _ _ nD (same_new hu _ _ hD3), ?_, (((e3.trans (But.of (same_new hu))).trans e4).new hD), hw4.upd nD, ns ++ [n], ?_, ?_, fun m hm => ?_⟩
      · rw [List.length_map, hL]
        exact Nat.lt_of_lt_of_le hi (Nat.le_trans (show (1 + r).toNat ≤ 12 by omega) (by decide))
      · rw [upd_same, List.map_append]; rfl
      · rw [List.length_append, hL]; rfl
      · rcases List.mem_append.mp hm with z | z
        · exact hok m z
        · rw [List.mem_singleton.mp z]; exact hn
    · obtain ⟨e3, hw3, ns, hD3, hL, hok⟩ := z
      refine ⟨_, rfl, _, rfl, _, rfl, D, _, rfl, .inl (SqL.of hD3), p, _, rfl, hw3, by rw [List.length_map]; omega, by rw [List.length_map]; omega, fun r2 H4 b0 b1 e4 hw4 => ?_⟩
      rw [List.length_map] at b1
      have hr2 : r2 = ((r2.toNat : Nat) : Int) := (Int.toNat_of_nonneg b0).symm
      have hj : r2.toNat < ns.length := by omega
      refine ⟨D, _, _, _, rfl, rfl, e4 _ _ nD hD3, by rw [hr2]; exact Evl.ixN_nat (by rw [List.length_map]; exact hj), _, rfl, D, _, rfl, SqL.of upd_same, fun l o hl ho => ?_⟩
      have hset : (ns.map V.int).set r2.toNat (.int 1) = (ns.set r2.toNat 1).map V.int := (List.map_set ..).symm
      rw [hset] at hl ⊢
      refine q l (ns.set r2.toNat 1) _ (e1.trans (((e3.trans e4).new hD).trans (But.of (same_new hl)))) ((hw4.upd nD).same (same_new hl)) ⟨o, upd_same, ho⟩ ⟨by rw [List.length_set]; omega, fun h hh => ?_, ?_⟩
      · rcases List.mem_or_eq_of_mem_set hh with z | z
        · exact hok h z
        · exact .inr z
      · exact List.mem_iff_getElem.mpr ⟨r2.toNat, by rw [List.length_set]; exact hj, List.getElem_set_self _⟩
end
end Gr

set_option maxHeartbeats 4000000
namespace Gr
open PySem PySem.Spec PyProof.Rows L2
open StX (pa_star)
section
variable {P : Program} {w : World} {K : PySem.W.Frag} {mg : Str → Option Value} {base : Heap} {f : Addr} {fd : FuncData}
theorem sc_lawsomerow : FnScope ["_law_well_here", "_law_pairs", "_law_clock", "_law_number", "_law_top", "_law_line", "_law_turn", "_law_ahead"] ["_law_well_here", "_law_pairs", "_law_clock", "_law_number", "_law_top"] (defScope s_lawsomerow) := ⟨rfl, rfl, rfl, by decide +kernel, rfl, by decide +kernel, by decide +kernel⟩
theorem ok_lawsomerow (F : FnP K "_law_some_row" s_lawsomerow f fd) (T : Txt mg) (C_lawone : Cal P w K mg base "_law_one" s_lawone 2 ["_law_well_here", "_law_some"] (pr_lawone)) (C_lawsoonest : Cal P w K mg base "_law_soonest" s_lawsoonest 2 ["_law_pairs", "_law_clock", "_law_row", "_law_number", "_law_start"] (pr_lawsoonest K)) (C_lawpick : Cal P w K mg base "_law_pick" s_lawpick 1 ["_law_well_here", "_law_top"] (pr_lawpick)) : FnG P w K mg base 3 f fd ["_law_well_here", "_law_pairs", "_law_clock", "_law_number", "_law_top"] (pr_lawsomerow K) := by
  refine fnG_of F sc_lawsomerow (fun vs H Q h => ?_) (fun cdv A outer s H vs Q hr h => ?_)
  · obtain ⟨p, a, b, L, hs, n, rfl, _⟩ := h; rfl
  · obtain ⟨p, a, b, L, hs, n, rfl, hw, hT, okL, hH, okH, n1, n50, q⟩ := h
    refine ⟨_, (pss_cons (ps_set (i := 5) sc_lawsomerow.nd rfl (Or.inl rfl) (pe_lst pa_nil)) (pss_cons (ps_for PassesOwn.never rfl (pi_range1 rfl T.range (pa_cons (pv 3) pa_nil)) (pg_name (i := 6) sc_lawsomerow.nd rfl (Or.inl rfl)) (pss_cons (ps_set (i := 7) sc_lawsomerow.nd rfl (Or.inl rfl) (pe_op op_add (pe_callB (cr_max rfl) (by rfl) T.max (by decide +kernel) (pa_cons (pe_op op_cat (pe_lst (pa_cons pe_int pa_nil)) (pe_slice sl_list (pv 5) (po_some (pe_un un_neg pe_int)) po_none)) pa_nil)) (pe_go C_lawone (hr.mono (by decide)) rfl (pa_cons (pv 0) (pa_cons (pe_lst (pa_cons pe_int (pa_cons pe_int (pa_cons pe_int (pa_cons pe_int (pa_cons (pe_go C_lawpick (hr.mono (by decide)) rfl (pa_cons (pv 0) (pa_cons (pe_op op_add (pv 4) pe_int) pa_nil))) pa_nil)))))) pa_nil))))) (pss_one (ps_set (i := 5) sc_lawsomerow.nd rfl (Or.inl rfl) (pe_op op_cat (pv 5) (pe_go C_lawsoonest (hr.mono (by decide)) rfl (pa_cons (pv 1) (pa_cons (pv 2) (pa_cons (pv 5) (pa_cons pe_int (pa_cons (pv 7) pa_nil))))))))))) (pss_one (ps_ret (pe_callTy call_tuple_of (by rfl) T.tuple (by decide +kernel) (pa_cons (pv 5) pa_nil)))))), ?_⟩
    refine ⟨by show 0 ≤ sizeLine; decide, fun l0 hl0 => ?_⟩
    refine ⟨_, rfl, n, rfl, by omega, by omega, for_range (lo := 0) (n := ((n : Nat) : Int).toNat) (fun i σ H' => ∃ l ns x6 x7, σ = [some (.ref p), some (.ref a), some (.ref b), some (.int (n : Int)), some (.int 9), some (.ref l), x6, x7] ∧ But p H H' ∧ Well H' p ∧ l ≠ p ∧
        H' l = some (.lst (ns.map V.int)) ∧ ns.length = i ∧ AsksOk ns ∧ firstBad L hs ns = none)
      ⟨l0, [], none, none, rfl, But.of (same_new hl0), hw.same (same_new hl0), hw.ne_new hl0, upd_same, rfl, ⟨by decide, (fun _ h => nomatch h), .nil⟩, rfl⟩ (fun i σ H' hi z => ?_) (fun σ H' z => ?_)⟩
    · obtain ⟨l, ns, x6, x7, rfl, e, hw1, hlp, hl1, hlen, okN, hfb⟩ := z
      refine ⟨by show 1 ≤ sizeLine; decide, fun u hu => ?_⟩
      have e1 : Same H' (upd H' u (.lst [.int 0])) := same_new hu
      have hu2 : upd H' u (.lst [.int 0]) u = some (.lst [.int 0]) := upd_same
      generalize upd H' u (.lst [.int 0]) = H1 at e1 hu2
      refine ⟨_, rfl, _, rfl, _, rfl, l, _, rfl, SqL.of (e1 _ _ hl1), fun u2 hu3 => ?_⟩
      rw [cut_ints]
      generalize hlast : cutI ns (some (-1)) none = last
      have e2 : Same H' (upd H1 u2 (.lst (last.map V.int))) := e1.trans (same_new hu3)
      have hu4 : upd H1 u2 (.lst (last.map V.int)) u = some (.lst [.int 0]) := same_new hu3 _ _ hu2
      have hu5 : upd H1 u2 (.lst (last.map V.int)) u2 = some (.lst (last.map V.int)) := upd_same
      generalize upd H1 u2 (.lst (last.map V.int)) = H2 at e2 hu4 hu5
      rw [cut_last] at hlast
      have hll : last.length ≤ 1 := by
        rw [← hlast, List.length_drop]; omega
      refine ⟨u, u2, _, _, rfl, rfl, hu4, hu5, by rw [List.length_map]; exact Nat.le_trans (Nat.add_le_add_left hll 1) (by decide), fun u3 hu6 => ?_⟩
      have e3 : Same H' (upd H2 u3 (.lst ([.int 0] ++ last.map V.int))) := e2.trans (same_new hu6)
      have hu7 : upd H2 u3 (.lst ([.int 0] ++ last.map V.int)) u3 = some (.lst (((0 : Int) :: last).map V.int)) := upd_same
      generalize upd H2 u3 (.lst ([.int 0] ++ last.map V.int)) = H3 at e3 hu7
      refine ⟨u3, (0 : Int) :: last, rfl, SqL.of hu7, Nat.succ_pos _, fun m _ hm => ?_⟩
      have hm0 : 0 ≤ m := hm _ List.mem_cons_self
      have hml : ∀ x ∈ ns, x ≤ m := last_le okN.up fun y hy => hm y (List.mem_cons_of_mem _ (by rw [← hlast]; exact hy))
      refine ⟨_, rfl, _, rfl, _, rfl, _, _, rfl, rfl, p, _, rfl, hw1.same e3, by decide, by decide, fun r H4 r0 r1 e4 hw4 => ?_⟩
      refine ⟨by show 5 ≤ sizeLine; decide, fun u5 hu8 => ⟨p, u5, _, rfl, hw4.same (same_new hu8), hw4.ne_new hu8, upd_same, by show 0 < 5; decide, by show 5 < 1000; decide, fun v H5 hv e5 hw5 => ?_⟩⟩
      have hv' : ∃ k : Int, v = .int k ∧ 0 ≤ k := by
        simp only [List.mem_cons, List.not_mem_nil, or_false] at hv
        rcases hv with rfl | rfl | rfl | rfl | rfl
        · exact ⟨0, rfl, by decide⟩
        · exact ⟨0, rfl, by decide⟩
        · exact ⟨0, rfl, by decide⟩
        · exact ⟨1, rfl, by decide⟩
        · exact ⟨r, rfl, r0⟩
      obtain ⟨k, rfl, hk⟩ := hv'
      have eB : But p H' H5 := (((But.of e3).trans e4).trans (But.of (same_new hu8))).trans e5
      have eH : But p H H5 := e.trans eB
      have hl5 := eB _ _ hlp hl1
      refine ⟨_, _, rfl, rfl, ?_⟩
      refine ⟨_, rfl, _, rfl, _, rfl, _, rfl, _, rfl, a, b, l, L, hs, ns, m + k, rfl, hT.but eH hw, okL, but_t eH hw hH, okH, hl5, okN.len, fun pp t H6 e6 hnp hpp nx => ?_⟩
      have hl6 := e6 _ _ hl5
      have n99 : ns.length ≤ 99 := by omega
      refine ⟨l, pp, _, _, rfl, rfl, hl6, hpp, ?_, fun l2 hl2 => ?_⟩
      · rw [List.length_map]
        exact Nat.le_trans (Nat.add_le_add_right n99 1) (by decide)
      have ht := nx.st
      refine ⟨l2, ns ++ [t], _, _, rfl, (eH.trans (But.of e6)).trans (But.of (same_new hl2)), (hw5.same e6).same (same_new hl2), (hw5.same e6).ne_new hl2, ?_, ?_, asks_next okN n99 (by omega) (fun x hx => by have := hml x hx; omega), fb_next okL hfb nx⟩
      · rw [upd_same, List.map_append]; rfl
      · rw [List.length_append, hlen]; rfl
    · obtain ⟨l, ns, x6, x7, rfl, e, hw1, hlp, hl1, hlen, okN, hfb⟩ := z
      refine ⟨_, rfl, l, _, rfl, .inl ⟨SqL.of hl1, fun l2 hl2 => ?_⟩⟩
      exact q l2 ns _ (e.trans (But.of (same_new hl2))) (hw1.same (same_new hl2)) (SqT.of upd_same) (by rw [hlen]; exact Int.toNat_natCast n) okN hfb
end
end Gr

set_option maxHeartbeats 4000000
namespace Gr
open PySem PySem.Spec PyProof.Rows L2
open StX (pa_star)
section
variable {P : Program} {w : World} {K : PySem.W.Frag} {mg : Str → Option Value} {base : Heap} {f : Addr} {fd : FuncData}
theorem list_int {a b c d : Int} {i : Nat} {x : V} (h : [V.int a, V.int b, V.int c, V.int d][i]? = some x) : x = .int a ∨ x = .int b ∨ x = .int c ∨ x = .int d := by
  match i, h with
  | 0, h => exact .inl (Option.some.inj h).symm
  | 1, h => exact .inr (.inl (Option.some.inj h).symm)
  | 2, h => exact .inr (.inr (.inl (Option.some.inj h).symm))
  | 3, h => exact .inr (.inr (.inr (Option.some.inj h).symm))
  | _ + 4, h => cases h
theorem sc_lawrowright : FnScope ["_law_pairs", "_law_clock", "_law_row", "_law_rule", "_law_due", "_law_told", "_law_end", "_law_cut", "_law_right", "_law_last", "_law_time", "_law_later"] ["_law_pairs", "_law_clock", "_law_row"] (defScope s_lawrowright) := ⟨rfl, rfl, rfl, by decide +kernel, rfl, by decide +kernel, by decide +kernel⟩
theorem ok_lawrowright (F : FnP K "_law_row_right" s_lawrowright f fd) (T : Txt mg) (C_lawcounted : Cal P w K mg base "_law_counted" s_lawcounted 1 ["_law_pairs", "_law_clock", "_law_row"] (pr_lawcounted K)) (C_ispolite : Cal P w K mg base "is_polite" s_ispolite 8 ["rules", "asks"] (pr_ispolite K)) (C_firstwrong : Cal P w K mg base "first_wrong" s_firstwrong 8 ["rules", "asks"] (pr_firstwrong K)) (C_mayask : Cal P w K mg base "may_ask" s_mayask 8 ["rules", "asks", "moment"] (pr_mayask K)) : FnG P w K mg base 9 f fd ["_law_pairs", "_law_clock", "_law_row"] (pr_lawrowright K) := by
  refine fnG_of F sc_lawrowright (fun vs H Q h => ?_) (fun cdv A outer s H vs Q hr h => ?_)
  · obtain ⟨a, b, c, L, hs, ns, rfl, _⟩ := h; rfl
  · obtain ⟨a, b, c, L, hs, ns, rfl, hP0, okL, hH0, okH, hN0, okN, n90, q0⟩ := h
    refine ⟨_, (pss_cons (ps_par (i := 3) (j := 4) (by rfl) sc_lawrowright.nd rfl rfl (by decide) rfl rfl (pa_cons (pe_tup (pa_cons (pv 0) (pa_cons (pv 1) pa_nil))) (pa_cons (pe_go C_lawcounted (hr.mono (by decide)) rfl (pa_cons (pv 0) (pa_cons (pv 1) (pa_cons (pv 2) pa_nil)))) pa_nil)) (by rfl)) (pss_cons (ps_set (i := 5) sc_lawrowright.nd rfl (Or.inl rfl) (pe_lst (pa_cons (pe_go C_ispolite (hr.mono (by decide)) rfl (pa_cons (pv 3) (pa_cons (pv 2) pa_nil))) (pa_cons (pe_go C_firstwrong (hr.mono (by decide)) rfl (pa_cons (pv 3) (pa_cons (pv 2) pa_nil))) (pa_cons (pe_goK (ks := ["asks", "rules"]) (g := swp) (gV := swp) C_ispolite (hr.mono (by decide)) rfl (pk_cons (pv 2) (pk_cons (pe_tup (pa_cons (pe_revT (pv 0)) (pa_cons (pv 1) pa_nil))) pk_nil)) (fun _ _ F _ hl => kw_ispolite F hl) (fun _ _ r => swp_vals r) (fun vs h => by rw [swp_len] at h; exact h)) pa_nil))))) (pss_cons (ps_if (pt_cmpR op_ne (pe_callB (cr_repr hr.gd hr.rm.units) (by rfl) T.repr (by decide +kernel) (pa_cons (pv 5) pa_nil)) (pe_callB (cr_repr hr.gd hr.rm.units) (by rfl) T.repr (by decide +kernel) (pa_cons (pe_lst (pa_cons (pe_cmpR op_isN (pv 4) pe_non (nomark _)) (pa_cons (pv 4) (pa_cons (pe_cmpR op_isN (pv 4) pe_non (nomark _)) pa_nil)))) pa_nil)) (nomark _)) (pss_one (ps_ret pe_bl)) pss_nil) (pss_cons (ps_for PassesOwn.never rfl (pi_list (pe_lst (pa_cons (pe_op op_fdiv (pe_callB call_len_seq (by rfl) T.len (by decide +kernel) (pa_cons (pv 2) pa_nil)) pe_int) (pa_cons (pe_op op_sub (pe_callB call_len_seq (by rfl) T.len (by decide +kernel) (pa_cons (pv 2) pa_nil)) pe_int) pa_nil)))) (pg_name (i := 6) sc_lawrowright.nd rfl (Or.inl rfl)) (pss_cons (ps_set (i := 7) sc_lawrowright.nd rfl (Or.inl rfl) (pe_slice sl_tupA (pv 2) po_none (po_some (pe_callB (call_max2 rfl) (by rfl) T.max (by decide +kernel) (pa_cons (pv 6) (pa_cons pe_int pa_nil)))))) (pss_one (ps_if (pt_cmpR op_ne (pe_callB (cr_repr hr.gd hr.rm.units) (by rfl) T.repr (by decide +kernel) (pa_cons (pe_go C_firstwrong (hr.mono (by decide)) rfl (pa_cons (pv 3) (pa_cons (pv 7) pa_nil))) pa_nil)) (pe_callB (cr_repr hr.gd hr.rm.units) (by rfl) T.repr (by decide +kernel) (pa_cons (pe_ifExp (PW.pt (pw_or (pt_cmpR op_isN (pv 4) pe_non (nomark _)) (pw_or1 (pt_cmpR op_ge (pv 4) (pe_callB call_len_seq (by rfl) T.len (by decide +kernel) (pa_cons (pv 7) pa_nil)) (nomark _))))) pe_non (pv 4)) pa_nil)) (nomark _)) (pss_one (ps_ret pe_bl)) pss_nil)))) (Evl.pss_cut (ps_set (i := 8) sc_lawrowright.nd rfl (Or.inl rfl) (pe_ifExp (pt_cmpR op_isN (pv 4) pe_non (nomark _)) (pv 2) (pe_slice sl_tupA (pv 2) po_none (po_some (pv 4))))) (pss_cons (ps_set (i := 9) sc_lawrowright.nd rfl (Or.inl rfl) (pe_callB (cr_max rfl) (by rfl) T.max (by decide +kernel) (pa_cons (pe_op op_cat (pe_lst (pa_cons pe_int pa_nil)) (pe_callTy call_list_of (by rfl) T.list (by decide +kernel) (pa_cons (pe_slice sl_tupA (pv 8) (po_some (pe_un un_neg pe_int)) po_none) pa_nil))) pa_nil))) (pss_cons (ps_for PassesOwn.never rfl (pi_list (pe_lst (pa_cons (pv 9) (pa_cons (pe_op op_add (pv 9) pe_int) (pa_cons (pe_op op_add (pv 9) pe_int) (pa_cons (pe_op op_add (pv 9) pe_int) pa_nil)))))) (pg_name (i := 10) sc_lawrowright.nd rfl (Or.inl rfl)) (pss_one (ps_if (pt_cmpR op_ne (pe_callB (cr_repr hr.gd hr.rm.units) (by rfl) T.repr (by decide +kernel) (pa_cons (pe_go C_mayask (hr.mono (by decide)) rfl (pa_cons (pv 3) (pa_cons (pv 8) (pa_cons (pv 10) pa_nil)))) pa_nil)) (pe_callB (cr_repr hr.gd hr.rm.units) (by rfl) T.repr (by decide +kernel) (pa_cons (pe_cmpR op_isN (pe_go C_lawcounted (hr.mono (by decide)) rfl (pa_cons (pv 0) (pa_cons (pv 1) (pa_cons (pe_op op_catA (pv 8) (pe_tup (pa_cons (pv 10) pa_nil))) pa_nil)))) pe_non (nomark _)) pa_nil)) (nomark _)) (pss_one (ps_ret pe_bl)) pss_nil))) (pss_cons (ps_set (i := 11) sc_lawrowright.nd rfl (Or.inl rfl) (pe_callTy call_tuple_of (by rfl) T.tuple (by decide +kernel) (pa_cons (pe_lc (own := [("_law_time", 10)]) (by rfl) sc_lawrowright.nd (pi_tup (pv 2)) (blkOk_by (own := [("_law_time", 10)]) (N := ["_law_pairs", "_law_clock", "_law_row", "_law_rule", "_law_due", "_law_told", "_law_end", "_law_cut", "_law_right", "_law_last", "_law_time", "_law_later"]) (sc := defScope s_lawrowright) (by decide +kernel)) (fun _ _ _ _ _ => (pg_name (i := 10) sc_lawrowright.nd rfl (Or.inl rfl))) (fun _ _ _ _ _ => pts_nil) (fun _ _ _ _ _ => (pe_op op_add (pv 10) (pe_op op_mul pe_int (pe_callB (call_lenK (K := K) rfl) (by rfl) T.len (by decide +kernel) (pa_cons (pv 1) pa_nil)))))) pa_nil))) (pss_one (ps_ret (pe_cmpR op_eq (pe_callB (cr_repr hr.gd hr.rm.units) (by rfl) T.repr (by decide +kernel) (pa_cons (pe_go C_firstwrong (hr.mono (by decide)) rfl (pa_cons (pe_tup (pa_cons (pv 0) (pa_cons (pe_op op_repA (pv 1) (pe_ifExp (pt_cmpR op_lt (pe_callB call_len_seq (by rfl) T.len (by decide +kernel) (pa_cons (pv 1) pa_nil)) pe_int (nomark _)) pe_int pe_int)) pa_nil))) (pa_cons (pv 11) pa_nil))) pa_nil)) (pe_callB (cr_repr hr.gd hr.rm.units) (by rfl) T.repr (by decide +kernel) (pa_cons (pv 4) pa_nil)) (nomark _)))))))))))), ?_⟩
    refine ⟨_, rfl, _, rfl, by show 2 ≤ sizeLine; decide, fun R hR => ?_⟩
    have q : ∀ H', Same (upd H R (.tup [.ref a, .ref b])) H' → Q (.bl true) H' := fun H' e => q0 H' ((same_new hR).trans e)
    have hP : LimT K (upd H R (.tup [.ref a, .ref b])) a L := hP0.same (same_new hR)
    have hH : IntT K (upd H R (.tup [.ref a, .ref b])) b hs := same_t (same_new hR) hH0
    have hN : IntT K (upd H R (.tup [.ref a, .ref b])) c ns := same_t (same_new hR) hN0
    have hRu : RulT K (upd H R (.tup [.ref a, .ref b])) R L hs := ⟨a, b, SqT.of upd_same, hP, hH⟩
    generalize upd H R (.tup [.ref a, .ref b]) = H0 at q hP hH hN hRu
    clear hP0 hH0 hN0 q0 hR
    have n1000 : ns.length ≤ 1000 := by omega
    have hfl : flatB (optV (firstBad L hs ns)) = true := fb_small n1000
    have hob := fun i (e : firstBad L hs ns = some i) => firstBad_lt e
    refine ⟨_, rfl, _, rfl, _, rfl, a, b, c, L, hs, ns, rfl, hP, okL, hH, okH, hN, okN, fun H1 e1 => ⟨_, _, rfl, ?_⟩⟩
    refine ⟨_, rfl, _, rfl, R, c, L, hs, ns, rfl, hRu.same e1, okL, okH, same_t e1 hN, okN, fun H2 e2 => ?_⟩
    have f2 := e1.trans e2
    refine ⟨_, rfl, _, rfl, R, c, L, hs, ns, rfl, hRu.same f2, okL, okH, same_t f2 hN, okN, fun H3 e3 => ?_⟩
    have f3 := f2.trans e3
    obtain ⟨rs, hS, hPr⟩ := id hP
    refine ⟨_, rfl, _, rfl, a, _, rfl, same_t f3 hS, fun p hp => ⟨_, rfl, by show 2 ≤ sizeLine; decide, fun R2 hR2 => ?_⟩⟩
    have f4 : Same H0 (upd H3 p (.tup (rs.map V.ref).reverse)) := f3.trans (same_new hp)
    have hp2 : upd H3 p (.tup (rs.map V.ref).reverse) p = some (.tup (rs.reverse.map V.ref)) := by rw [upd_same, List.map_reverse]
    generalize upd H3 p (.tup (rs.map V.ref).reverse) = H4 at f4 hp2 hR2
    have f5 : Same H0 (upd H4 R2 (.tup [.ref p, .ref b])) := f4.trans (same_new hR2)
    have hp3 : SqT K (upd H4 R2 (.tup [.ref p, .ref b])) p (rs.reverse.map V.ref) := SqT.of (same_new hR2 _ _ hp2)
    have hR3 : SqT K (upd H4 R2 (.tup [.ref p, .ref b])) R2 [.ref p, .ref b] := SqT.of upd_same
    generalize upd H4 R2 (.tup [.ref p, .ref b]) = H5 at f5 hp3 hR3
    refine ⟨R2, c, L.reverse, hs, ns, rfl, ⟨p, b, hR3, ⟨rs.reverse, hp3, paired_rev (Paired.mapP hPr fun _ _ z => same_t f5 z)⟩, same_t f5 hH⟩, lim_rev okL, okH, same_t f5 hN, okN, fun H6 e6 => ?_⟩
    rw [fb_rev]
    have f6 := f5.trans e6
    refine ⟨by show 3 ≤ sizeLine; decide, fun T1 hT1 => ?_⟩
    have f7 : Same H0 (upd H6 T1 (.lst [.bl (firstBad L hs ns).isNone, optV (firstBad L hs ns), .bl (firstBad L hs ns).isNone])) := f6.trans (same_new hT1)
    have hT2 : upd H6 T1 (.lst [.bl (firstBad L hs ns).isNone, optV (firstBad L hs ns), .bl (firstBad L hs ns).isNone]) T1 = some (.lst [.bl (firstBad L hs ns).isNone, optV (firstBad L hs ns), .bl (firstBad L hs ns).isNone]) := upd_same
    generalize upd H6 T1 (.lst [.bl (firstBad L hs ns).isNone, optV (firstBad L hs ns), .bl (firstBad L hs ns).isNone]) = H7 at f7 hT2
    have hall : ([.bl (firstBad L hs ns).isNone, optV (firstBad L hs ns), .bl (firstBad L hs ns).isNone] : List V).all flatB = true := by
      simp only [List.all_cons, List.all_nil, hfl]
      rfl
    refine ⟨_, rfl, _, rfl, .inr ⟨T1, _, rfl, SqL.of hT2, hall, by show 3 ≤ 1000; decide, ?_⟩⟩
    refine ⟨_, rfl, rfl, _, rfl, _, rfl, rfl, by show 3 ≤ sizeLine; decide, fun T2 hT3 => ?_⟩
    rw [optV_non]
    have f8 : Same H0 (upd H7 T2 (.lst [.bl (firstBad L hs ns).isNone, optV (firstBad L hs ns), .bl (firstBad L hs ns).isNone])) := f7.trans (same_new hT3)
    refine ⟨_, rfl, .inr ⟨T2, _, rfl, SqL.of upd_same, hall, by show 3 ≤ 1000; decide, rfl, _, rfl, ?_⟩⟩
    generalize upd H7 T2 (.lst [.bl (firstBad L hs ns).isNone, optV (firstBad L hs ns), .bl (firstBad L hs ns).isNone]) = H8 at f8
    rw [ne_same rfl]
    refine iteF ?_
    refine ⟨_, rfl, c, _, rfl, .inr (same_t f8 hN), _, _, rfl, rfl, ⟨by decide, by decide⟩, ?_⟩
    refine ⟨_, rfl, c, _, rfl, .inr (same_t f8 hN), _, _, rfl, rfl, by show 2 ≤ sizeLine; decide, fun T3 hT4 => ?_⟩
    rw [List.length_map]
    have f9 : Same H0 (upd H8 T3 (.lst [.int ((ns.length : Int) / 2), .int ((ns.length : Int) - 1)])) := f8.trans (same_new hT4)
    have hT5 : upd H8 T3 (.lst [.int ((ns.length : Int) / 2), .int ((ns.length : Int) - 1)]) T3 = some (.lst [.int ((ns.length : Int) / 2), .int ((ns.length : Int) - 1)]) := upd_same
    generalize upd H8 T3 (.lst [.int ((ns.length : Int) / 2), .int ((ns.length : Int) - 1)]) = H9 at f9 hT5
    refine ⟨T3, rfl, ⟨_, SqL.of hT5⟩, for_list (K := K) (a := T3) (xs := [.int ((ns.length : Int) / 2), .int ((ns.length : Int) - 1)]) (fun i σ H' => ∃ x6 x7, σ = [some (.ref a), some (.ref b), some (.ref c), some (.ref R), some (optV (firstBad L hs ns)), some (.ref T1), x6, x7, none, none, none, none] ∧ Same H9 H')
      ⟨none, none, rfl, Same.refl _⟩ (fun i σ H' _ z => by obtain ⟨_, _, _, e⟩ := z; exact SqL.of (e _ _ hT5)) (fun i x σ H' hx z => ?_) (fun σ H' z => ?_)⟩
    · obtain ⟨x6, x7, rfl, e⟩ := z
      have hz : ∃ z : Int, x = .int z := by
        match i, hx with
        | 0, hx => exact ⟨_, (Option.some.inj hx).symm⟩
        | 1, hx => exact ⟨_, (Option.some.inj hx).symm⟩
        | _ + 2, hx => cases hx
      obtain ⟨z, rfl⟩ := hz
      have g1 := f9.trans e
      refine ⟨_, rfl, _, rfl, _, _, rfl, _, rfl, sl_any (same_t g1 hN) fun u H10 e10 hu => ?_⟩
      rw [cut_ints] at hu
      have hk : ∃ k : Nat, (if (0 : Int) > z then 0 else z) = (k : Int) := by
        refine ⟨(if (0 : Int) > z then 0 else z).toNat, ?_⟩
        split <;> omega
      obtain ⟨k, hk⟩ := hk
      rw [hk, cut_upto] at hu
      have g2 := g1.trans e10
      have okC : AsksOk (ns.take k) := asks_sub okN (List.take_sublist _ _)
      have hlk : (ns.take k).length ≤ 1000 := by rw [List.length_take]; omega
      refine ⟨_, rfl, _, rfl, R, u, L, hs, ns.take k, rfl, hRu.same g2, okL, okH, hu, okC, fun H11 e11 => ?_⟩
      have g3 := g2.trans e11
      refine ⟨_, rfl, .inl ⟨fb_small hlk, ?_⟩⟩
      have fbt := fb_take (L := L) (hs := hs) (ns := ns) k
      have hu2 := same_t e11 hu
      have gend : Same H9 H11 := (e.trans e10).trans e11
      cases ho : firstBad L hs ns with
      | none =>
        rw [ho] at fbt
        have fbt' : firstBad L hs (ns.take k) = none := fbt
        refine ⟨_, rfl, rfl, _, rfl, iteT (iteT ⟨_, rfl, .inl ⟨rfl, rfl, _, rfl, ?_⟩⟩)⟩
        rw [fbt', show optV none = V.non from rfl, ne_same rfl]
        refine iteF ⟨_, _, rfl, gend⟩
      | some j =>
        rw [ho] at fbt hfl
        have fbt' : firstBad L hs (ns.take k) = if j < k then some j else none := fbt
        have hj := (hob j ho).1
        refine ⟨_, rfl, rfl, _, rfl, iteF ⟨_, rfl, _, rfl, u, _, rfl, .inr hu2, _, _, rfl, rfl, _, rfl, ?_⟩⟩
        rw [List.length_map, List.length_take]
        by_cases hjk : j < k
        · rw [decide_eq_false (show ¬ ((min k ns.length : Nat) : Int) ≤ (j : Int) by omega)]
          rw [if_pos hjk] at fbt'
          refine iteF ⟨_, rfl, _, rfl, .inl ⟨hfl, rfl, _, rfl, ?_⟩⟩
          rw [fbt', ne_same rfl]
          exact iteF ⟨_, _, rfl, gend⟩
        · rw [decide_eq_true (show ((min k ns.length : Nat) : Int) ≤ (j : Int) by omega)]
          rw [if_neg hjk] at fbt'
          refine iteT ⟨_, rfl, .inl ⟨rfl, rfl, _, rfl, ?_⟩⟩
          rw [fbt', show optV none = V.non from rfl, ne_same rfl]
          exact iteF ⟨_, _, rfl, gend⟩
    · obtain ⟨x6, x7, rfl, e⟩ := z
      have g1 := f9.trans e
      clear f9 hT5 f8 f7 hT2 f6 e6 f5 hp3 hR3 f4 hp2 f3 f2 e3 e2 e1 e
      refine ⟨fun σ' H10 => ∃ u rt, σ' = [some (.ref a), some (.ref b), some (.ref c), some (.ref R), some (optV (firstBad L hs ns)), some (.ref T1), x6, x7, some (.ref u), none, none, none] ∧ Same H0 H10 ∧ IntT K H10 u rt ∧ AsksOk rt ∧ rt.length ≤ 90 ∧ firstBad L hs rt = none, ?_, fun σ' H10 z => ?_⟩
      · cases ho : firstBad L hs ns with
        | none =>
          refine ⟨_, rfl, rfl, _, rfl, iteT ⟨_, rfl, c, ns, rfl, g1, same_t g1 hN, okN, n90, ho⟩⟩
        | some j =>
          refine ⟨_, rfl, rfl, _, rfl, iteF ⟨_, rfl, _, rfl, _, rfl, sl_any (same_t g1 hN) fun u H10 e10 hu => ?_⟩⟩
          have fbt := fb_take (L := L) (hs := hs) (ns := ns) j
          rw [ho] at fbt
          have fbt' : firstBad L hs (ns.take j) = if j < j then some j else none := fbt
          rw [if_neg (Nat.lt_irrefl _)] at fbt'
          rw [cut_ints, cut_upto] at hu
          exact ⟨u, ns.take j, rfl, g1.trans e10, hu, asks_sub okN (List.take_sublist _ _), by rw [List.length_take]; omega, fbt'⟩
      · obtain ⟨ur, rt, rfl, g2, hrt, okR, n90r, hfr⟩ := z
        refine ⟨by show 1 ≤ sizeLine; decide, fun v1 hv1 => ?_⟩
        have g3 : Same H0 (upd H10 v1 (.lst [.int 0])) := g2.trans (same_new hv1)
        have hrt3 : IntT K (upd H10 v1 (.lst [.int 0])) ur rt := same_t (same_new hv1) hrt
        have hv2 : upd H10 v1 (.lst [.int 0]) v1 = some (.lst [.int 0]) := upd_same
        generalize upd H10 v1 (.lst [.int 0]) = H11 at g3 hrt3 hv2
        refine ⟨_, rfl, _, rfl, _, rfl, ?_⟩
        unfold tNoPart
        refine sl_any hrt3 fun u2 H12 e12 hu2 => ?_
        rw [cut_ints, cut_last] at hu2
        refine ⟨u2, _, rfl, .inr hu2, fun l hl => ?_⟩
        have g4 : Same H11 (upd H12 l (.lst ((rt.drop (rt.length - 1)).map V.int))) := e12.trans (same_new hl)
        have hl2 : upd H12 l (.lst ((rt.drop (rt.length - 1)).map V.int)) l = some (.lst ((rt.drop (rt.length - 1)).map V.int)) := upd_same
        generalize upd H12 l (.lst ((rt.drop (rt.length - 1)).map V.int)) = H13 at g4 hl2
        refine ⟨v1, l, _, _, rfl, rfl, g4 _ _ hv2, hl2, ?_, fun l2 hl3 => ?_⟩
        · rw [List.length_map, List.length_drop]
          exact Nat.le_trans (show 1 + (rt.length - (rt.length - 1)) ≤ 2 by omega) (by decide)
        have g5 : Same H11 (upd H13 l2 (.lst ([.int 0] ++ (rt.drop (rt.length - 1)).map V.int))) := g4.trans (same_new hl3)
        have hl4 : upd H13 l2 (.lst ([.int 0] ++ (rt.drop (rt.length - 1)).map V.int)) l2 = some (.lst (((0 : Int) :: rt.drop (rt.length - 1)).map V.int)) := upd_same
        generalize upd H13 l2 (.lst ([.int 0] ++ (rt.drop (rt.length - 1)).map V.int)) = H14 at g5 hl4
        refine ⟨l2, (0 : Int) :: rt.drop (rt.length - 1), rfl, SqL.of hl4, Nat.succ_pos _, fun m _ hm => ?_⟩
        have hm0 : 0 ≤ m := hm _ List.mem_cons_self
        have hml : ∀ x ∈ rt, x ≤ m := last_le okR.up fun y hy => hm y (List.mem_cons_of_mem _ hy)
        have g6 := g3.trans g5
        have hr6 := same_t g5 hrt3
        refine ⟨_, rfl, _, rfl, _, _, rfl, rfl, _, rfl, _, _, rfl, rfl, _, rfl, _, _, rfl, rfl, by show 4 ≤ sizeLine; decide, fun T4 hT6 => ?_⟩
        have g7 : Same H0 (upd H14 T4 (.lst [.int m, .int (m + 1), .int (m + 2), .int (m + 7)])) := g6.trans (same_new hT6)
        have hr7 : IntT K (upd H14 T4 (.lst [.int m, .int (m + 1), .int (m + 2), .int (m + 7)])) ur rt := same_t (same_new hT6) hr6
        have hT7 : upd H14 T4 (.lst [.int m, .int (m + 1), .int (m + 2), .int (m + 7)]) T4 = some (.lst [.int m, .int (m + 1), .int (m + 2), .int (m + 7)]) := upd_same
        generalize upd H14 T4 (.lst [.int m, .int (m + 1), .int (m + 2), .int (m + 7)]) = H15 at g7 hr7 hT7
        refine ⟨T4, rfl, ⟨_, SqL.of hT7⟩, for_list (K := K) (a := T4) (xs := [.int m, .int (m + 1), .int (m + 2), .int (m + 7)]) (fun i σ H' => ∃ x10, σ = [some (.ref a), some (.ref b), some (.ref c), some (.ref R), some (optV (firstBad L hs ns)), some (.ref T1), x6, x7, some (.ref ur), some (.int m), x10, none] ∧ Same H15 H')
          ⟨none, rfl, Same.refl _⟩ (fun i σ H' _ z => by obtain ⟨_, _, e⟩ := z; exact SqL.of (e _ _ hT7)) (fun i x σ H' hx z => ?_) (fun σ H' z => ?_)⟩
        · obtain ⟨x10, rfl, e⟩ := z
          have hz : ∃ z : Int, x = .int z ∧ m ≤ z := by
            rcases list_int hx with rfl | rfl | rfl | rfl
            · exact ⟨_, rfl, by omega⟩
            · exact ⟨_, rfl, by omega⟩
            · exact ⟨_, rfl, by omega⟩
            · exact ⟨_, rfl, by omega⟩
          obtain ⟨z, rfl, hmz⟩ := hz
          have k1 := g7.trans e
          have hzl : ∀ x ∈ rt, x ≤ z := fun x hx => Int.le_trans (hml x hx) hmz
          refine ⟨_, rfl, _, rfl, _, rfl, R, ur, L, hs, rt, z, rfl, hRu.same k1, okL, okH, same_t e hr7, okR, hfr, by omega, hzl, fun H16 e16 => ?_⟩
          have k2 := k1.trans e16
          refine ⟨_, rfl, .inl ⟨rfl, ?_⟩⟩
          refine ⟨_, rfl, _, rfl, _, rfl, _, rfl, by show 1 ≤ sizeLine; decide, fun T5 hT8 => ?_⟩
          have k3 : Same H16 (upd H16 T5 (.tup [.int z])) := same_new hT8
          refine cat_any (same_t ((e.trans e16).trans k3) hr7) (SqT.of upd_same) (by rw [List.length_map]; exact Nat.le_trans (Nat.add_le_add_right n90r 1) (by decide)) fun u3 H17 e17 hu3 => ?_
          have k4 := (k2.trans k3).trans e17
          have hu4 : IntT K H17 u3 (rt ++ [z]) := by
            have : (rt ++ [z]).map V.int = rt.map V.int ++ [.int z] := by rw [List.map_append]; rfl
            rw [← this] at hu3
            exact hu3
          refine ⟨a, b, u3, L, hs, rt ++ [z], rfl, hP.same k4, okL, same_t k4 hH, okH, hu4, asks_next okR (by omega) (by omega) hzl, fun H18 e18 => ?_⟩
          refine ⟨rfl, _, rfl, .inl ⟨rfl, rfl, _, rfl, ?_⟩⟩
          rw [optV_non, ne_same rfl]
          exact iteF ⟨_, rfl, (((e.trans e16).trans k3).trans e17).trans e18⟩
        · obtain ⟨x10, rfl, e⟩ := z
          have k1 := g7.trans e
          refine ⟨_, rfl, c, rfl, ⟨_, same_t k1 hN⟩, fun D hD => ?_⟩
          refine lc_gen (n := ns.length) (by have := walk_tup (K := K) (a := c) (xs := ns.map V.int); rw [List.length_map] at this; exact this) (fun _ => true) (fun i => .int ((fun t => t + 5 * (hs.length : Int)) (ns.getD i 0))) hD n1000 (fun H' e' => same_t (k1.trans e') hN) (fun i x H16 H17 C N hi e16 hy w1 w2 => ?_) (fun H16 e16 hDl => ?_)
          · obtain ⟨rfl, hx'⟩ := hy
            obtain ⟨hi2, rfl⟩ := ints_at hx'
            refine ⟨rfl, _, rfl, _, rfl, b, _, rfl, .inr (same_t (k1.trans e16) hH), _, _, rfl, rfl, .inl ⟨by decide, by decide⟩, _, _, rfl, rfl, ?_⟩
            rw [List.length_map]
            exact w1 rfl _ (Same.refl _)
          · replace hDl : H16 D = some (.lst ((ns.map fun t => t + 5 * (hs.length : Int)).map V.int)) := hDl.trans (congrArg (fun l => some (HO.lst l)) (given_ints ns fun t => t + 5 * (hs.length : Int)))
            refine ⟨D, _, rfl, .inl ⟨SqL.of hDl, fun l5 hl5 => ?_⟩⟩
            have k2 := k1.trans e16
            have k3 : Same H0 (upd H16 l5 (.tup ((ns.map fun t => t + 5 * (hs.length : Int)).map V.int))) := k2.trans (same_new hl5)
            have hl6 : IntT K (upd H16 l5 (.tup ((ns.map fun t => t + 5 * (hs.length : Int)).map V.int))) l5 (ns.map fun t => t + 5 * (hs.length : Int)) := SqT.of upd_same
            generalize upd H16 l5 (.tup ((ns.map fun t => t + 5 * (hs.length : Int)).map V.int)) = H17 at k3 hl6
            have okS : AsksOk (ns.map fun t => t + 5 * (hs.length : Int)) := asks_shift okN (by omega)
            have h0 := okH.pos
            refine ⟨_, rfl, _, rfl, _, rfl, b, _, rfl, .inr (same_t k3 hH), _, _, rfl, rfl, _, rfl, ?_⟩
            rw [List.length_map]
            by_cases h7 : (hs.length : Int) < 7
            · rw [decide_eq_true h7]
              refine iteT (.inl ⟨b, 2, _, rfl, rfl, same_t k3 hH, ?_, by decide, by decide, by rw [List.length_map]; omega, fun p2 hp2 => ?_⟩)
              · intro z
                have := congrArg List.length z
                rw [List.length_map] at this
                have h1 : ([] : List V).length = 0 := rfl
                omega
              have e2 : (List.replicate (2 : Int).toNat (hs.map V.int)).flatten = (hs ++ hs).map V.int := by
                show hs.map V.int ++ (hs.map V.int ++ []) = _
                rw [List.append_nil, List.map_append]
              rw [e2] at *
              have k4 : Same H0 (upd H17 p2 (.tup ((hs ++ hs).map V.int))) := k3.trans (same_new hp2)
              have hl7 : IntT K (upd H17 p2 (.tup ((hs ++ hs).map V.int))) l5 (ns.map fun t => t + 5 * (hs.length : Int)) := same_t (same_new hp2) hl6
              have hp3 : IntT K (upd H17 p2 (.tup ((hs ++ hs).map V.int))) p2 (hs ++ hs) := SqT.of upd_same
              generalize upd H17 p2 (.tup ((hs ++ hs).map V.int)) = H18 at k4 hl7 hp3
              refine ⟨by show 2 ≤ sizeLine; decide, fun T6 hT9 => ?_⟩
              have k5 : Same H18 (upd H18 T6 (.tup [.ref a, .ref p2])) := same_new hT9
              refine ⟨_, rfl, T6, l5, L, hs ++ hs, _, rfl, ⟨a, p2, SqT.of upd_same, hP.same (k4.trans k5), same_t k5 hp3⟩, okL, hrs_twice okH (by omega), same_t k5 hl7, okS, fun H19 e19 => ?_⟩
              rw [fb_shift (hs := hs) (hs' := hs ++ hs) (5 * (hs.length : Int)) fun t _ => by rw [opn_twice hs h0, opn_add]]
              refine ⟨_, rfl, .inl ⟨hfl, _, rfl, _, rfl, .inl ⟨hfl, rfl, ?_⟩⟩⟩
              rw [decide_eq_true rfl]
              exact q _ ((k4.trans k5).trans e19)
            · rw [decide_eq_false h7]
              refine iteF (.inr ⟨b, _, rfl, rfl, same_t k3 hH, ?_⟩)
              refine ⟨by show 2 ≤ sizeLine; decide, fun T6 hT9 => ?_⟩
              have k5 : Same H17 (upd H17 T6 (.tup [.ref a, .ref b])) := same_new hT9
              refine ⟨_, rfl, T6, l5, L, hs, _, rfl, ⟨a, b, SqT.of upd_same, hP.same (k3.trans k5), same_t (k3.trans k5) hH⟩, okL, okH, same_t k5 hl6, okS, fun H19 e19 => ?_⟩
              rw [fb_shift (hs := hs) (hs' := hs) (5 * (hs.length : Int)) fun t _ => by rw [opn_add]]
              refine ⟨_, rfl, .inl ⟨hfl, _, rfl, _, rfl, .inl ⟨hfl, rfl, ?_⟩⟩⟩
              rw [decide_eq_true rfl]
              exact q _ ((k3.trans k5).trans e19)
end
end Gr

set_option maxHeartbeats 4000000
namespace Gr
open PySem PySem.Spec PyProof.Rows L2
open StX (pa_star)
section
variable {P : Program} {w : World} {K : PySem.W.Frag} {mg : Str → Option Value} {base : Heap} {f : Addr} {fd : FuncData}
theorem given_flat {n : Nat} (f : Nat → Bool) : (Evl.given n (fun _ => true) fun k => V.bl (f k)).all flatB = true := by
  rw [given_all, List.all_map]
  exact List.all_eq_true.mpr fun _ _ => rfl
theorem sc_lawdrawnright : FnScope ["_law_well_here", "_law_pairs", "_law_clock", "_law_row", "_law_part", "_law_at", "_law_moved", "_law_wider", "_law_twice", "_law_time"] ["_law_well_here"] (defScope s_lawdrawnright) := ⟨rfl, rfl, rfl, by decide +kernel, rfl, by decide +kernel, by decide +kernel⟩
theorem ok_lawdrawnright (F : FnP K "_law_drawn_right" s_lawdrawnright f fd) (T : Txt mg) (C_lawsomerow : Cal P w K mg base "_law_some_row" s_lawsomerow 3 ["_law_well_here", "_law_pairs", "_law_clock", "_law_number", "_law_top"] (pr_lawsomerow K)) (C_lawpick : Cal P w K mg base "_law_pick" s_lawpick 1 ["_law_well_here", "_law_top"] (pr_lawpick)) (C_lawsomelimits : Cal P w K mg base "_law_some_limits" s_lawsomelimits 3 ["_law_well_here", "_law_top", "_law_width"] (pr_lawsomelimits K)) (C_lawsomehours : Cal P w K mg base "_law_some_hours" s_lawsomehours 3 ["_law_well_here", "_law_top"] (pr_lawsomehours)) (C_lawrowright : Cal P w K mg base "_law_row_right" s_lawrowright 9 ["_law_pairs", "_law_clock", "_law_row"] (pr_lawrowright K)) (C_firstwrong : Cal P w K mg base "first_wrong" s_firstwrong 8 ["rules", "asks"] (pr_firstwrong K)) (C_lawwrongat : Cal P w K mg base "_law_wrong_at" s_lawwrongat 2 ["_law_pairs", "_law_clock", "_law_row"] (pr_lawwrongat K)) (C_ispolite : Cal P w K mg base "is_polite" s_ispolite 8 ["rules", "asks"] (pr_ispolite K)) (C_isopen : Cal P w K mg base "is_open" s_isopen 5 ["hours", "moment"] (pr_isopen K)) (C_lawopen : Cal P w K mg base "_law_open" s_lawopen 1 ["_law_clock", "_law_time"] (pr_lawopen K)) (C_lawone : Cal P w K mg base "_law_one" s_lawone 2 ["_law_well_here", "_law_some"] (pr_lawone)) : FnG P w K mg base 10 f fd ["_law_well_here"] (pr_lawdrawnright) := by
  refine fnG_of F sc_lawdrawnright (fun vs H Q h => ?_) (fun cdv A outer s H vs Q hr h => ?_)
  · obtain ⟨p, rfl, _⟩ := h; rfl
  · obtain ⟨p, rfl, hw, q⟩ := h
    refine ⟨_, (pss_cons (ps_asg (pe_tup (pa_cons (pe_go C_lawsomelimits (hr.mono (by decide)) rfl (pa_cons (pv 0) (pa_cons pe_int (pa_cons pe_int pa_nil)))) (pa_cons (pe_go C_lawsomehours (hr.mono (by decide)) rfl (pa_cons (pv 0) (pa_cons pe_int pa_nil))) pa_nil))) (pg_tup rfl (pgs_cons (pg_name (i := 1) sc_lawdrawnright.nd rfl (Or.inl rfl)) (pgs_cons (pg_name (i := 2) sc_lawdrawnright.nd rfl (Or.inr rfl)) pgs_nil)))) (pss_cons (ps_set (i := 3) sc_lawdrawnright.nd rfl (Or.inl rfl) (pe_go C_lawsomerow (hr.mono (by decide)) rfl (pa_cons (pv 0) (pa_cons (pv 1) (pa_cons (pv 2) (pa_cons (pe_op op_add pe_int (pe_go C_lawpick (hr.mono (by decide)) rfl (pa_cons (pv 0) (pa_cons pe_int pa_nil)))) (pa_cons pe_int pa_nil))))))) (pss_cons (ps_set (i := 4) sc_lawdrawnright.nd rfl (Or.inl rfl) (pe_callTy call_tuple_of (by rfl) T.tuple (by decide +kernel) (pa_cons (pe_lc (own := [("_law_time", 9)]) (by rfl) sc_lawdrawnright.nd (pi_tup (pv 3)) (blkOk_by (own := [("_law_time", 9)]) (N := ["_law_well_here", "_law_pairs", "_law_clock", "_law_row", "_law_part", "_law_at", "_law_moved", "_law_wider", "_law_twice", "_law_time"]) (sc := defScope s_lawdrawnright) (by decide +kernel)) (fun _ _ _ _ _ => (pg_name (i := 9) sc_lawdrawnright.nd rfl (Or.inl rfl))) (fun _ _ _ _ _ => (pts_one (pt_cmpR op_gt (pe_go C_lawpick (hr.mono (by decide)) rfl (pa_cons (pv 0) (pa_cons pe_int pa_nil))) pe_int (nomark _)))) (fun _ _ _ _ _ => (pv 9))) pa_nil))) (pss_cons (ps_if (pt_cmpR op_ne (pe_callB (cr_repr hr.gd hr.rm.units) (by rfl) T.repr (by decide +kernel) (pa_cons (pe_lst (pa_cons (pe_go C_ispolite (hr.mono (by decide)) rfl (pa_cons (pe_tup (pa_cons (pv 1) (pa_cons (pv 2) pa_nil))) (pa_cons (pv 3) pa_nil))) (pa_cons (pe_go C_ispolite (hr.mono (by decide)) rfl (pa_cons (pe_tup (pa_cons (pv 1) (pa_cons (pv 2) pa_nil))) (pa_cons (pv 4) pa_nil))) pa_nil))) pa_nil)) pe_str (nomark _)) (pss_one (ps_ret pe_bl)) pss_nil) (pss_cons (ps_if (pt_cmpR op_ne (pe_callB (cr_repr hr.gd hr.rm.units) (by rfl) T.repr (by decide +kernel) (pa_cons (pe_lc (own := [("_law_time", 9)]) (by rfl) sc_lawdrawnright.nd (pi_range1 rfl T.range (pa_cons pe_int pa_nil)) (blkOk_by (own := [("_law_time", 9)]) (N := ["_law_well_here", "_law_pairs", "_law_clock", "_law_row", "_law_part", "_law_at", "_law_moved", "_law_wider", "_law_twice", "_law_time"]) (sc := defScope s_lawdrawnright) (by decide +kernel)) (fun _ _ _ _ _ => (pg_name (i := 9) sc_lawdrawnright.nd rfl (Or.inl rfl))) (fun _ _ _ _ _ => pts_nil) (fun _ _ _ _ _ => (pe_go C_isopen (hr.mono (by decide)) rfl (pa_cons (pv 2) (pa_cons (pv 9) pa_nil))))) pa_nil)) (pe_callB (cr_repr hr.gd hr.rm.units) (by rfl) T.repr (by decide +kernel) (pa_cons (pe_lc (own := [("_law_time", 9)]) (by rfl) sc_lawdrawnright.nd (pi_range1 rfl T.range (pa_cons pe_int pa_nil)) (blkOk_by (own := [("_law_time", 9)]) (N := ["_law_well_here", "_law_pairs", "_law_clock", "_law_row", "_law_part", "_law_at", "_law_moved", "_law_wider", "_law_twice", "_law_time"]) (sc := defScope s_lawdrawnright) (by decide +kernel)) (fun _ _ _ _ _ => (pg_name (i := 9) sc_lawdrawnright.nd rfl (Or.inl rfl))) (fun _ _ _ _ _ => pts_nil) (fun _ _ _ _ _ => (pe_go C_lawopen (hr.mono (by decide)) rfl (pa_cons (pv 2) (pa_cons (pv 9) pa_nil))))) pa_nil)) (nomark _)) (pss_one (ps_ret pe_bl)) pss_nil) (pss_cons (ps_set (i := 5) sc_lawdrawnright.nd rfl (Or.inl rfl) (pe_go C_lawpick (hr.mono (by decide)) rfl (pa_cons (pv 0) (pa_cons (pe_callB call_len_seq (by rfl) T.len (by decide +kernel) (pa_cons (pv 3) pa_nil)) pa_nil)))) (pss_cons (ps_set (i := 6) sc_lawdrawnright.nd rfl (Or.inl rfl) (pe_callTy call_tuple_of (by rfl) T.tuple (by decide +kernel) (pa_cons (pe_callB cr_sortedT (by rfl) T.sorted (by decide +kernel) (pa_cons (pe_op op_catA (pe_op op_catA (pe_slice sl_tupA (pv 3) po_none (po_some (pv 5))) (pe_tup (pa_cons (pe_callB (call_max2 rfl) (by rfl) T.max (by decide +kernel) (pa_cons pe_int (pa_cons (pe_op op_add (pe_ix ix_tup (pv 3) (pv 5) (fun _ _ => rfl)) (pe_go C_lawone (hr.mono (by decide)) rfl (pa_cons (pv 0) (pa_cons (pe_lst (pa_cons (pe_un un_neg pe_int) (pa_cons (pe_un un_neg pe_int) (pa_cons pe_int (pa_cons pe_int pa_nil))))) pa_nil)))) pa_nil))) pa_nil))) (pe_slice sl_tupA (pv 3) (po_some (pe_op op_add (pv 5) pe_int)) po_none)) pa_nil)) pa_nil))) (Evl.pss_cut (ps_set (i := 7) sc_lawdrawnright.nd rfl (Or.inl rfl) (pe_op op_catA (pe_slice sl_tupA (pv 1) po_none (po_some pe_int)) (pe_callTy call_tuple_of (by rfl) T.tuple (by decide +kernel) (pa_cons (pe_op op_rep (pe_lst (pa_cons (pe_tup (pa_cons pe_int (pa_cons pe_int pa_nil))) pa_nil)) (pe_callTy call_int1 (by rfl) T.int (by decide +kernel) (pa_cons (pe_cmpR op_lt (pe_callB call_len_seq (by rfl) T.len (by decide +kernel) (pa_cons (pv 1) pa_nil)) pe_int (nomark _)) pa_nil))) pa_nil)))) (pss_cons (ps_set (i := 8) sc_lawdrawnright.nd rfl (Or.inl rfl) (pe_op op_catA (pv 1) (pe_slice sl_tupA (pv 1) po_none (po_some (pe_op op_sub pe_int (pe_callB call_len_seq (by rfl) T.len (by decide +kernel) (pa_cons (pv 1) pa_nil))))))) (pss_cons (ps_if (pt_cmpR op_ne (pe_callB (cr_repr hr.gd hr.rm.units) (by rfl) T.repr (by decide +kernel) (pa_cons (pe_go C_firstwrong (hr.mono (by decide)) rfl (pa_cons (pe_tup (pa_cons (pv 8) (pa_cons (pv 2) pa_nil))) (pa_cons (pv 6) pa_nil))) pa_nil)) (pe_callB (cr_repr hr.gd hr.rm.units) (by rfl) T.repr (by decide +kernel) (pa_cons (pe_go C_lawwrongat (hr.mono (by decide)) rfl (pa_cons (pv 1) (pa_cons (pv 2) (pa_cons (pv 6) pa_nil)))) pa_nil)) (nomark _)) (pss_one (ps_ret pe_bl)) pss_nil) (pss_one (ps_ret (pe_and (pe_go C_lawrowright (hr.mono (by decide)) rfl (pa_cons (pv 1) (pa_cons (pv 2) (pa_cons (pv 6) pa_nil)))) (pe_one (pe_go C_lawrowright (hr.mono (by decide)) rfl (pa_cons (pv 7) (pa_cons (pv 2) (pa_cons (pe_op op_catA (pv 3) (pe_slice sl_tupA (pv 3) (po_some (pe_un un_neg pe_int)) po_none)) pa_nil)))))))))))))))))), ?_⟩
    refine ⟨_, rfl, p, 6, 12, rfl, hw, by decide, by decide, by decide, by decide, fun a L H1 e1 hw1 hL okL => ?_⟩
    refine ⟨_, rfl, p, 12, rfl, hw1, by decide, by decide, fun b hs H2 e2 hw2 hTF okH => ?_⟩
    refine ⟨by show 2 ≤ sizeLine; decide, fun T0 hT0 => ⟨T0, _, rfl, SqT.of upd_same, rfl, _, _, rfl, _, _, rfl, rfl, ?_⟩⟩
    have f3 : But p H (upd H2 T0 (.tup [.ref a, .ref b])) := (e1.trans e2).trans (But.of (same_new hT0))
    have hw3 : Well (upd H2 T0 (.tup [.ref a, .ref b])) p := hw2.same (same_new hT0)
    have hL3 : LimT K (upd H2 T0 (.tup [.ref a, .ref b])) a L := (hL.but e2 hw1).same (same_new hT0)
    have hH3 : IntT K (upd H2 T0 (.tup [.ref a, .ref b])) b hs := same_t (same_new hT0) hTF.sq
    generalize upd H2 T0 (.tup [.ref a, .ref b]) = H3 at f3 hw3 hL3 hH3
    refine ⟨_, rfl, _, rfl, _, rfl, _, rfl, p, 12, rfl, hw3, by decide, by decide, fun r H4 r0 r1 e4 hw4 => ⟨_, _, rfl, rfl, ?_⟩⟩
    obtain ⟨k, rfl⟩ := Int.eq_ofNat_of_zero_le r0
    refine ⟨p, a, b, L, hs, 4 + k, congrArg (fun z => [V.ref p, V.ref a, V.ref b, V.int z, V.int 9]) (show (4 : Int) + (k : Int) = ((4 + k : Nat) : Int) by omega), hw4, hL3.but e4 hw3, okL, but_t e4 hw3 hH3, okH, by omega, by omega, fun c ns H5 e5 hw5 hc hlen okN hfb => ?_⟩
    have d5 : DrE K p a b c L hs ns H5 := ⟨hw5, (hL3.but e4 hw3).but e5 hw4, but_t e5 hw4 (but_t e4 hw3 hH3), hc⟩
    have f5 := (f3.trans e4).trans e5
    have n4 : 4 ≤ ns.length := by omega
    have n15 : ns.length ≤ 15 := by omega
    clear e1 e2 e4 e5 hw1 hw2 hw3 hw4 hw5 f3 hL hL3 hH3 hTF hT0 hc hw
    refine ⟨_, rfl, c, rfl, ⟨_, d5.r⟩, fun D hD => ?_⟩
    have nD := d5.w.ne_new hD
    refine lc_it walk_tup (fun i H' => But p H5 H' ∧ Well H' p ∧ ∃ ms : List Int, H' D = some (.lst (ms.map V.int)) ∧ ms.Sublist (ns.take i)) ⟨But.of (same_new hD), d5.w.upd nD, [], upd_same, List.nil_sublist _⟩
      (fun i H' _ z => (d5.but z.1 z.2.1).r) (fun i x H6 H7 hi z hy => ?_) (fun H6 z => ?_)
    · obtain ⟨e6, hw6, ms, hD6, hsub⟩ := z
      obtain ⟨rfl, hx⟩ := hy
      obtain ⟨hi', rfl⟩ := ints_at hx
      have hml : ms.length < sizeLine := Nat.lt_of_le_of_lt (Nat.le_trans hsub.length_le (show (ns.take i).length ≤ 15 by rw [List.length_take]; omega)) (by decide)
      refine ⟨rfl, _, rfl, p, 3, rfl, hw6, by decide, by decide, fun r2 H8 g0 g1 e8 hw8 => ⟨_, _, rfl, rfl, _, rfl, ite2 (fun _ => ?_) (fun _ => ?_)⟩⟩
      · refine ⟨_, rfl, ms.map V.int, e8 _ _ nD hD6, by rw [List.length_map]; exact hml, (e6.trans e8).new hD, hw8.upd nD, ms ++ [ns.getD i 0], ?_, ?_⟩
        · rw [upd_same, List.map_append]; rfl
        · rw [take_succ' hi']
          exact hsub.append (List.Sublist.refl _)
      · refine ⟨e6.trans e8, hw8, ms, e8 _ _ nD hD6, ?_⟩
        rw [take_succ' hi']
        exact hsub.trans (List.sublist_append_left _ _)
    · obtain ⟨e6, hw6, ms, hD6, hsub⟩ := z
      rw [List.length_map, List.take_length] at hsub
      have d6 := d5.but e6 hw6
      refine ⟨D, _, rfl, .inl ⟨SqL.of hD6, fun l hl => ?_⟩⟩
      have d7 : DrE K p a b c L hs ns (upd H6 l (.tup (ms.map V.int))) := d6.same (same_new hl)
      have hl2 : IntT K (upd H6 l (.tup (ms.map V.int))) l ms := SqT.of upd_same
      have f7 : But p H (upd H6 l (.tup (ms.map V.int))) := (f5.trans e6).trans (But.of (same_new hl))
      generalize upd H6 l (.tup (ms.map V.int)) = H7 at d7 hl2 f7
      clear hD hD6 nD e6 hw6 hl d6 d5 f5
      have okM : AsksOk ms := asks_sub okN hsub
      refine ⟨_, rfl, _, rfl, by show 2 ≤ sizeLine; decide, fun T1 hT1 => ?_⟩
      have k1 : Same H7 (upd H7 T1 (.tup [.ref a, .ref b])) := same_new hT1
      refine ⟨_, rfl, T1, c, L, hs, ns, rfl, ⟨a, b, SqT.of upd_same, d7.l.same k1, same_t k1 d7.h⟩, okL, okH, same_t k1 d7.r, okN, fun H8 e8 => ?_⟩
      have k2 := k1.trans e8
      refine ⟨_, rfl, _, rfl, by show 2 ≤ sizeLine; decide, fun T2 hT2 => ?_⟩
      have k3 : Same H8 (upd H8 T2 (.tup [.ref a, .ref b])) := same_new hT2
      refine ⟨_, rfl, T2, l, L, hs, ms, rfl, ⟨a, b, SqT.of upd_same, d7.l.same (k2.trans k3), same_t (k2.trans k3) d7.h⟩, okL, okH, same_t (k2.trans k3) hl2, okM, fun H9 e9 => ?_⟩
      have k4 := (k2.trans k3).trans e9
      rw [hfb, fb_sub okL okN.up hfb hsub]
      refine ⟨by show 2 ≤ sizeLine; decide, fun T3 hT3 => ⟨_, rfl, .inr ⟨T3, _, rfl, SqL.of upd_same, rfl, by show 2 ≤ 1000; decide, rfl, _, rfl, ?_⟩⟩⟩
      have k5 := k4.trans (same_new (o := .lst [.bl (none : Option Nat).isNone, .bl (none : Option Nat).isNone]) hT3)
      generalize upd H9 T3 (.lst [.bl (none : Option Nat).isNone, .bl (none : Option Nat).isNone]) = H10 at k5
      rw [show (!decide (V.str (reprL [.bl (none : Option Nat).isNone, .bl (none : Option Nat).isNone]) = V.str (Str.ofString "[True, True]"))) = false from ne_same (congrArg V.str reprL_two)]
      refine iteF ?_
      refine ⟨14, rfl, by decide, by decide, fun D1 hD1 => ?_⟩
      refine lc_gen walk_range (fun _ => true) (fun k => .bl (opn hs (0 + (k : Int)))) hD1 (by decide) (fun H' e => trivial) (fun k x H' H'' C N hk' e7 hy w1 w2 => ?_) (fun H11 e11 hDl => ?_)
      · obtain ⟨rfl, rfl⟩ := hy
        exact ⟨rfl, _, rfl, _, rfl, b, hs, _, rfl, same_t (k5.trans e7) d7.h, okH, by omega, fun H4 e4 => w1 rfl _ e4⟩
      refine ⟨_, rfl, .inr ⟨D1, _, rfl, SqL.of hDl, given_flat _, Nat.le_trans (Evl.given_len _ _ _) (by decide), ?_⟩⟩
      have k6 := k5.trans e11
      refine ⟨14, rfl, by decide, by decide, fun D2 hD2 => ?_⟩
      refine lc_gen walk_range (fun _ => true) (fun k => .bl (opn hs (0 + (k : Int)))) hD2 (by decide) (fun H' e => trivial) (fun k x H' H'' C N hk' e7 hy w1 w2 => ?_) (fun H12 e12 hDl2 => ?_)
      · obtain ⟨rfl, rfl⟩ := hy
        exact ⟨rfl, _, rfl, _, rfl, b, hs, _, rfl, same_t (k6.trans e7) d7.h, okH.pos, w1 rfl _ (Same.refl _)⟩
      refine ⟨_, rfl, .inr ⟨D2, _, rfl, SqL.of hDl2, given_flat _, Nat.le_trans (Evl.given_len _ _ _) (by decide), rfl, _, rfl, ?_⟩⟩
      have k7 := k6.trans e12
      rw [ne_same rfl]
      refine iteF ?_
      have d12 := d7.same k7
      have f12 := f7.trans (But.of k7)
      clear d7 f7 k1 k2 k3 k4 k5 k6 k7 e8 e9 e11 e12 hDl hDl2 hD1 hD2 hT1 hT2 hT3 hl2
      refine ⟨_, rfl, _, rfl, c, _, rfl, .inr d12.r, p, _, rfl, d12.w, by rw [List.length_map]; omega, by rw [List.length_map]; omega, fun r3 H13 r0 r1 e13 hw13 => ?_⟩
      rw [List.length_map] at r1
      obtain ⟨j, rfl⟩ := Int.eq_ofNat_of_zero_le r0
      have hj : j < ns.length := by omega
      have d13 := d12.but e13 hw13
      have f13 := f12.trans e13
      refine ⟨_, rfl, _, rfl, _, rfl, sl_any d13.r fun u1 H14 e14 hu1 => ?_⟩
      rw [cut_ints, cut_upto] at hu1
      have d14 := d13.same e14
      refine ⟨_, rfl, _, rfl, c, _, _, _, rfl, rfl, d14.r, atI_ints rfl hj, ?_⟩
      refine ⟨_, rfl, _, rfl, _, rfl, by show 4 ≤ sizeLine; decide, fun u2 hu2 => ?_⟩
      have d15 := d14.same (same_new (o := .lst [.int (-2), .int (-1), .int 1, .int 2]) hu2)
      refine ⟨p, u2, _, rfl, d15.w, d14.w.ne_new hu2, upd_same, by show 0 < 4; decide, by show 4 < 1000; decide, fun v H16 hv e16 hw16 => ?_⟩
      have hv' : ∃ k : Int, v = .int k := by
        simp only [List.mem_cons, List.not_mem_nil, or_false] at hv
        rcases hv with rfl | rfl | rfl | rfl
        · exact ⟨_, rfl⟩
        · exact ⟨_, rfl⟩
        · exact ⟨_, rfl⟩
        · exact ⟨_, rfl⟩
      obtain ⟨kk, rfl⟩ := hv'
      have d16 := d15.but e16 hw16
      have hu3 := but_t e16 d15.w (same_t (same_new (o := .lst [.int (-2), .int (-1), .int 1, .int 2]) hu2) hu1)
      have f16 := ((f13.trans (But.of e14)).trans (But.of (same_new (o := .lst [.int (-2), .int (-1), .int 1, .int 2]) hu2))).trans e16
      refine ⟨_, _, rfl, rfl, _, _, rfl, by show 1 ≤ sizeLine; decide, fun u4 hu4 => ?_⟩
      generalize hmx : (if ns.getD j 0 + kk > 0 then ns.getD j 0 + kk else 0) = mx
      have mx0 : 0 ≤ mx := by rw [← hmx]; split <;> omega
      have k17 : Same H16 (upd H16 u4 (.tup [.int mx])) := same_new hu4
      have hu5 : SqT K (upd H16 u4 (.tup [.int mx])) u4 [.int mx] := SqT.of upd_same
      generalize upd H16 u4 (.tup [.int mx]) = H17 at k17 hu5
      refine cat_any (same_t k17 hu3) hu5 (by rw [List.length_map, List.length_take]; exact Nat.le_trans (show min j ns.length + 1 ≤ 16 by omega) (by decide)) fun u6 H18 e18 hu6 => ?_
      have d18 := d16.same (k17.trans e18)
      refine ⟨_, rfl, _, rfl, _, _, rfl, rfl, _, rfl, ?_⟩
      unfold tNoPart
      refine sl_any d18.r fun u7 H19 e19 hu7 => ?_
      have hj1 : ((j : Int) + 1) = ((j + 1 : Nat) : Int) := by omega
      rw [cut_ints, hj1, cut_from _ _ (by omega)] at hu7
      refine cat_any (same_t e19 hu6) hu7 ?_ fun u8 H20 e20 hu8 => ?_
      · rw [List.length_append, List.length_map, List.length_map, List.length_take, List.length_drop]
        exact Nat.le_trans (show min j ns.length + 1 + (ns.length - (j + 1)) ≤ 40 by omega) (by decide)
      have hmv : (ns.take j ++ [mx] ++ ns.drop (j + 1)).map V.int = (ns.take j).map V.int ++ [.int mx] ++ (ns.drop (j + 1)).map V.int := by
        rw [List.map_append, List.map_append]; rfl
      rw [← hmv] at hu8
      have k20 := ((k17.trans e18).trans e19).trans e20
      refine ⟨u8, _, rfl, hu8, fun mv u9 hperm hup hu9 => ?_⟩
      have k21 : Same H20 (upd H20 u9 (.lst (mv.map V.int))) := same_new hu9
      refine ⟨u9, _, rfl, .inl ⟨SqL.of upd_same, fun u10 hu10 => ?_⟩⟩
      generalize upd H20 u9 (.lst (mv.map V.int)) = H21 at k21 hu10
      have k22 : Same H21 (upd H21 u10 (.tup (mv.map V.int))) := same_new hu10
      have hMv : IntT K (upd H21 u10 (.tup (mv.map V.int))) u10 mv := SqT.of upd_same
      generalize upd H21 u10 (.tup (mv.map V.int)) = H22 at k22 hMv
      have hml : (ns.take j ++ [mx] ++ ns.drop (j + 1)).length ≤ 40 := by
        rw [List.length_append, List.length_append, List.length_take, List.length_drop]
        show min j ns.length + 1 + (ns.length - (j + 1)) ≤ 40
        omega
      have okMv : AsksOk mv := asks_perm hperm hup (Nat.le_trans hml (by decide)) fun n hn => by
        rcases List.mem_append.mp hn with z | z
        · rcases List.mem_append.mp z with z | z
          · exact okN.nn n (List.mem_of_mem_take z)
          · rw [List.mem_singleton.mp z]; exact mx0
        · exact okN.nn n (List.mem_of_mem_drop z)
      have mvl : mv.length ≤ 90 := by rw [hperm.length_eq]; omega
      have d22 := d16.same ((k20.trans k21).trans k22)
      have f22 := f16.trans (But.of ((k20.trans k21).trans k22))
      clear d12 d13 d14 d15 d16 d18 f12 f13 f16 e13 e14 e16 e18 e19 e20 hu1 hu3 hu5 hu6 hu7 hu8 k17 k20 k21 k22 hv
      generalize hst : V.int (j : Int) = vj
      refine ⟨fun σ' H30 => ∃ wd WL, σ' = [some (.ref p), some (.ref a), some (.ref b), some (.ref c), some (.ref l), some vj, some (.ref u10), some (.ref wd), none, none] ∧ Same H22 H30 ∧ LimT K H30 wd WL ∧ LimOk WL, ?_, fun σ' H30 z => ?_⟩
      · obtain ⟨rs, hS, hPr⟩ := d22.l
        refine ⟨_, rfl, _, rfl, sl_any hS fun u1 H23 e23 hu1 => ?_⟩
        have hu2 : SqT K H23 u1 ((rs.take 3).map V.ref) := by
          have := cutV_upto (rs.map V.ref) 3
          rw [List.map_take, ← this]
          exact hu1
        have hP2 : Paired (fun r q => SqT K H23 r [.int q.1, .int q.2]) (rs.take 3) (L.take 3) := paired_take 3 (Paired.mapP hPr fun _ _ z => same_t e23 z)
        refine ⟨by show 2 ≤ sizeLine; decide, fun t1 ht1 => ?_⟩
        have k1 : Same H23 (upd H23 t1 (.tup [.int 6, .int 1])) := same_new ht1
        have ht2 : SqT K (upd H23 t1 (.tup [.int 6, .int 1])) t1 [.int 6, .int 1] := SqT.of upd_same
        generalize upd H23 t1 (.tup [.int 6, .int 1]) = H24 at k1 ht2
        refine ⟨by show 1 ≤ sizeLine; decide, fun t3 ht3 => ?_⟩
        have k2 : Same H24 (upd H24 t3 (.lst [.ref t1])) := same_new ht3
        have ht4 : upd H24 t3 (.lst [.ref t1]) t3 = some (.lst [.ref t1]) := upd_same
        generalize upd H24 t3 (.lst [.ref t1]) = H25 at k2 ht4
        have k3 := (e23.trans k1).trans k2
        refine ⟨_, rfl, a, _, rfl, .inr (same_t k3 hS), _, _, rfl, rfl, .inr ⟨_, rfl, ?_⟩⟩
        rw [List.length_map, Paired.length hPr]
        have okOne : LimOk [((6 : Int), (1 : Int))] := ⟨by show 1 ≤ 4; decide, fun q hq => by rw [List.mem_singleton.mp hq]; decide⟩
        by_cases h4 : ((L.length : Nat) : Int) < 4
        · rw [decide_eq_true h4]
          refine ⟨t3, 1, _, rfl, rfl, ht4, by decide, by decide, by show 1 * 1 ≤ sizeLine; decide, fun t5 ht5 => ?_⟩
          have k4 : Same H25 (upd H25 t5 (.lst (List.replicate (1 : Int).toNat [V.ref t1]).flatten)) := same_new ht5
          refine ⟨t5, _, rfl, .inl ⟨SqL.of upd_same, fun t6 ht6 => ?_⟩⟩
          generalize upd H25 t5 (.lst (List.replicate (1 : Int).toNat [V.ref t1]).flatten) = H26 at k4 ht6
          have k5 : Same H26 (upd H26 t6 (.tup (List.replicate (1 : Int).toNat [V.ref t1]).flatten)) := same_new ht6
          have ht7 : SqT K (upd H26 t6 (.tup (List.replicate (1 : Int).toNat [V.ref t1]).flatten)) t6 [V.ref t1] := SqT.of upd_same
          generalize upd H26 t6 (.tup (List.replicate (1 : Int).toNat [V.ref t1]).flatten) = H27 at k5 ht7
          have k6 := ((k1.trans k2).trans k4).trans k5
          refine cat_any (same_t k6 hu2) ht7 (by rw [List.length_map, List.length_take]; exact Nat.le_trans (show min 3 rs.length + 1 ≤ 4 by omega) (by decide)) fun wd H28 e28 hwd => ?_
          have k7 := k6.trans e28
          refine ⟨wd, L.take 3 ++ [(6, 1)], by rw [← hst]; rfl, e23.trans k7, ⟨rs.take 3 ++ [t1], by rw [List.map_append]; exact hwd, paired_snoc (Paired.mapP hP2 fun _ _ z => same_t k7 z) (same_t (((k2.trans k4).trans k5).trans e28) ht2)⟩,
            lim_app (lim_take okL 3) okOne (by rw [List.length_take]; show min 3 L.length + 1 ≤ 4; omega)⟩
        · rw [decide_eq_false h4]
          refine ⟨t3, 0, _, rfl, rfl, ht4, by decide, by decide, by show 1 * 0 ≤ sizeLine; decide, fun t5 ht5 => ?_⟩
          have k4 : Same H25 (upd H25 t5 (.lst (List.replicate (0 : Int).toNat [V.ref t1]).flatten)) := same_new ht5
          refine ⟨t5, _, rfl, .inl ⟨SqL.of upd_same, fun t6 ht6 => ?_⟩⟩
          generalize upd H25 t5 (.lst (List.replicate (0 : Int).toNat [V.ref t1]).flatten) = H26 at k4 ht6
          have k5 : Same H26 (upd H26 t6 (.tup (List.replicate (0 : Int).toNat [V.ref t1]).flatten)) := same_new ht6
          have ht7 : SqT K (upd H26 t6 (.tup (List.replicate (0 : Int).toNat [V.ref t1]).flatten)) t6 [] := SqT.of upd_same
          generalize upd H26 t6 (.tup (List.replicate (0 : Int).toNat [V.ref t1]).flatten) = H27 at k5 ht7
          have k6 := ((k1.trans k2).trans k4).trans k5
          refine cat_any (same_t k6 hu2) ht7 (by rw [List.length_map, List.length_take]; exact Nat.le_trans (show min 3 rs.length + 0 ≤ 4 by omega) (by decide)) fun wd H28 e28 hwd => ?_
          have k7 := k6.trans e28
          rw [List.append_nil] at hwd
          exact ⟨wd, L.take 3, by rw [← hst]; rfl, e23.trans k7, ⟨rs.take 3, hwd, Paired.mapP hP2 fun _ _ z => same_t k7 z⟩, lim_take okL 3⟩
      · obtain ⟨wd, WL, rfl, e30, hWL, okW⟩ := z
        have d30 := d22.same e30
        have f30 := f22.trans (But.of e30)
        have hMv2 := same_t e30 hMv
        clear d22 f22 hMv e30
        obtain ⟨rs, hS, hPr⟩ := id d30.l
        refine ⟨_, rfl, _, rfl, _, rfl, a, _, rfl, .inr hS, _, _, rfl, rfl, _, rfl, sl_any hS fun u1 H31 e31 hu1 => ?_⟩
        have l4 := okL.len
        have h4 : (4 : Int) - (((rs.map V.ref).length : Nat) : Int) = ((4 - L.length : Nat) : Int) := by
          rw [List.length_map, Paired.length hPr]; omega
        rw [h4, cutV_upto, ← List.map_take] at hu1
        refine cat_any (same_t e31 hS) hu1 (by rw [List.length_map, List.length_map, List.length_take, Paired.length hPr]; exact Nat.le_trans (show L.length + min (4 - L.length) L.length ≤ 4 by omega) (by decide)) fun tw H32 e32 htw => ?_
        rw [← List.map_append] at htw
        have k2 := e31.trans e32
        have hP2 : LimT K H32 tw (L ++ L.take (4 - L.length)) := ⟨_, htw, paired_app (Paired.mapP hPr fun _ _ z => same_t k2 z) (paired_take _ (Paired.mapP hPr fun _ _ z => same_t k2 z))⟩
        have okT : LimOk (L ++ L.take (4 - L.length)) := lim_app okL (lim_take okL _) (by rw [List.length_take]; omega)
        refine ⟨_, rfl, _, rfl, by show 2 ≤ sizeLine; decide, fun T1 hT1 => ?_⟩
        have k3 : Same H32 (upd H32 T1 (.tup [.ref tw, .ref b])) := same_new hT1
        have k4 := k2.trans k3
        refine ⟨_, rfl, T1, u10, _, hs, mv, rfl, ⟨tw, b, SqT.of upd_same, hP2.same k3, same_t k4 d30.h⟩, okT, okH, same_t k4 hMv2, okMv, fun H33 e33 => ?_⟩
        have k5 := k4.trans e33
        rw [fb_twice]
        refine ⟨_, rfl, .inl ⟨fb_small (by omega), ?_⟩⟩
        refine ⟨_, rfl, _, rfl, _, rfl, a, b, u10, L, hs, mv, rfl, d30.l.same k5, okL, same_t k5 d30.h, okH, same_t k5 hMv2, okMv, fun H34 e34 => ?_⟩
        have k6 := k5.trans e34
        refine ⟨_, rfl, .inl ⟨fb_small (by omega), rfl, _, rfl, ?_⟩⟩
        rw [ne_same rfl]
        refine iteF ?_
        refine ⟨_, rfl, _, rfl, _, rfl, a, b, u10, L, hs, mv, rfl, d30.l.same k6, okL, same_t k6 d30.h, okH, same_t k6 hMv2, okMv, mvl, fun H35 e35 => ?_⟩
        have k7 := k6.trans e35
        refine ⟨true, rfl, iteT ?_⟩
        refine ⟨_, rfl, _, rfl, _, rfl, _, rfl, _, rfl, _, rfl, ?_⟩
        refine sl_any (same_t k7 d30.r) fun u2 H36 e36 hu2 => ?_
        rw [cut_ints, cut_last] at hu2
        have k8 := k7.trans e36
        refine cat_any (same_t k8 d30.r) hu2 (by rw [List.length_map, List.length_map, List.length_drop]; exact Nat.le_trans (show ns.length + (ns.length - (ns.length - 1)) ≤ 40 by omega) (by decide)) fun u3 H37 e37 hu3 => ?_
        rw [← List.map_append] at hu3
        have k9 := k8.trans e37
        exact ⟨wd, b, u3, WL, hs, _, rfl, hWL.same k9, okW, same_t k9 d30.h, okH, hu3, asks_rep okN (by omega), by rw [List.length_append, List.length_drop]; omega, fun H38 e38 => q _ (f30.trans (But.of (k9.trans e38)))⟩
end
end Gr

set_option maxHeartbeats 4000000
namespace Gr
open PySem PySem.Spec PyProof.Rows L2
open StX (pa_star)
section
variable {P : Program} {w : World} {K : PySem.W.Frag} {mg : Str → Option Value} {base : Heap} {f : Addr} {fd : FuncData}
theorem sc_lawcellsright : FnScope ["_law_script", "_law_well_here", "_law_row", "_law_time", "_law_pairs", "_law_clock", "_law_wide", "_law_cell"] ["_law_script"] (defScope s_lawcellsright) := ⟨rfl, rfl, rfl, by decide +kernel, rfl, by decide +kernel, by decide +kernel⟩
theorem ok_lawcellsright (F : FnP K "_law_cells_right" s_lawcellsright f fd) (T : Txt mg) (C_lawone : Cal P w K mg base "_law_one" s_lawone 2 ["_law_well_here", "_law_some"] (pr_lawone)) (C_lawrowright : Cal P w K mg base "_law_row_right" s_lawrowright 9 ["_law_pairs", "_law_clock", "_law_row"] (pr_lawrowright K)) (C_lawwell : Cal P w K mg base "_law_well" s_lawwell 1 ["_law_script", "_law_turn"] (pr_lawwell K)) (C_lawsomelimits : Cal P w K mg base "_law_some_limits" s_lawsomelimits 3 ["_law_well_here", "_law_top", "_law_width"] (pr_lawsomelimits K)) (C_lawsomehours : Cal P w K mg base "_law_some_hours" s_lawsomehours 3 ["_law_well_here", "_law_top"] (pr_lawsomehours)) (C_lawpick : Cal P w K mg base "_law_pick" s_lawpick 1 ["_law_well_here", "_law_top"] (pr_lawpick)) : FnG P w K mg base 10 f fd ["_law_script"] (pr_lawcellsright K) := by
  refine fnG_of F sc_lawcellsright (fun vs H Q h => ?_) (fun cdv A outer s H vs Q hr h => ?_)
  · obtain ⟨a, ns, rfl, _⟩ := h; rfl
  · obtain ⟨s0, ns, rfl, hS, hlen, q⟩ := h
    refine ⟨_, (pss_cons (ps_par3 (i := 1) (j := 2) (l := 3) (by rfl) sc_lawcellsright.nd rfl rfl rfl (by decide) (by decide) (by decide) rfl rfl rfl (pa_cons (pe_go C_lawwell (hr.mono (by decide)) rfl (pa_cons (pv 0) (pa_cons pe_int pa_nil))) (pa_cons (pe_lst pa_nil) (pa_cons pe_int pa_nil))) (by rfl)) (pss_cons (ps_asg (pe_tup (pa_cons (pe_go C_lawsomelimits (hr.mono (by decide)) rfl (pa_cons (pv 1) (pa_cons pe_int (pa_cons pe_int pa_nil)))) (pa_cons (pe_go C_lawsomehours (hr.mono (by decide)) rfl (pa_cons (pv 1) (pa_cons pe_int pa_nil))) pa_nil))) (pg_tup rfl (pgs_cons (pg_name (i := 4) sc_lawcellsright.nd rfl (Or.inl rfl)) (pgs_cons (pg_name (i := 5) sc_lawcellsright.nd rfl (Or.inr rfl)) pgs_nil)))) (pss_cons (ps_set (i := 6) sc_lawcellsright.nd rfl (Or.inl rfl) (pe_go C_lawone (hr.mono (by decide)) rfl (pa_cons (pv 1) (pa_cons (pe_lst (pa_cons pe_int (pa_cons pe_int (pa_cons pe_int (pa_cons pe_int pa_nil))))) pa_nil)))) (pss_cons (ps_for PassesOwn.never rfl (pi_list (pe_slice sl_list (pv 0) (po_some pe_int) (po_some pe_int))) (pg_name (i := 7) sc_lawcellsright.nd rfl (Or.inl rfl)) (pss_cons (ps_set (i := 3) sc_lawcellsright.nd rfl (Or.inl rfl) (pe_op op_add (pv 3) (pe_op op_mod (pe_callTy call_int1 (by rfl) T.int (by decide +kernel) (pa_cons (pv 7) pa_nil)) (pv 6)))) (pss_one (ps_expr (pe_bm PySem.F.plainAttrs_list PySem.F.slot_list_append PySem.F.type_list_append mt_append (pv 2) (pa_cons (pv 3) pa_nil)))))) (Evl.pss_cut (ps_if (pt_cmpR op_eq (pe_go C_lawpick (hr.mono (by decide)) rfl (pa_cons (pv 1) (pa_cons pe_int pa_nil))) pe_int (nomark _)) (pss_one (ps_setLc (i := 2) (own := [("_law_time", 3)]) (by rfl) sc_lawcellsright.nd rfl rfl (sw_true rfl rfl rfl (by decide +kernel)) (pi_list (pv 2)) (blkOk_by (own := [("_law_time", 3)]) (N := ["_law_script", "_law_well_here", "_law_row", "_law_time", "_law_pairs", "_law_clock", "_law_wide", "_law_cell"]) (sc := defScope s_lawcellsright) (by decide +kernel)) (fun _ _ _ _ _ => (pg_name (i := 3) sc_lawcellsright.nd rfl (Or.inl rfl))) (fun _ _ _ _ _ => pts_nil) (fun _ _ _ _ _ => (pe_op op_add (pe_op op_mul (pv 3) (pe_callB (call_lenK (K := K) rfl) (by rfl) T.len (by decide +kernel) (pa_cons (pv 5) pa_nil))) (pe_tupIx (pv 5) pe_int))))) pss_nil) (pss_one (ps_ret (pe_go C_lawrowright (hr.mono (by decide)) rfl (pa_cons (pv 4) (pa_cons (pv 5) (pa_cons (pe_callTy call_tuple_of (by rfl) T.tuple (by decide +kernel) (pa_cons (pv 2) pa_nil)) pa_nil))))))))))), ?_⟩
    refine ⟨_, rfl, s0, ns, 0, rfl, hS, fun p H1 e1 hp0 hw1 => ?_⟩
    refine ⟨by show 0 ≤ sizeLine; decide, fun l hl => ⟨_, _, _, rfl, ?_⟩⟩
    have nlp : l ≠ p := hw1.ne_new hl
    have hl0 : H l = none := e1.free hl
    have e2 : Same H (upd H1 l (.lst [])) := e1.trans (same_new hl)
    have hw2 : Well (upd H1 l (.lst [])) p := hw1.same (same_new hl)
    have hl2 : upd H1 l (.lst []) l = some (.lst (([] : List Int).map V.int)) := upd_same
    generalize upd H1 l (.lst []) = H2 at e2 hw2 hl2
    refine ⟨_, rfl, p, 4, 8, rfl, hw2, by decide, by decide, by decide, by decide, fun a L H3 e3 hw3 hL3 okL => ?_⟩
    refine ⟨_, rfl, p, 4, rfl, hw3, by decide, by decide, fun b hs H4 e4 hw4 hTF4 okH => ?_⟩
    refine ⟨by show 2 ≤ sizeLine; decide, fun T0 hT0 => ⟨T0, _, rfl, SqT.of upd_same, rfl, _, _, rfl, _, _, rfl, rfl, ?_⟩⟩
    have e5 : Same H (upd H4 T0 (.tup [.ref a, .ref b])) := (same_but e2 hp0 (e3.trans e4)).trans (same_new hT0)
    have hw5 : Well (upd H4 T0 (.tup [.ref a, .ref b])) p := hw4.same (same_new hT0)
    have hL5 : LimT K (upd H4 T0 (.tup [.ref a, .ref b])) a L := (hL3.but e4 hw3).same (same_new hT0)
    have hF5 : TupF (upd H4 T0 (.tup [.ref a, .ref b])) b (hs.map V.int) := hTF4.same (same_new hT0)
    have hl5 : upd H4 T0 (.tup [.ref a, .ref b]) l = some (.lst (([] : List Int).map V.int)) := same_new hT0 _ _ (e4 _ _ nlp (e3 _ _ nlp hl2))
    generalize upd H4 T0 (.tup [.ref a, .ref b]) = H5 at e5 hw5 hL5 hF5 hl5
    refine ⟨_, rfl, by show 4 ≤ sizeLine; decide, fun u hu => ⟨p, u, _, rfl, hw5.same (same_new hu), hw5.ne_new hu, upd_same, by show 0 < 4; decide, by show 4 < 1000; decide, fun v H6 hv e6 hw6 => ?_⟩⟩
    have hv' : ∃ k : Int, v = .int k ∧ 0 < k := by
      simp only [List.mem_cons, List.not_mem_nil, or_false] at hv
      rcases hv with rfl | rfl | rfl | rfl
      · exact ⟨2, rfl, by decide⟩
      · exact ⟨3, rfl, by decide⟩
      · exact ⟨4, rfl, by decide⟩
      · exact ⟨6, rfl, by decide⟩
    obtain ⟨wd, rfl, hwd⟩ := hv'
    have hwu := hw5.same (same_new (o := .lst [.int 2, .int 3, .int 4, .int 6]) hu)
    have f6 := same_but (e5.trans (same_new (o := .lst [.int 2, .int 3, .int 4, .int 6]) hu)) hp0 e6
    have hL6 := (hL5.same (same_new (o := .lst [.int 2, .int 3, .int 4, .int 6]) hu)).but e6 hwu
    have hF6 := (hF5.same (same_new (o := .lst [.int 2, .int 3, .int 4, .int 6]) hu)).but e6 hwu
    have hl6 := e6 _ _ nlp (same_new (o := .lst [.int 2, .int 3, .int 4, .int 6]) hu _ _ hl5)
    refine ⟨_, rfl, _, rfl, _, rfl, s0, _, rfl, f6.seq hS, fun T hT => ?_⟩
    rw [cut_ints]
    have hcl := cut_len ns (some 1) (some 63)
    generalize cutI ns (some 1) (some 63) = cs at hcl
    have f7 : Same H (upd H6 T (.lst (cs.map V.int))) := f6.trans (same_new hT)
    have hw7 : Well (upd H6 T (.lst (cs.map V.int))) p := hw6.same (same_new hT)
    have hL7 : LimT K (upd H6 T (.lst (cs.map V.int))) a L := hL6.same (same_new hT)
    have hF7 : TupF (upd H6 T (.lst (cs.map V.int))) b (hs.map V.int) := hF6.same (same_new hT)
    have hl7 : upd H6 T (.lst (cs.map V.int)) l = some (.lst (([] : List Int).map V.int)) := same_new hT _ _ hl6
    have hT7 : upd H6 T (.lst (cs.map V.int)) T = some (.lst (cs.map V.int)) := upd_same
    have nTl : T ≠ l := Ne.symm (ne_of_none hl6 hT)
    generalize upd H6 T (.lst (cs.map V.int)) = H7 at f7 hw7 hL7 hF7 hl7 hT7
    clear e1 e2 e3 e4 e5 e6 f6 hw1 hw2 hw3 hw4 hw5 hw6 hwu hL3 hL5 hL6 hTF4 hF5 hF6 hl2 hl5 hl6 hT0 hT hu hv
    refine ⟨T, rfl, ⟨_, SqL.of hT7⟩, for_list (K := K) (a := T) (xs := cs.map V.int) (fun i σ H' => ∃ rw t x7, σ = [some (.ref s0), some (.ref p), some (.ref l), some (.int t), some (.ref a), some (.ref b), some (.int wd), x7] ∧ But l H7 H' ∧ H' l = some (.lst (rw.map V.int)) ∧
        rw.length = i ∧ AsksOk rw ∧ 0 ≤ t ∧ ∀ x ∈ rw, x ≤ t)
      ⟨[], 0, none, rfl, But.refl _ _, hl7, rfl, ⟨by decide, (fun _ h => nomatch h), .nil⟩, Int.le_refl _, fun _ h => nomatch h⟩ (fun i σ H' _ z => by obtain ⟨_, _, _, _, e, _⟩ := z; exact SqL.of (e _ _ nTl hT7)) (fun i x σ H' hx z => ?_) (fun σ H' z => ?_)⟩
    · obtain ⟨rw, t, x7, rfl, e, hlr, hrl, okR, ht, hle⟩ := z
      obtain ⟨hi, rfl⟩ := ints_at hx
      have g1 := Int.emod_nonneg (cs.getD i 0) (b := wd) (by omega)
      refine ⟨_, rfl, _, rfl, .inl ⟨_, rfl, _, rfl, _, _, rfl, rfl, hwd, _, _, rfl, rfl, ?_⟩⟩
      refine ⟨_, rfl, .inl ⟨rfl, _, SqL.of hlr⟩, _, rfl, l, _, _, rfl, rfl, hlr, by rw [List.length_map]; exact Nat.lt_of_le_of_lt (show rw.length ≤ 63 by omega) (by decide), ?_⟩
      refine ⟨rw ++ [t + cs.getD i 0 % wd], _, _, rfl, e.upd, ?_, ?_, asks_next okR (by omega) (by omega) (fun x hx => by have := hle x hx; omega), by omega, fun x hx => ?_⟩
      · rw [upd_same, List.map_append]; rfl
      · rw [List.length_append, hrl]; rfl
      · rcases List.mem_append.mp hx with z | z
        · have := hle x z; omega
        · rw [List.mem_singleton.mp z]; exact Int.le_refl _
    · obtain ⟨rw0, t, x7, rfl, e, hlr, hrl, okR, ht, hle⟩ := z
      rw [List.length_map] at hrl
      have f8 : Same H H' := same_but f7 hl0 e
      have hw8 : Well H' p := by
        obtain ⟨d, m, c, hp, h0⟩ := hw7
        exact ⟨d, m, c, e _ _ (Ne.symm nlp) hp, h0⟩
      have hL8 := hL7.butL e hl7
      have hF8 := hF7.butL e hl7
      clear f7 hw7 hL7 hF7 e hl7 hT7 hle
      refine ⟨fun σ' H9 => ∃ l2 rw2 x3, σ' = [some (.ref s0), some (.ref p), some (.ref l2), x3, some (.ref a), some (.ref b), some (.int wd), x7] ∧ Same H H9 ∧ LimT K H9 a L ∧ TupF H9 b (hs.map V.int) ∧ H9 l2 = some (.lst (rw2.map V.int)) ∧ AsksOk rw2 ∧ rw2.length ≤ 90, ?_, fun σ' H9 z => ?_⟩
      · refine ⟨_, rfl, p, 2, rfl, hw8, by decide, by decide, fun r H9 r0 r1 e9 hw9 => ?_⟩
        have f9 := same_but f8 hp0 e9
        have hL9 := hL8.but e9 hw8
        have hF9 := hF8.but e9 hw8
        have hl9 := e9 _ _ nlp hlr
        refine ⟨rfl, _, rfl, ite2 (fun _ => ?_) (fun _ => ⟨l, rw0, _, rfl, f9, hL9, hF9, hl9, okR, by omega⟩)⟩
        refine ⟨_, rfl, l, rfl, ⟨_, SqL.of hl9⟩, fun D hD => ?_⟩
        obtain ⟨j, hj1, hj2⟩ := first_one okH.one
        refine lc_gen (n := rw0.length) (by have := walk_list (K := K) (a := l) (xs := rw0.map V.int); rw [List.length_map] at this; exact this) (fun _ => true) (fun i => .int ((fun t => t * (hs.length : Int) + (j : Int)) (rw0.getD i 0))) hD (by omega) (fun H' e' => SqL.of (e' _ _ hl9)) (fun i x H10 H11 C N hi e10 hy w1 w2 => ?_) (fun H10 e10 hDl => ?_)
        · obtain ⟨rfl, hx'⟩ := hy
          obtain ⟨hi2, rfl⟩ := ints_at hx'
          have h12 := okH.len
          refine ⟨rfl, _, rfl, _, rfl, b, _, rfl, .inr (hF9.same e10).sq, _, _, rfl, rfl, .inr ?_, ?_⟩
          · rw [List.length_map]
            exact ⟨by omega, by omega⟩
          · refine ⟨_, rfl, b, hs, rfl, hF9.same e10, 1, j, rfl, hF9.same e10, hj1, hj2, _, _, rfl, rfl, ?_⟩
            rw [List.length_map]
            exact w1 rfl _ (Same.refl _)
        · replace hDl : H10 D = some (.lst ((rw0.map fun t => t * (hs.length : Int) + (j : Int)).map V.int)) := hDl.trans (congrArg (fun l => some (HO.lst l)) (given_ints rw0 fun t => t * (hs.length : Int) + (j : Int)))
          have h0 := okH.pos
          exact ⟨D, _, _, rfl, f9.trans e10, hL9.same e10, hF9.same e10, hDl, asks_scale okR (by omega) (by omega), by rw [List.length_map]; omega⟩
      · obtain ⟨l2, rw2, x3, rfl, f9, hL9, hF9, hl9, ok9, n90⟩ := z
        refine ⟨_, rfl, _, rfl, _, rfl, l2, _, rfl, .inl ⟨SqL.of hl9, fun c hc => ?_⟩⟩
        have k1 : Same H9 (upd H9 c (.tup (rw2.map V.int))) := same_new hc
        exact ⟨a, b, c, L, hs, rw2, rfl, hL9.same k1, okL, (hF9.same k1).sq, okH, SqT.of upd_same, ok9, n90, fun H11 e11 => q _ ((f9.trans k1).trans e11)⟩
theorem sc_law : FnScope ["_law_script", "_law_turn"] ["_law_script"] (defScope s_law) := ⟨rfl, rfl, rfl, by decide +kernel, rfl, by decide +kernel, by decide +kernel⟩
theorem ok_law (F : FnP K "law" s_law f fd) (T : Txt mg) (C_lawcellsright : Cal P w K mg base "_law_cells_right" s_lawcellsright 10 ["_law_script"] (pr_lawcellsright K)) (C_lawdrawnright : Cal P w K mg base "_law_drawn_right" s_lawdrawnright 10 ["_law_well_here"] (pr_lawdrawnright)) (C_lawwell : Cal P w K mg base "_law_well" s_lawwell 1 ["_law_script", "_law_turn"] (pr_lawwell K)) : FnG P w K mg base 11 f fd ["_law_script"] (pr_law K) := by
  refine fnG_of F sc_law (fun vs H Q h => ?_) (fun cdv A outer s H vs Q hr h => ?_)
  · obtain ⟨a, ns, rfl, _⟩ := h; rfl
  · obtain ⟨a, ns, rfl, hS, hlen, q⟩ := h
    refine ⟨_, (pss_cons (ps_if (pt_not (pt_val (pe_go C_lawcellsright (hr.mono (by decide)) rfl (pa_cons (pv 0) pa_nil)))) (pss_one (ps_ret pe_bl)) pss_nil) (pss_one (ps_ret (pe_callB (cr_all rfl) (by rfl) T.all (by decide +kernel) (pa_cons (pe_lc (own := [("_law_turn", 1)]) (by rfl) sc_law.nd (pi_range1 rfl T.range (pa_cons (pe_callB (call_max2 rfl) (by rfl) T.max (by decide +kernel) (pa_cons pe_int (pa_cons (pe_callB (call_min2 rfl) (by rfl) T.min (by decide +kernel) (pa_cons (pe_callB call_len_seq (by rfl) T.len (by decide +kernel) (pa_cons (pv 0) pa_nil)) (pa_cons pe_int pa_nil))) pa_nil))) pa_nil)) (blkOk_by (own := [("_law_turn", 1)]) (N := ["_law_script", "_law_turn"]) (sc := defScope s_law) (by decide +kernel)) (fun _ _ _ _ _ => (pg_name (i := 1) sc_law.nd rfl (Or.inl rfl))) (fun _ _ _ _ _ => pts_nil) (fun _ _ _ _ _ => (pe_go C_lawdrawnright (hr.mono (by decide)) rfl (pa_cons (pe_go C_lawwell (hr.mono (by decide)) rfl (pa_cons (pv 0) (pa_cons (pv 1) pa_nil))) pa_nil)))) pa_nil))))), ?_⟩
    refine ⟨_, rfl, a, ns, rfl, hS, hlen, fun H1 e1 => ⟨_, rfl, iteF ?_⟩⟩
    have hS1 := e1.seq hS
    refine ⟨_, rfl, a, _, rfl, .inl hS1, _, _, rfl, _, _, rfl, ?_⟩
    generalize hn : (if (if (3 : Int) < ((ns.map V.int).length : Int) then (3 : Int) else ((ns.map V.int).length : Int)) > 2 then (if (3 : Int) < ((ns.map V.int).length : Int) then (3 : Int) else ((ns.map V.int).length : Int)) else 2) = n
    have hn2 : 0 ≤ n ∧ n ≤ 3 := by
      rw [← hn]
      split <;> (try split) <;> omega
    refine ⟨n, rfl, by omega, by omega, fun D hD => ?_⟩
    refine lc_range (lo := 0) (n := n.toNat) (fun i H' => Same H1 H' ∧ ∃ bs : List Bool, H' D = some (.lst (bs.map V.bl)) ∧ bs.length = i ∧ ∀ b ∈ bs, b = true) ⟨same_new hD, [], upd_same, rfl, fun _ h => nomatch h⟩ (fun i H' hi z => ?_) (fun H' z => ?_)
    · obtain ⟨e2, bs, hD2, hbl, hb⟩ := z
      refine ⟨rfl, _, rfl, _, rfl, a, ns, i, congrArg (fun z => [V.ref a, V.int z]) (Int.zero_add _), e2.seq hS1, fun p H3 e3 hp hw3 => ?_⟩
      refine ⟨p, rfl, hw3, fun H4 e4 => ?_⟩
      have f4 := same_but e3 hp e4
      refine ⟨bs.map V.bl, f4 _ _ hD2, by rw [List.length_map, hbl]; exact Nat.lt_of_lt_of_le hi (Nat.le_trans (show n.toNat ≤ 3 by omega) (by decide)), same_mut (e2.trans f4) hD, bs ++ [true], ?_, ?_, fun b hb2 => ?_⟩
      · rw [upd_same, List.map_append]; rfl
      · rw [List.length_append, hbl]; rfl
      · rcases List.mem_append.mp hb2 with z | z
        · exact hb b z
        · exact List.mem_singleton.mp z
    · obtain ⟨e2, bs, hD2, hbl, hb⟩ := z
      refine ⟨D, bs, rfl, SqL.of hD2, ?_⟩
      have : bs.all id = true := List.all_eq_true.mpr fun b hb2 => hb b hb2
      rw [this]
      exact q _
end
end Gr

set_option maxHeartbeats 0
namespace Gr
open PySem PySem.Spec PyProof.Rows L2
theorem facts {P : Program} {w : World} {K : PySem.W.Frag} {h : Heap} {mg : Str → Option Value} {f : Addr} (X : K.In h) (G : h.Ns mainGlobals mg) (hfa : mg ("law" : Str) = some (.ref f)) (c : He.SaysD faAll fnAll K) :
    ∃ fd : FuncData, (∀ u : Value, bindArgs fd ⟨[u], []⟩ = pure [(("_law_script" : Str), u)]) ∧ ∀ base : Heap, K.In base → base.Ns mainGlobals mg → FnG P w K mg base 11 f fd ["_law_script"] (pr_law K) := by
  obtain ⟨fd0, F0⟩ := c.def_ 0 (d := d_iswhole) rfl
  replace F0 : FnP K "is_whole" s_iswhole _ fd0 := F0
  have g0 := He.glo_ok X G (c.fact 0 (f := .glo "is_whole") rfl)
  obtain ⟨fd1, F1⟩ := c.def_ 1 (d := d_isbetween) rfl
  replace F1 : FnP K "is_between" s_isbetween _ fd1 := F1
  have g1 := He.glo_ok X G (c.fact 1 (f := .glo "is_between") rfl)
  obtain ⟨fd2, F2⟩ := c.def_ 2 (d := d_isfrom) rfl
  replace F2 : FnP K "is_from" s_isfrom _ fd2 := F2
  have g2 := He.glo_ok X G (c.fact 2 (f := .glo "is_from") rfl)
  obtain ⟨fd3, F3⟩ := c.def_ 3 (d := d_istupleupto) rfl
  replace F3 : FnP K "is_tuple_up_to" s_istupleupto _ fd3 := F3
  have g3 := He.glo_ok X G (c.fact 3 (f := .glo "is_tuple_up_to") rfl)
  obtain ⟨fd4, F4⟩ := c.def_ 4 (d := d_islimit) rfl
  replace F4 : FnP K "is_limit" s_islimit _ fd4 := F4
  have g4 := He.glo_ok X G (c.fact 4 (f := .glo "is_limit") rfl)
  obtain ⟨fd5, F5⟩ := c.def_ 5 (d := d_arelimits) rfl
  replace F5 : FnP K "are_limits" s_arelimits _ fd5 := F5
  have g5 := He.glo_ok X G (c.fact 5 (f := .glo "are_limits") rfl)
  obtain ⟨fd6, F6⟩ := c.def_ 6 (d := d_arehours) rfl
  replace F6 : FnP K "are_hours" s_arehours _ fd6 := F6
  have g6 := He.glo_ok X G (c.fact 6 (f := .glo "are_hours") rfl)
  obtain ⟨fd7, F7⟩ := c.def_ 7 (d := d_isrulespair) rfl
  replace F7 : FnP K "is_rules_pair" s_isrulespair _ fd7 := F7
  have g7 := He.glo_ok X G (c.fact 7 (f := .glo "is_rules_pair") rfl)
  obtain ⟨fd8, F8⟩ := c.def_ 8 (d := d_isopenat) rfl
  replace F8 : FnP K "is_open_at" s_isopenat _ fd8 := F8
  have g8 := He.glo_ok X G (c.fact 8 (f := .glo "is_open_at") rfl)
  obtain ⟨fd9, F9⟩ := c.def_ 9 (d := d_iscrowded) rfl
  replace F9 : FnP K "is_crowded" s_iscrowded _ fd9 := F9
  have g9 := He.glo_ok X G (c.fact 9 (f := .glo "is_crowded") rfl)
  obtain ⟨fd10, F10⟩ := c.def_ 10 (d := d_firstwrongby) rfl
  replace F10 : FnP K "first_wrong_by" s_firstwrongby _ fd10 := F10
  have g10 := He.glo_ok X G (c.fact 10 (f := .glo "first_wrong_by") rfl)
  obtain ⟨fd11, F11⟩ := c.def_ 11 (d := d_ispoliteby) rfl
  replace F11 : FnP K "is_polite_by" s_ispoliteby _ fd11 := F11
  have g11 := He.glo_ok X G (c.fact 11 (f := .glo "is_polite_by") rfl)
  obtain ⟨fd12, F12⟩ := c.def_ 12 (d := d_checkmoment) rfl
  replace F12 : FnP K "check_moment" s_checkmoment _ fd12 := F12
  have g12 := He.glo_ok X G (c.fact 12 (f := .glo "check_moment") rfl)
  obtain ⟨fd13, F13⟩ := c.def_ 13 (d := d_checkhours) rfl
  replace F13 : FnP K "check_hours" s_checkhours _ fd13 := F13
  have g13 := He.glo_ok X G (c.fact 13 (f := .glo "check_hours") rfl)
  obtain ⟨fd14, F14⟩ := c.def_ 14 (d := d_aresomerules) rfl
  replace F14 : FnP K "are_some_rules" s_aresomerules _ fd14 := F14
  have g14 := He.glo_ok X G (c.fact 14 (f := .glo "are_some_rules") rfl)
  obtain ⟨fd15, F15⟩ := c.def_ 15 (d := d_checkrules) rfl
  replace F15 : FnP K "check_rules" s_checkrules _ fd15 := F15
  have g15 := He.glo_ok X G (c.fact 15 (f := .glo "check_rules") rfl)
  obtain ⟨fd16, F16⟩ := c.def_ 16 (d := d_checkasks) rfl
  replace F16 : FnP K "check_asks" s_checkasks _ fd16 := F16
  have g16 := He.glo_ok X G (c.fact 16 (f := .glo "check_asks") rfl)
  obtain ⟨fd17, F17⟩ := c.def_ 17 (d := d_checkpolite) rfl
  replace F17 : FnP K "check_polite" s_checkpolite _ fd17 := F17
  have g17 := He.glo_ok X G (c.fact 17 (f := .glo "check_polite") rfl)
  obtain ⟨fd18, F18⟩ := c.def_ 18 (d := d_isopen) rfl
  replace F18 : FnP K "is_open" s_isopen _ fd18 := F18
  have g18 := He.glo_ok X G (c.fact 18 (f := .glo "is_open") rfl)
  obtain ⟨fd19, F19⟩ := c.def_ 19 (d := d_ispolite) rfl
  replace F19 : FnP K "is_polite" s_ispolite _ fd19 := F19
  have g19 := He.glo_ok X G (c.fact 19 (f := .glo "is_polite") rfl)
  obtain ⟨fd20, F20⟩ := c.def_ 20 (d := d_firstwrong) rfl
  replace F20 : FnP K "first_wrong" s_firstwrong _ fd20 := F20
  have g20 := He.glo_ok X G (c.fact 20 (f := .glo "first_wrong") rfl)
  obtain ⟨fd21, F21⟩ := c.def_ 21 (d := d_mayask) rfl
  replace F21 : FnP K "may_ask" s_mayask _ fd21 := F21
  have g21 := He.glo_ok X G (c.fact 21 (f := .glo "may_ask") rfl)
  obtain ⟨fd22, F22⟩ := c.def_ 22 (d := d_lawwell) rfl
  replace F22 : FnP K "_law_well" s_lawwell _ fd22 := F22
  have g22 := He.glo_ok X G (c.fact 22 (f := .glo "_law_well") rfl)
  obtain ⟨fd23, F23⟩ := c.def_ 23 (d := d_lawpick) rfl
  replace F23 : FnP K "_law_pick" s_lawpick _ fd23 := F23
  have g23 := He.glo_ok X G (c.fact 23 (f := .glo "_law_pick") rfl)
  obtain ⟨fd24, F24⟩ := c.def_ 24 (d := d_lawone) rfl
  replace F24 : FnP K "_law_one" s_lawone _ fd24 := F24
  have g24 := He.glo_ok X G (c.fact 24 (f := .glo "_law_one") rfl)
  obtain ⟨fd25, F25⟩ := c.def_ 25 (d := d_lawopen) rfl
  replace F25 : FnP K "_law_open" s_lawopen _ fd25 := F25
  have g25 := He.glo_ok X G (c.fact 25 (f := .glo "_law_open") rfl)
  obtain ⟨fd26, F26⟩ := c.def_ 26 (d := d_lawwrongat) rfl
  replace F26 : FnP K "_law_wrong_at" s_lawwrongat _ fd26 := F26
  have g26 := He.glo_ok X G (c.fact 26 (f := .glo "_law_wrong_at") rfl)
  obtain ⟨fd27, F27⟩ := c.def_ 27 (d := d_lawsoonest) rfl
  replace F27 : FnP K "_law_soonest" s_lawsoonest _ fd27 := F27
  have g27 := He.glo_ok X G (c.fact 27 (f := .glo "_law_soonest") rfl)
  obtain ⟨fd28, F28⟩ := c.def_ 28 (d := d_lawsomelimits) rfl
  replace F28 : FnP K "_law_some_limits" s_lawsomelimits _ fd28 := F28
  have g28 := He.glo_ok X G (c.fact 28 (f := .glo "_law_some_limits") rfl)
  obtain ⟨fd29, F29⟩ := c.def_ 29 (d := d_lawsomehours) rfl
  replace F29 : FnP K "_law_some_hours" s_lawsomehours _ fd29 := F29
  have g29 := He.glo_ok X G (c.fact 29 (f := .glo "_law_some_hours") rfl)
  obtain ⟨fd30, F30⟩ := c.def_ 30 (d := d_lawsomerow) rfl
  replace F30 : FnP K "_law_some_row" s_lawsomerow _ fd30 := F30
  have g30 := He.glo_ok X G (c.fact 30 (f := .glo "_law_some_row") rfl)
  obtain ⟨fd31, F31⟩ := c.def_ 31 (d := d_lawcounted) rfl
  replace F31 : FnP K "_law_counted" s_lawcounted _ fd31 := F31
  have g31 := He.glo_ok X G (c.fact 31 (f := .glo "_law_counted") rfl)
  obtain ⟨fd32, F32⟩ := c.def_ 32 (d := d_lawrowright) rfl
  replace F32 : FnP K "_law_row_right" s_lawrowright _ fd32 := F32
  have g32 := He.glo_ok X G (c.fact 32 (f := .glo "_law_row_right") rfl)
  obtain ⟨fd33, F33⟩ := c.def_ 33 (d := d_lawdrawnright) rfl
  replace F33 : FnP K "_law_drawn_right" s_lawdrawnright _ fd33 := F33
  have g33 := He.glo_ok X G (c.fact 33 (f := .glo "_law_drawn_right") rfl)
  obtain ⟨fd34, F34⟩ := c.def_ 34 (d := d_lawcellsright) rfl
  replace F34 : FnP K "_law_cells_right" s_lawcellsright _ fd34 := F34
  have g34 := He.glo_ok X G (c.fact 34 (f := .glo "_law_cells_right") rfl)
  obtain ⟨fd35, F35⟩ := c.def_ 35 (d := d_law) rfl
  replace F35 : FnP K "law" s_law _ fd35 := F35
  have g35 := He.glo_ok X G (c.fact 35 (f := .glo "law") rfl)
  have T : Txt mg := ⟨He.free_ok X G (c.fact 36 (f := .free "isinstance") rfl), He.free_ok X G (c.fact 37 (f := .free "int") rfl), He.free_ok X G (c.fact 38 (f := .free "bool") rfl), He.free_ok X G (c.fact 39 (f := .free "tuple") rfl), He.free_ok X G (c.fact 40 (f := .free "len") rfl), He.free_ok X G (c.fact 41 (f := .free "all") rfl), He.free_ok X G (c.fact 42 (f := .free "any") rfl), He.free_ok X G (c.fact 43 (f := .free "enumerate") rfl), He.free_ok X G (c.fact 44 (f := .free "abs") rfl), He.free_ok X G (c.fact 45 (f := .free "divmod") rfl), He.free_ok X G (c.fact 46 (f := .free "list") rfl), He.free_ok X G (c.fact 47 (f := .free "range") rfl), He.free_ok X G (c.fact 48 (f := .free "max") rfl), He.free_ok X G (c.fact 49 (f := .free "min") rfl), He.free_ok X G (c.fact 50 (f := .free "sum") rfl), He.free_ok X G (c.fact 51 (f := .free "repr") rfl), He.free_ok X G (c.fact 52 (f := .free "sorted") rfl), He.int_ok X G (c.fact 53 (f := .int "MOST_LIMITS" 4) rfl), He.int_ok X G (c.fact 54 (f := .int "MOST_ASKS" 6) rfl), He.int_ok X G (c.fact 55 (f := .int "MOST_MOMENTS" 12) rfl), He.int_ok X G (c.fact 56 (f := .int "MOST_HOURS" 12) rfl), He.int_ok X G (c.fact 57 (f := .int "MOST_ROW" 200) rfl)⟩
  have e := hfa.symm.trans g35
  cases e
  refine ⟨fd35, fun u => (FnP.bd (ps := ["_law_script"]) F35 fun _ _ _ _ _ _ us hl => match us, hl with | [_], _ => rfl) [u] rfl, fun base _ _ => ?_⟩
  have C_iswhole : Cal P w K mg base "is_whole" s_iswhole 1 ["value"] (pr_iswhole) := ⟨⟨_, fd0, ok_iswhole F0 T, F0, g0, (FnP.bd (ps := ["value"]) F0 fun _ _ _ _ _ _ us hl => match us, hl with | [_], _ => rfl)⟩⟩
  have C_istupleupto : Cal P w K mg base "is_tuple_up_to" s_istupleupto 1 ["value", "low", "high"] (pr_istupleupto K) := ⟨⟨_, fd3, ok_istupleupto F3 T, F3, g3, (FnP.bd (ps := ["value", "low", "high"]) F3 fun _ _ _ _ _ _ us hl => match us, hl with | [_, _, _], _ => rfl)⟩⟩
  have C_isopenat : Cal P w K mg base "is_open_at" s_isopenat 1 ["hours", "moment"] (pr_isopenat K) := ⟨⟨_, fd8, ok_isopenat F8 T, F8, g8, (FnP.bd (ps := ["hours", "moment"]) F8 fun _ _ _ _ _ _ us hl => match us, hl with | [_, _], _ => rfl)⟩⟩
  have C_iscrowded : Cal P w K mg base "is_crowded" s_iscrowded 1 ["limits", "asks", "index"] (pr_iscrowded K) := ⟨⟨_, fd9, ok_iscrowded F9 T, F9, g9, (FnP.bd (ps := ["limits", "asks", "index"]) F9 fun _ _ _ _ _ _ us hl => match us, hl with | [_, _, _], _ => rfl)⟩⟩
  have C_lawwell : Cal P w K mg base "_law_well" s_lawwell 1 ["_law_script", "_law_turn"] (pr_lawwell K) := ⟨⟨_, fd22, ok_lawwell F22 T, F22, g22, (FnP.bd (ps := ["_law_script", "_law_turn"]) F22 fun _ _ _ _ _ _ us hl => match us, hl with | [_, _], _ => rfl)⟩⟩
  have C_lawpick : Cal P w K mg base "_law_pick" s_lawpick 1 ["_law_well_here", "_law_top"] (pr_lawpick) := ⟨⟨_, fd23, ok_lawpick F23 T, F23, g23, (FnP.bd (ps := ["_law_well_here", "_law_top"]) F23 fun _ _ _ _ _ _ us hl => match us, hl with | [_, _], _ => rfl)⟩⟩
  have C_lawopen : Cal P w K mg base "_law_open" s_lawopen 1 ["_law_clock", "_law_time"] (pr_lawopen K) := ⟨⟨_, fd25, ok_lawopen F25 T, F25, g25, (FnP.bd (ps := ["_law_clock", "_law_time"]) F25 fun _ _ _ _ _ _ us hl => match us, hl with | [_, _], _ => rfl)⟩⟩
  have C_lawcounted : Cal P w K mg base "_law_counted" s_lawcounted 1 ["_law_pairs", "_law_clock", "_law_row"] (pr_lawcounted K) := ⟨⟨_, fd31, ok_lawcounted F31 T, F31, g31, (FnP.bd (ps := ["_law_pairs", "_law_clock", "_law_row"]) F31 fun _ _ _ _ _ _ us hl => match us, hl with | [_, _, _], _ => rfl)⟩⟩
  have C_isbetween : Cal P w K mg base "is_between" s_isbetween 2 ["value", "low", "high"] (pr_isbetween) := ⟨⟨_, fd1, ok_isbetween F1 T C_iswhole, F1, g1, (FnP.bd (ps := ["value", "low", "high"]) F1 fun _ _ _ _ _ _ us hl => match us, hl with | [_, _, _], _ => rfl)⟩⟩
  have C_isfrom : Cal P w K mg base "is_from" s_isfrom 2 ["value", "low"] (pr_isfrom) := ⟨⟨_, fd2, ok_isfrom F2 T C_iswhole, F2, g2, (FnP.bd (ps := ["value", "low"]) F2 fun _ _ _ _ _ _ us hl => match us, hl with | [_, _], _ => rfl)⟩⟩
  have C_firstwrongby : Cal P w K mg base "first_wrong_by" s_firstwrongby 2 ["rules", "asks"] (pr_firstwrongby K) := ⟨⟨_, fd10, ok_firstwrongby F10 T C_iscrowded C_isopenat, F10, g10, (FnP.bd (ps := ["rules", "asks"]) F10 fun _ _ _ _ _ _ us hl => match us, hl with | [_, _], _ => rfl)⟩⟩
  have C_lawone : Cal P w K mg base "_law_one" s_lawone 2 ["_law_well_here", "_law_some"] (pr_lawone) := ⟨⟨_, fd24, ok_lawone F24 T C_lawpick, F24, g24, (FnP.bd (ps := ["_law_well_here", "_law_some"]) F24 fun _ _ _ _ _ _ us hl => match us, hl with | [_, _], _ => rfl)⟩⟩
  have C_lawwrongat : Cal P w K mg base "_law_wrong_at" s_lawwrongat 2 ["_law_pairs", "_law_clock", "_law_row"] (pr_lawwrongat K) := ⟨⟨_, fd26, ok_lawwrongat F26 T C_lawopen, F26, g26, (FnP.bd (ps := ["_law_pairs", "_law_clock", "_law_row"]) F26 fun _ _ _ _ _ _ us hl => match us, hl with | [_, _, _], _ => rfl)⟩⟩
  have C_lawsoonest : Cal P w K mg base "_law_soonest" s_lawsoonest 2 ["_law_pairs", "_law_clock", "_law_row", "_law_number", "_law_start"] (pr_lawsoonest K) := ⟨⟨_, fd27, ok_lawsoonest F27 T C_lawopen, F27, g27, (FnP.bd (ps := ["_law_pairs", "_law_clock", "_law_row", "_law_number", "_law_start"]) F27 fun _ _ _ _ _ _ us hl => match us, hl with | [_, _, _, _, _], _ => rfl)⟩⟩
  have C_islimit : Cal P w K mg base "is_limit" s_islimit 3 ["value"] (pr_islimit K) := ⟨⟨_, fd4, ok_islimit F4 T C_istupleupto C_isbetween, F4, g4, (FnP.bd (ps := ["value"]) F4 fun _ _ _ _ _ _ us hl => match us, hl with | [_], _ => rfl)⟩⟩
  have C_arehours : Cal P w K mg base "are_hours" s_arehours 3 ["value"] (pr_arehours K) := ⟨⟨_, fd6, ok_arehours F6 T C_istupleupto C_isbetween, F6, g6, (FnP.bd (ps := ["value"]) F6 fun _ _ _ _ _ _ us hl => match us, hl with | [_], _ => rfl)⟩⟩
  have C_ispoliteby : Cal P w K mg base "is_polite_by" s_ispoliteby 3 ["rules", "asks"] (pr_ispoliteby K) := ⟨⟨_, fd11, ok_ispoliteby F11 T C_firstwrongby, F11, g11, (FnP.bd (ps := ["rules", "asks"]) F11 fun _ _ _ _ _ _ us hl => match us, hl with | [_, _], _ => rfl)⟩⟩
  have C_checkmoment : Cal P w K mg base "check_moment" s_checkmoment 3 ["value"] (pr_checkmoment) := ⟨⟨_, fd12, ok_checkmoment F12 T C_isfrom, F12, g12, (FnP.bd (ps := ["value"]) F12 fun _ _ _ _ _ _ us hl => match us, hl with | [_], _ => rfl)⟩⟩
  have C_checkasks : Cal P w K mg base "check_asks" s_checkasks 3 ["value"] (pr_checkasks K) := ⟨⟨_, fd16, ok_checkasks F16 T C_istupleupto C_isfrom, F16, g16, (FnP.bd (ps := ["value"]) F16 fun _ _ _ _ _ _ us hl => match us, hl with | [_], _ => rfl)⟩⟩
  have C_checkpolite : Cal P w K mg base "check_polite" s_checkpolite 3 ["rules", "asks"] (pr_checkpolite K) := ⟨⟨_, fd17, ok_checkpolite F17 T C_firstwrongby, F17, g17, (FnP.bd (ps := ["rules", "asks"]) F17 fun _ _ _ _ _ _ us hl => match us, hl with | [_, _], _ => rfl)⟩⟩
  have C_lawsomelimits : Cal P w K mg base "_law_some_limits" s_lawsomelimits 3 ["_law_well_here", "_law_top", "_law_width"] (pr_lawsomelimits K) := ⟨⟨_, fd28, ok_lawsomelimits F28 T C_lawone C_lawpick, F28, g28, (FnP.bd (ps := ["_law_well_here", "_law_top", "_law_width"]) F28 fun _ _ _ _ _ _ us hl => match us, hl with | [_, _, _], _ => rfl)⟩⟩
  have C_lawsomehours : Cal P w K mg base "_law_some_hours" s_lawsomehours 3 ["_law_well_here", "_law_top"] (pr_lawsomehours) := ⟨⟨_, fd29, ok_lawsomehours F29 T C_lawone C_lawpick, F29, g29, (FnP.bd (ps := ["_law_well_here", "_law_top"]) F29 fun _ _ _ _ _ _ us hl => match us, hl with | [_, _], _ => rfl)⟩⟩
  have C_lawsomerow : Cal P w K mg base "_law_some_row" s_lawsomerow 3 ["_law_well_here", "_law_pairs", "_law_clock", "_law_number", "_law_top"] (pr_lawsomerow K) := ⟨⟨_, fd30, ok_lawsomerow F30 T C_lawone C_lawsoonest C_lawpick, F30, g30, (FnP.bd (ps := ["_law_well_here", "_law_pairs", "_law_clock", "_law_number", "_law_top"]) F30 fun _ _ _ _ _ _ us hl => match us, hl with | [_, _, _, _, _], _ => rfl)⟩⟩
  have C_arelimits : Cal P w K mg base "are_limits" s_arelimits 4 ["value"] (pr_arelimits K) := ⟨⟨_, fd5, ok_arelimits F5 T C_istupleupto C_islimit, F5, g5, (FnP.bd (ps := ["value"]) F5 fun _ _ _ _ _ _ us hl => match us, hl with | [_], _ => rfl)⟩⟩
  have C_checkhours : Cal P w K mg base "check_hours" s_checkhours 4 ["value"] (pr_checkhours K) := ⟨⟨_, fd13, ok_checkhours F13 T C_arehours, F13, g13, (FnP.bd (ps := ["value"]) F13 fun _ _ _ _ _ _ us hl => match us, hl with | [_], _ => rfl)⟩⟩
  have C_isrulespair : Cal P w K mg base "is_rules_pair" s_isrulespair 5 ["limits", "hours"] (pr_isrulespair K) := ⟨⟨_, fd7, ok_isrulespair F7 T C_arelimits C_arehours, F7, g7, (FnP.bd (ps := ["limits", "hours"]) F7 fun _ _ _ _ _ _ us hl => match us, hl with | [_, _], _ => rfl)⟩⟩
  have C_isopen : Cal P w K mg base "is_open" s_isopen 5 ["hours", "moment"] (pr_isopen K) := ⟨⟨_, fd18, ok_isopen F18 T C_checkhours C_checkmoment C_isopenat, F18, g18, (FnP.bd (ps := ["hours", "moment"]) F18 fun _ _ _ _ _ _ us hl => match us, hl with | [_, _], _ => rfl)⟩⟩
  have C_aresomerules : Cal P w K mg base "are_some_rules" s_aresomerules 6 ["value"] (pr_aresomerules K) := ⟨⟨_, fd14, ok_aresomerules F14 T C_istupleupto C_isrulespair, F14, g14, (FnP.bd (ps := ["value"]) F14 fun _ _ _ _ _ _ us hl => match us, hl with | [_], _ => rfl)⟩⟩
  have C_checkrules : Cal P w K mg base "check_rules" s_checkrules 7 ["value"] (pr_checkrules K) := ⟨⟨_, fd15, ok_checkrules F15 T C_aresomerules, F15, g15, (FnP.bd (ps := ["value"]) F15 fun _ _ _ _ _ _ us hl => match us, hl with | [_], _ => rfl)⟩⟩
  have C_ispolite : Cal P w K mg base "is_polite" s_ispolite 8 ["rules", "asks"] (pr_ispolite K) := ⟨⟨_, fd19, ok_ispolite F19 T C_checkrules C_checkasks C_ispoliteby, F19, g19, (FnP.bd (ps := ["rules", "asks"]) F19 fun _ _ _ _ _ _ us hl => match us, hl with | [_, _], _ => rfl)⟩⟩
  have C_firstwrong : Cal P w K mg base "first_wrong" s_firstwrong 8 ["rules", "asks"] (pr_firstwrong K) := ⟨⟨_, fd20, ok_firstwrong F20 T C_checkrules C_checkasks C_firstwrongby, F20, g20, (FnP.bd (ps := ["rules", "asks"]) F20 fun _ _ _ _ _ _ us hl => match us, hl with | [_, _], _ => rfl)⟩⟩
  have C_mayask : Cal P w K mg base "may_ask" s_mayask 8 ["rules", "asks", "moment"] (pr_mayask K) := ⟨⟨_, fd21, ok_mayask F21 T C_checkrules C_checkasks C_checkmoment C_checkpolite C_ispoliteby, F21, g21, (FnP.bd (ps := ["rules", "asks", "moment"]) F21 fun _ _ _ _ _ _ us hl => match us, hl with | [_, _, _], _ => rfl)⟩⟩
  have C_lawrowright : Cal P w K mg base "_law_row_right" s_lawrowright 9 ["_law_pairs", "_law_clock", "_law_row"] (pr_lawrowright K) := ⟨⟨_, fd32, ok_lawrowright F32 T C_lawcounted C_ispolite C_firstwrong C_mayask, F32, g32, (FnP.bd (ps := ["_law_pairs", "_law_clock", "_law_row"]) F32 fun _ _ _ _ _ _ us hl => match us, hl with | [_, _, _], _ => rfl)⟩⟩
  have C_lawdrawnright : Cal P w K mg base "_law_drawn_right" s_lawdrawnright 10 ["_law_well_here"] (pr_lawdrawnright) := ⟨⟨_, fd33, ok_lawdrawnright F33 T C_lawsomerow C_lawpick C_lawsomelimits C_lawsomehours C_lawrowright C_firstwrong C_lawwrongat C_ispolite C_isopen C_lawopen C_lawone, F33, g33, (FnP.bd (ps := ["_law_well_here"]) F33 fun _ _ _ _ _ _ us hl => match us, hl with | [_], _ => rfl)⟩⟩
  have C_lawcellsright : Cal P w K mg base "_law_cells_right" s_lawcellsright 10 ["_law_script"] (pr_lawcellsright K) := ⟨⟨_, fd34, ok_lawcellsright F34 T C_lawone C_lawrowright C_lawwell C_lawsomelimits C_lawsomehours C_lawpick, F34, g34, (FnP.bd (ps := ["_law_script"]) F34 fun _ _ _ _ _ _ us hl => match us, hl with | [_], _ => rfl)⟩⟩
  exact ok_law F35 T C_lawcellsright C_lawdrawnright C_lawwell
end Gr

set_option maxHeartbeats 0
open PySem PySem.W PySem.Calls PyProof.Rows
theorem PySem.Challenge.cw_gentlerounds_k10_whole_polite_by_countin_holds : PySem.Challenge.rw_gentlerounds_k10_whole_polite_by_countin.Holds := by
  w_on; o_law
  refine HandSHeadRun.head_any (r := OpenLaw.row PySem.Challenge.rw_gentlerounds_k10_whole_polite_by_countin) (q := view (OpenLaw.row PySem.Challenge.rw_gentlerounds_k10_whole_polite_by_countin).prog [52]) (H := Gr.hk) (ob := Gr.ob) (M := 4000) (loose := Gr.nmAll) (d := HandSHeadRun.topDef (OpenLaw.row PySem.Challenge.rw_gentlerounds_k10_whole_polite_by_countin).prog 52) (kwd := []) Gr.ob_eq
    (by kernel_rfl) (fun s => by kernel_rfl) Gr.run (by kernel_rfl) (by kernel_rfl) (by kernel_rfl) (by rfl) (by first | assumption | decide +kernel) (by decide +kernel) ⟨rfl, rfl, rfl, rfl, rfl, by decide +kernel⟩ ?hw ?hc
  case hw => w_witness2
  case hc =>
    refine Gr.walk_go (l := PySem.Challenge.rw_gentlerounds_k10_whole_polite_by_countin) (n := 63) (k := 11) (x := "_law_script") rfl (by decide) (by kernel_rfl) ⟨⟨rfl, by decide, by decide⟩, rfl⟩ ?F
    intro w mg fa h Y G hmg0
    obtain ⟨K, KX, c⟩ := Y
    have hmg : mg ("law" : PySem.Str) = some (.ref fa) := by
      have e : (HandSHeadRun.topDef (OpenLaw.row PySem.Challenge.rw_gentlerounds_k10_whole_polite_by_countin).prog 52).name = ("law" : PySem.Str) := by kernel_rfl
      rw [← e]
      exact hmg0
    obtain ⟨fd, hb, hF⟩ := Gr.facts (P := (PySem.Challenge.rw_gentlerounds_k10_whole_polite_by_countin).prog) (w := w) KX G hmg c
    exact ⟨K, fd, Gr.pr_law K, KX, hb, fun H a ns hl hS => ⟨a, ns, rfl, hS, hl, fun _ => rfl⟩, hF⟩

