import PyProof.Rows.All
import Wide.All
import OpenK.AllK
import Wide.FinOn
import HandS.ForMost
import HandS.Evl
import HandS.Walk
import HandS.IsInst
import HandS.TupAny
import HandS.TupLen
import HandS.Zip
import HandS.Style
import HandS.Conv
import HandS.Deep
import HandS.SortOrd
import HandS.DictComp
import HandS.SetKeys
import HandS.Flt
import KE.GoesNew
import KE.GoesMore
import KE.KDictCopyH
import PyProof.DictMoreH
import HandS.Sort
import KE.DataFind
import PyProof.P3Eq
import PySem.Challenge.RW_twotides_k78_whole_longest_plays
set_option Elab.async false
set_option linter.all false
set_option maxRecDepth 100000
set_option maxHeartbeats 4000000
/-! The layer of this claim: promises, what readings evaluate to, comprehensions and loops over any walk. -/
namespace TW
open PySem PySem.Spec PyProof.Rows L2 Evl

/-- the i-th statement of the text's top -/
def topS (i : Nat) : Stmt := PySem.Challenge.pw_twotides_k78_whole_longest_plays.main.body.getD i (.Pass ⟨0, 0, 0, 0⟩)

section
variable {P : Program} {w : World} {K : PySem.W.Frag} {mg : Str → Option Value} {base : Heap}
/-- a def of the top as the module's name tells it -/
structure DefAt (K : PySem.W.Frag) (mg : Str → Option Value) (x : Str) (st : Stmt) (ps : List Str) : Prop where
  ex : ∃ (f : Addr) (fd : FuncData), mg x = some (.ref f) ∧ Fun K x x st f fd ∧ Binds K fd ps []
/-- such a def keeps a promise -/
def Has (P : Program) (w : World) (K : PySem.W.Frag) (mg : Str → Option Value) (base : Heap) (k : Nat) (x : Str) (ps : List Str) (sp : Sp) : Prop :=
  ∃ (f : Addr) (fd : FuncData), mg x = some (.ref f) ∧ PySem.W.keepIn K (.ref f) = true ∧ Binds K fd ps [] ∧ FnOk P w K mg base CX0 k f fd ps sp
theorem DefAt.has {x : Str} {st : Stmt} {ps N : List Str} {k : Nat} {sp : Sp} (D : DefAt K mg x st ps) (S : FnScope N ps (defScope st)) (len : ∀ vs H Q E, sp vs H Q E → vs.length = ps.length)
    (hbody : ∀ (f : Addr) (cdv : Value) (A : Around) (outer : List Env) (s : Shared) (H : Hp) (vs : List V) (Q : VK) (E : XK), Room k (A.deeper (envOfC x (defScope st) s.heap.objs.size f cdv)) → sp vs H Q E →
      ∃ t, PSs (cxOf CX0 P w K mg base N x (defScope st) f cdv A outer s H E).nox (defBody st) t ∧ t { nx := fun _ H' => Q .non H', rt := Q } (start N vs) H) : Has P w K mg base (k + 1) x ps sp := by
  obtain ⟨f, fd, hm, hF, hb⟩ := D.ex
  exact ⟨f, fd, hm, hF.kp, hb, hF.ok S len (fun cdv A outer s H vs Q E hr h => hbody f cdv A outer s H vs Q E hr h)⟩
theorem pe_fn {X : Cx} {k : Nat} {x : Str} {ps : List Str} {sp : Sp} {e : Expr} {es : List Expr} {t : TA} {p pos : Pos} (F : Has X.prog X.w X.K X.mg X.base k x ps sp) (hr : Room k X.A) (hg : Gl X x) (ha : PA X (e :: es) t)
    (hdb : (x == ("__debug__" : Str)) = false := by decide) (he : starEach (e :: es) X.env = (false, eval e X.env) :: starEach es X.env := by rfl) (hpl : (backTo pos (starEach es X.env)).any (·.1) = false := by rfl) :
    PE X (.Call (.Name x p) (e :: es) [] pos) (tCall sp [] E0 t) := by
  obtain ⟨f, fd, hm, hk, hb, FF⟩ := F
  exact pe_call FF hr hg hm hk hb .nil pass0 ha hdb he hpl
theorem pe_gint {X : Cx} {x : Str} {i : Int} {pos : Pos} (hm : ∃ t, X.mg x = some (.int i t)) (hg : Gl X x) (hd : (x == ("__debug__" : Str)) = false := by decide) : PE X (.Name x pos) (tC (.int i)) := by
  obtain ⟨t, hm⟩ := hm
  exact pe_glob hg hm ⟨t, rfl⟩ hd
end

/-! ### promises -/
/-- called with such arguments it hands back such a value, and lets stand what stood -/
def fsp {α : Type} (pre : α → List V → Hp → Prop) (post : α → V → Hp → Prop) : Sp := fun vs H Q _ => ∃ a, pre a vs H ∧ ∀ v H', Ex H H' → post a v H' → Q v H'
/-- such a value, known -/
def IsV (z : V) : V → Hp → Prop := fun v _ => v = z
/-- a new list, a new tuple -/
def NewL (xs : List V) : V → Hp → Prop := fun v H => ∃ p, v = .ref p ∧ H p = some (.lst xs)
def NewT (xs : List V) : V → Hp → Prop := fun v H => ∃ p, v = .ref p ∧ H p = some (.tup xs)

/-! ### what a reading evaluates to, by a property -/
abbrev VP := V → Hp → Prop
def EvP (te : TE) (σ : L2.St) (H : Hp) (P : VP) : Prop := ∀ H1, Ex H H1 → ∀ Q : VK, (∀ v H2, Ex H1 H2 → P v H2 → Q v H2) → te σ H1 Q
/-- a new object -/
def EvN (te : TE) (σ : L2.St) (H : Hp) (P : Addr → Hp → Prop) : Prop := ∀ H1, Ex H H1 → ∀ Q : VK, (∀ p H2, H1 p = none → Ex H1 H2 → P p H2 → Q (.ref p) H2) → te σ H1 Q
/-- arguments -/
def EvQ (ta : TA) (σ : L2.St) (H : Hp) (P : List V → Hp → Prop) : Prop := ∀ H1, Ex H H1 → ∀ Q : List V → Hp → Prop, (∀ vs H2, Ex H1 H2 → P vs H2 → Q vs H2) → ta σ H1 Q
section
variable {K : PySem.W.Frag} {σ : L2.St} {H H' : Hp} {ta tb te : TE} {t u : TT} {x y z v : V} {r : R2} {P P' : VP}
theorem EvP.mono (h : EvP te σ H P) (e : Ex H H') : EvP te σ H' P := fun H1 a Q q => h H1 (e.trans a) Q q
theorem EvN.mono {P : Addr → Hp → Prop} (h : EvN te σ H P) (e : Ex H H') : EvN te σ H' P := fun H1 a Q q => h H1 (e.trans a) Q q
theorem EvP.imp (h : EvP te σ H P) (k : ∀ v H1, Ex H H1 → P v H1 → P' v H1) : EvP te σ H P' := fun H1 e Q q => h H1 e Q fun v H2 e2 p => q v H2 e2 (k v H2 (e.trans e2) p)
theorem ep_of (h : Ev te σ H v) : EvP te σ H (IsV v) := fun H1 e Q q => h H1 e Q fun H2 e2 => q v H2 e2 rfl
theorem ev_of (h : EvP te σ H (IsV v)) : Ev te σ H v := fun H1 e Q q => h H1 e Q fun v' H2 e2 p => by
  rw [show v' = v from p]
  exact q H2 e2
theorem epL_of {xs : List V} (h : EvL te σ H xs) : EvP te σ H (NewL xs) := fun H1 e Q q => h H1 e Q fun p H2 _ e2 hp => q _ H2 e2 ⟨p, rfl, hp⟩
theorem epU_of {xs : List V} (h : EvU te σ H xs) : EvP te σ H (NewT xs) := fun H1 e Q q => h H1 e Q fun p H2 _ e2 hp => q _ H2 e2 ⟨p, rfl, hp⟩
theorem ep_n {P : Addr → Hp → Prop} (h : EvN te σ H P) : EvP te σ H (fun v H => ∃ p, v = .ref p ∧ P p H) := fun H1 e Q q => h H1 e Q fun p H2 _ e2 hp => q _ H2 e2 ⟨p, rfl, hp⟩
/-- one operand by a property, the other known to a continuation -/
theorem ep_op {Pz : VP} (ha : EvP ta σ H P) (hb : ∀ x H1, Ex H H1 → P x H1 → EvP tb σ H1 fun y H2 => ∀ Q : VK, (∀ z H3, Ex H2 H3 → Pz z H3 → Q z H3) → r x y H2 Q) : EvP (tOp r ta tb) σ H Pz := fun H1 e Q q =>
  ha H1 e _ fun x H2 e2 p2 => hb x H2 (e.trans e2) p2 H2 (Ex.refl H2) _ fun y H3 e3 k => k Q fun z H4 e4 p4 => q z H4 ((e2.trans e3).trans e4) p4
theorem ea_p (h : EvA ta' σ H vs) : EvQ ta' σ H (fun us _ => us = vs) := fun H1 e Q q => h H1 e Q fun H2 e2 => q _ H2 e2 rfl
theorem eq_cons {tr : TA} {Pr : V → List V → Hp → Prop} (h : EvP te σ H P) (hr : ∀ x H1, Ex H H1 → P x H1 → EvQ tr σ H1 (Pr x)) : EvQ (tCons te tr) σ H (fun vs H2 => ∃ x r, vs = x :: r ∧ Pr x r H2) := fun H1 e Q q =>
  h H1 e _ fun x H2 e2 p2 => hr x H2 (e.trans e2) p2 H2 (Ex.refl H2) _ fun rs H3 e3 p3 => q _ H3 (e2.trans e3) ⟨x, rs, rfl, p3⟩
/-- a call of a def that keeps such a promise -/
theorem ep_call {α : Type} {pre : α → List V → Hp → Prop} {post : α → V → Hp → Prop} {E : XK} {ta : TA} {vs : List V} (a : α) (h : EvA ta σ H vs) (hp : ∀ H1, Ex H H1 → pre a vs H1) : EvP (tCall (fsp pre post) [] E ta) σ H (post a) := fun H1 e Q q =>
  h H1 e _ fun H2 e2 => by
    rw [List.append_nil]
    exact ⟨a, hp H2 (e.trans e2), fun v H3 e3 p3 => q v H3 (e2.trans e3) p3⟩
theorem ep_callQ {α : Type} {pre : α → List V → Hp → Prop} {post : α → V → Hp → Prop} {E : XK} {ta : TA} {Pa : List V → Hp → Prop} (a : α) (h : EvQ ta σ H Pa) (hp : ∀ vs H1, Ex H H1 → Pa vs H1 → pre a vs H1) : EvP (tCall (fsp pre post) [] E ta) σ H (post a) := fun H1 e Q q =>
  h H1 e _ fun vs H2 e2 pa => by
    rw [List.append_nil]
    exact ⟨a, hp vs H2 (e.trans e2) pa, fun v H3 e3 p3 => q v H3 (e2.trans e3) p3⟩
theorem ev_callV {α : Type} {pre : α → List V → Hp → Prop} {post : α → V → Hp → Prop} {E : XK} {ta : TA} {vs : List V} (a : α) (h : EvA ta σ H vs) (hp : ∀ H1, Ex H H1 → pre a vs H1) (hz : ∀ v H1, post a v H1 → v = z) : Ev (tCall (fsp pre post) [] E ta) σ H z :=
  ev_of ((ep_call a h hp).imp fun v H1 _ p => hz v H1 p)
end

/-! ### statements, by a property -/
section
variable {σ : L2.St} {H : Hp} {te : TE} {P : VP} {D : Ends} {tz : TS}
theorem p_asg {i : Nat} (h : EvP te σ H P) (k : ∀ v H1, Ex H H1 → P v H1 → tz D (σ.set i (some v)) H1) : tSeq (tAsg te (gName i)) tz D σ H := h H (Ex.refl H) _ fun v H1 e p => k v H1 e p
theorem p_asgN {i : Nat} {P : Addr → Hp → Prop} (h : EvN te σ H P) (k : ∀ p H1, H p = none → Ex H H1 → P p H1 → tz D (σ.set i (some (.ref p))) H1) : tSeq (tAsg te (gName i)) tz D σ H := h H (Ex.refl H) _ fun p H1 n e q => k p H1 n e q
theorem p_ret (h : EvP te σ H P) (k : ∀ v H1, Ex H H1 → P v H1 → D.rt v H1) : tRet te D σ H := h H (Ex.refl H) _ k
theorem p_drop (h : EvP te σ H P) (k : ∀ v H1, Ex H H1 → P v H1 → tz D σ H1) : tSeq (tDrop te) tz D σ H := h H (Ex.refl H) _ k
end
end TW
namespace TW
open PySem PySem.Spec PyProof.Rows L2 Evl
abbrev s_is_integer : Stmt := topS 7
abbrev N_is_integer : List Str := ["thing"]
theorem sc_is_integer : FnScope N_is_integer ["thing"] (defScope s_is_integer) := ⟨rfl, rfl, rfl, by decide +kernel, rfl, by decide +kernel, by decide +kernel⟩
abbrev s_is_between : Stmt := topS 8
abbrev N_is_between : List Str := ["thing", "least", "most"]
theorem sc_is_between : FnScope N_is_between ["thing", "least", "most"] (defScope s_is_between) := ⟨rfl, rfl, rfl, by decide +kernel, rfl, by decide +kernel, by decide +kernel⟩
abbrev s_is_pair : Stmt := topS 9
abbrev N_is_pair : List Str := ["thing"]
theorem sc_is_pair : FnScope N_is_pair ["thing"] (defScope s_is_pair) := ⟨rfl, rfl, rfl, by decide +kernel, rfl, by decide +kernel, by decide +kernel⟩
abbrev s_is_triple : Stmt := topS 10
abbrev N_is_triple : List Str := ["thing"]
theorem sc_is_triple : FnScope N_is_triple ["thing"] (defScope s_is_triple) := ⟨rfl, rfl, rfl, by decide +kernel, rfl, by decide +kernel, by decide +kernel⟩
abbrev s_is_row : Stmt := topS 11
abbrev N_is_row : List Str := ["thing", "many", "item"]
theorem sc_is_row : FnScope N_is_row ["thing", "many"] (defScope s_is_row) := ⟨rfl, rfl, rfl, by decide +kernel, rfl, by decide +kernel, by decide +kernel⟩
abbrev s_is_lot : Stmt := topS 12
abbrev N_is_lot : List Str := ["thing", "many", "last", "item"]
theorem sc_is_lot : FnScope N_is_lot ["thing", "many"] (defScope s_is_lot) := ⟨rfl, rfl, rfl, by decide +kernel, rfl, by decide +kernel, by decide +kernel⟩
abbrev s_divisor : Stmt := topS 14
abbrev N_divisor : List Str := ["one", "other"]
theorem sc_divisor : FnScope N_divisor ["one", "other"] (defScope s_divisor) := ⟨rfl, rfl, rfl, by decide +kernel, rfl, by decide +kernel, by decide +kernel⟩
abbrev s_multiple : Stmt := topS 15
abbrev N_multiple : List Str := ["one", "other"]
theorem sc_multiple : FnScope N_multiple ["one", "other"] (defScope s_multiple) := ⟨rfl, rfl, rfl, by decide +kernel, rfl, by decide +kernel, by decide +kernel⟩
abbrev s_made : Stmt := topS 16
abbrev N_made : List Str := ["top", "bottom", "part"]
theorem sc_made : FnScope N_made ["top", "bottom"] (defScope s_made) := ⟨rfl, rfl, rfl, by decide +kernel, rfl, by decide +kernel, by decide +kernel⟩
abbrev s_is_fraction : Stmt := topS 17
abbrev N_is_fraction : List Str := ["thing"]
theorem sc_is_fraction : FnScope N_is_fraction ["thing"] (defScope s_is_fraction) := ⟨rfl, rfl, rfl, by decide +kernel, rfl, by decide +kernel, by decide +kernel⟩
abbrev s_is_below : Stmt := topS 18
abbrev N_is_below : List Str := ["one", "other"]
theorem sc_is_below : FnScope N_is_below ["one", "other"] (defScope s_is_below) := ⟨rfl, rfl, rfl, by decide +kernel, rfl, by decide +kernel, by decide +kernel⟩
abbrev s_next_whole : Stmt := topS 19
abbrev N_next_whole : List Str := ["one"]
theorem sc_next_whole : FnScope N_next_whole ["one"] (defScope s_next_whole) := ⟨rfl, rfl, rfl, by decide +kernel, rfl, by decide +kernel, by decide +kernel⟩
abbrev s_is_threshold : Stmt := topS 25
abbrev N_is_threshold : List Str := ["thing"]
theorem sc_is_threshold : FnScope N_is_threshold ["thing"] (defScope s_is_threshold) := ⟨rfl, rfl, rfl, by decide +kernel, rfl, by decide +kernel, by decide +kernel⟩
abbrev s_is_list : Stmt := topS 26
abbrev N_is_list : List Str := ["thing", "item", "later"]
theorem sc_is_list : FnScope N_is_list ["thing"] (defScope s_is_list) := ⟨rfl, rfl, rfl, by decide +kernel, rfl, by decide +kernel, by decide +kernel⟩
abbrev s_is_width : Stmt := topS 27
abbrev N_is_width : List Str := ["thing"]
theorem sc_is_width : FnScope N_is_width ["thing"] (defScope s_is_width) := ⟨rfl, rfl, rfl, by decide +kernel, rfl, by decide +kernel, by decide +kernel⟩
abbrev s_parts_of_grain : Stmt := topS 28
abbrev N_parts_of_grain : List Str := ["width", "other"]
theorem sc_parts_of_grain : FnScope N_parts_of_grain ["width", "other"] (defScope s_parts_of_grain) := ⟨rfl, rfl, rfl, by decide +kernel, rfl, by decide +kernel, by decide +kernel⟩
abbrev s_in_grains : Stmt := topS 29
abbrev N_in_grains : List Str := ["steps", "grains", "step"]
theorem sc_in_grains : FnScope N_in_grains ["steps", "grains"] (defScope s_in_grains) := ⟨rfl, rfl, rfl, by decide +kernel, rfl, by decide +kernel, by decide +kernel⟩
abbrev s_is_filling : Stmt := topS 31
abbrev N_is_filling : List Str := ["web", "thing", "water", "width"]
theorem sc_is_filling : FnScope N_is_filling ["web", "thing"] (defScope s_is_filling) := ⟨rfl, rfl, rfl, by decide +kernel, rfl, by decide +kernel, by decide +kernel⟩
abbrev s_check_filling : Stmt := topS 32
abbrev N_check_filling : List Str := ["web", "thing"]
theorem sc_check_filling : FnScope N_check_filling ["web", "thing"] (defScope s_check_filling) := ⟨rfl, rfl, rfl, by decide +kernel, rfl, by decide +kernel, by decide +kernel⟩
abbrev s_check_opening : Stmt := topS 33
abbrev N_check_opening : List Str := ["web", "thing"]
theorem sc_check_opening : FnScope N_check_opening ["web", "thing"] (defScope s_check_opening) := ⟨rfl, rfl, rfl, by decide +kernel, rfl, by decide +kernel, by decide +kernel⟩
abbrev s_drops_in_grains : Stmt := topS 34
abbrev N_drops_in_grains : List Str := ["web", "filling", "one", "other", "here", "there", "units", "grains"]
theorem sc_drops_in_grains : FnScope N_drops_in_grains ["web", "filling"] (defScope s_drops_in_grains) := ⟨rfl, rfl, rfl, by decide +kernel, rfl, by decide +kernel, by decide +kernel⟩
abbrev s_runs_at : Stmt := topS 35
abbrev N_runs_at : List Str := ["units", "number", "found", "unit"]
theorem sc_runs_at : FnScope N_runs_at ["units", "number"] (defScope s_runs_at) := ⟨rfl, rfl, rfl, by decide +kernel, rfl, by decide +kernel, by decide +kernel⟩
abbrev s_flows_of : Stmt := topS 36
abbrev N_flows_of : List Str := ["web", "filling", "line", "number"]
theorem sc_flows_of : FnScope N_flows_of ["web", "filling"] (defScope s_flows_of) := ⟨rfl, rfl, rfl, by decide +kernel, rfl, by decide +kernel, by decide +kernel⟩
abbrev s_opened : Stmt := topS 37
abbrev N_opened : List Str := ["numbers", "opening", "pipe", "number"]
theorem sc_opened : FnScope N_opened ["numbers", "opening"] (defScope s_opened) := ⟨rfl, rfl, rfl, by decide +kernel, rfl, by decide +kernel, by decide +kernel⟩
abbrev s_nets_of : Stmt := topS 38
abbrev N_nets_of : List Str := ["web", "numbers", "found", "one", "other", "steps", "number"]
theorem sc_nets_of : FnScope N_nets_of ["web", "numbers"] (defScope s_nets_of) := ⟨rfl, rfl, rfl, by decide +kernel, rfl, by decide +kernel, by decide +kernel⟩
abbrev s_moved : Stmt := topS 39
abbrev N_moved : List Str := ["web", "filling", "numbers", "nets", "width", "water", "net"]
theorem sc_moved : FnScope N_moved ["web", "filling", "numbers"] (defScope s_moved) := ⟨rfl, rfl, rfl, by decide +kernel, rfl, by decide +kernel, by decide +kernel⟩
abbrev s_running : Stmt := topS 40
abbrev N_running : List Str := ["web", "filling", "opening"]
theorem sc_running : FnScope N_running ["web", "filling", "opening"] (defScope s_running) := ⟨rfl, rfl, rfl, by decide +kernel, rfl, by decide +kernel, by decide +kernel⟩
abbrev s_tick : Stmt := topS 41
abbrev N_tick : List Str := ["web", "filling", "opening"]
theorem sc_tick : FnScope N_tick ["web", "filling", "opening"] (defScope s_tick) := ⟨rfl, rfl, rfl, by decide +kernel, rfl, by decide +kernel, by decide +kernel⟩
abbrev s_running_openings : Stmt := topS 44
abbrev N_running_openings : List Str := ["numbers", "found", "pipe", "number", "lot"]
theorem sc_running_openings : FnScope N_running_openings ["numbers"] (defScope s_running_openings) := ⟨rfl, rfl, rfl, by decide +kernel, rfl, by decide +kernel, by decide +kernel⟩
abbrev s_ways_on : Stmt := topS 45
abbrev N_ways_on : List Str := ["web", "filling", "single", "numbers", "found", "opening"]
theorem sc_ways_on : FnScope N_ways_on ["web", "filling", "single"] (defScope s_ways_on) := ⟨rfl, rfl, rfl, by decide +kernel, rfl, by decide +kernel, by decide +kernel⟩
abbrev s_comings : Stmt := topS 46
abbrev N_comings : List Str := ["web", "filling", "single", "order", "met", "found", "at", "here", "there"]
theorem sc_comings : FnScope N_comings ["web", "filling", "single"] (defScope s_comings) := ⟨rfl, rfl, rfl, by decide +kernel, rfl, by decide +kernel, by decide +kernel⟩
abbrev s_heights : Stmt := topS 47
abbrev N_heights : List Str := ["ways", "here", "left", "back", "there", "done", "found", "at", "other"]
theorem sc_heights : FnScope N_heights ["ways"] (defScope s_heights) := ⟨rfl, rfl, rfl, by decide +kernel, rfl, by decide +kernel, by decide +kernel⟩
abbrev s_longest_play : Stmt := topS 48
abbrev N_longest_play : List Str := ["web", "filling"]
theorem sc_longest_play : FnScope N_longest_play ["web", "filling"] (defScope s_longest_play) := ⟨rfl, rfl, rfl, by decide +kernel, rfl, by decide +kernel, by decide +kernel⟩
abbrev s_longest_single : Stmt := topS 49
abbrev N_longest_single : List Str := ["web", "filling"]
theorem sc_longest_single : FnScope N_longest_single ["web", "filling"] (defScope s_longest_single) := ⟨rfl, rfl, rfl, by decide +kernel, rfl, by decide +kernel, by decide +kernel⟩
abbrev s_endless : Stmt := topS 50
abbrev N_endless : List Str := ["ways", "filling", "ending", "places", "openings", "here", "there", "other"]
theorem sc_endless : FnScope N_endless ["ways", "filling"] (defScope s_endless) := ⟨rfl, rfl, rfl, by decide +kernel, rfl, by decide +kernel, by decide +kernel⟩
abbrev s_endless_play : Stmt := topS 51
abbrev N_endless_play : List Str := ["web", "filling"]
theorem sc_endless_play : FnScope N_endless_play ["web", "filling"] (defScope s_endless_play) := ⟨rfl, rfl, rfl, by decide +kernel, rfl, by decide +kernel, by decide +kernel⟩
abbrev s_endless_single : Stmt := topS 52
abbrev N_endless_single : List Str := ["web", "filling"]
theorem sc_endless_single : FnScope N_endless_single ["web", "filling"] (defScope s_endless_single) := ⟨rfl, rfl, rfl, by decide +kernel, rfl, by decide +kernel, by decide +kernel⟩
abbrev s_are_widths : Stmt := topS 56
abbrev N_are_widths : List Str := ["thing", "item"]
theorem sc_are_widths : FnScope N_are_widths ["thing"] (defScope s_are_widths) := ⟨rfl, rfl, rfl, by decide +kernel, rfl, by decide +kernel, by decide +kernel⟩
abbrev s_is_pipe : Stmt := topS 57
abbrev N_is_pipe : List Str := ["thing", "many"]
theorem sc_is_pipe : FnScope N_is_pipe ["thing", "many"] (defScope s_is_pipe) := ⟨rfl, rfl, rfl, by decide +kernel, rfl, by decide +kernel, by decide +kernel⟩
abbrev s_gauge : Stmt := topS 58
abbrev N_gauge : List Str := ["widths", "pipe", "one", "other", "steps", "grains", "factors", "end"]
theorem sc_gauge : FnScope N_gauge ["widths", "pipe"] (defScope s_gauge) := ⟨rfl, rfl, rfl, by decide +kernel, rfl, by decide +kernel, by decide +kernel⟩
abbrev s_w_init : Stmt := inClass (topS 59) 0
abbrev N_w_init : List Str := ["self", "widths", "pipes", "number", "pipe"]
theorem sc_w_init : FnScope N_w_init ["self", "widths", "pipes"] (defScope s_w_init) := ⟨rfl, rfl, rfl, by decide +kernel, rfl, by decide +kernel, by decide +kernel⟩
abbrev s_w_begin : Stmt := inClass (topS 59) 1
abbrev N_w_begin : List Str := ["self", "widths", "pipes", "pipe"]
theorem sc_w_begin : FnScope N_w_begin ["self", "widths", "pipes"] (defScope s_w_begin) := ⟨rfl, rfl, rfl, by decide +kernel, rfl, by decide +kernel, by decide +kernel⟩
abbrev s_l_hand : Stmt := topS 61
abbrev N_l_hand : List Str := ["_law_script", "_law_cells", "_law_cell"]
theorem sc_l_hand : FnScope N_l_hand ["_law_script"] (defScope s_l_hand) := ⟨rfl, rfl, rfl, by decide +kernel, rfl, by decide +kernel, by decide +kernel⟩
abbrev s_l_draw : Stmt := topS 62
abbrev N_l_draw : List Str := ["_law_hand_here", "_law_many", "_law_cell", "_law_digit", "_law_number"]
theorem sc_l_draw : FnScope N_l_draw ["_law_hand_here", "_law_many"] (defScope s_l_draw) := ⟨rfl, rfl, rfl, by decide +kernel, rfl, by decide +kernel, by decide +kernel⟩
abbrev s_l_some : Stmt := topS 63
abbrev N_l_some : List Str := ["_law_hand_here", "_law_things"]
theorem sc_l_some : FnScope N_l_some ["_law_hand_here", "_law_things"] (defScope s_l_some) := ⟨rfl, rfl, rfl, by decide +kernel, rfl, by decide +kernel, by decide +kernel⟩
abbrev s_l_divisor : Stmt := topS 64
abbrev N_l_divisor : List Str := ["_law_one", "_law_other"]
theorem sc_l_divisor : FnScope N_l_divisor ["_law_one", "_law_other"] (defScope s_l_divisor) := ⟨rfl, rfl, rfl, by decide +kernel, rfl, by decide +kernel, by decide +kernel⟩
abbrev s_l_made : Stmt := topS 65
abbrev N_l_made : List Str := ["_law_top", "_law_bottom", "_law_part"]
theorem sc_l_made : FnScope N_l_made ["_law_top", "_law_bottom"] (defScope s_l_made) := ⟨rfl, rfl, rfl, by decide +kernel, rfl, by decide +kernel, by decide +kernel⟩
abbrev s_l_below : Stmt := topS 66
abbrev N_l_below : List Str := ["_law_one", "_law_other"]
theorem sc_l_below : FnScope N_l_below ["_law_one", "_law_other"] (defScope s_l_below) := ⟨rfl, rfl, rfl, by decide +kernel, rfl, by decide +kernel, by decide +kernel⟩
abbrev s_l_steps_small : Stmt := topS 67
abbrev N_l_steps_small : List Str := ["_law_hand_here", "_law_most", "_law_top", "_law_found", "_law_k", "_law_bottom", "_law_ordered", "_law_least", "_law_step"]
theorem sc_l_steps_small : FnScope N_l_steps_small ["_law_hand_here", "_law_most", "_law_top"] (defScope s_l_steps_small) := ⟨rfl, rfl, rfl, by decide +kernel, rfl, by decide +kernel, by decide +kernel⟩
abbrev s_l_let : Stmt := topS 68
abbrev N_l_let : List Str := ["_law_steps", "_law_one", "_law_other", "_law_high", "_law_low", "_law_scale", "_law_number", "_law_top", "_law_bottom"]
theorem sc_l_let : FnScope N_l_let ["_law_steps", "_law_one", "_law_other"] (defScope s_l_let) := ⟨rfl, rfl, rfl, by decide +kernel, rfl, by decide +kernel, by decide +kernel⟩
abbrev s_l_flows : Stmt := topS 69
abbrev N_l_flows : List Str := ["_law_widths", "_law_pipes", "_law_filling_here", "_law_found", "_law_one", "_law_other", "_law_steps"]
theorem sc_l_flows : FnScope N_l_flows ["_law_widths", "_law_pipes", "_law_filling_here"] (defScope s_l_flows) := ⟨rfl, rfl, rfl, by decide +kernel, rfl, by decide +kernel, by decide +kernel⟩
abbrev s_l_moved : Stmt := topS 70
abbrev N_l_moved : List Str := ["_law_widths", "_law_pipes", "_law_filling_here", "_law_numbers", "_law_found", "_law_pipe", "_law_number", "_law_water", "_law_width"]
theorem sc_l_moved : FnScope N_l_moved ["_law_widths", "_law_pipes", "_law_filling_here", "_law_numbers"] (defScope s_l_moved) := ⟨rfl, rfl, rfl, by decide +kernel, rfl, by decide +kernel, by decide +kernel⟩
abbrev s_l_web_parts : Stmt := topS 71
abbrev N_l_web_parts : List Str := ["_law_hand_here", "_law_most_vessels", "_law_most_pipes", "_law_most_steps", "_law_top", "_law_many", "_law_sea", "_law_k", "_law_widths", "_law_pipes", "_law_one", "_law_other"]
theorem sc_l_web_parts : FnScope N_l_web_parts ["_law_hand_here", "_law_most_vessels", "_law_most_pipes", "_law_most_steps", "_law_top"] (defScope s_l_web_parts) := ⟨rfl, rfl, rfl, by decide +kernel, rfl, by decide +kernel, by decide +kernel⟩
abbrev s_l_filling : Stmt := topS 72
abbrev N_l_filling : List Str := ["_law_hand_here", "_law_widths", "_law_least", "_law_most", "_law_width"]
theorem sc_l_filling : FnScope N_l_filling ["_law_hand_here", "_law_widths", "_law_least", "_law_most"] (defScope s_l_filling) := ⟨rfl, rfl, rfl, by decide +kernel, rfl, by decide +kernel, by decide +kernel⟩
abbrev s_l_all_openings : Stmt := topS 73
abbrev N_l_all_openings : List Str := ["_law_many", "_law_found", "_law_pipe", "_law_opening"]
theorem sc_l_all_openings : FnScope N_l_all_openings ["_law_many"] (defScope s_l_all_openings) := ⟨rfl, rfl, rfl, by decide +kernel, rfl, by decide +kernel, by decide +kernel⟩
abbrev s_l_opened : Stmt := topS 74
abbrev N_l_opened : List Str := ["_law_widths", "_law_pipes", "_law_filling_here", "_law_opening", "_law_numbers", "_law_pipe", "_law_number"]
theorem sc_l_opened : FnScope N_l_opened ["_law_widths", "_law_pipes", "_law_filling_here", "_law_opening"] (defScope s_l_opened) := ⟨rfl, rfl, rfl, by decide +kernel, rfl, by decide +kernel, by decide +kernel⟩
abbrev s_l_comings : Stmt := topS 75
abbrev N_l_comings : List Str := ["_law_widths", "_law_pipes", "_law_filling_here", "_law_most", "_law_single", "_law_found", "_law_waiting", "_law_here", "_law_numbers", "_law_rows", "_law_pipe", "_law_some_here", "_law_row", "_law_later"]
theorem sc_l_comings : FnScope N_l_comings ["_law_widths", "_law_pipes", "_law_filling_here", "_law_most", "_law_single"] (defScope s_l_comings) := ⟨rfl, rfl, rfl, by decide +kernel, rfl, by decide +kernel, by decide +kernel⟩
abbrev s_l_longest : Stmt := topS 76
abbrev N_l_longest : List Str := ["_law_comings_here", "_law_filling_here", "_law_found", "_law_left", "_law_before", "_law_later", "_law_here", "_law_there"]
theorem sc_l_longest : FnScope N_l_longest ["_law_comings_here", "_law_filling_here"] (defScope s_l_longest) := ⟨rfl, rfl, rfl, by decide +kernel, rfl, by decide +kernel, by decide +kernel⟩
abbrev s_l_small_case : Stmt := topS 77
abbrev N_l_small_case : List Str := ["_law_hand_here", "_law_most", "_law_turn", "_law_widths", "_law_pipes", "_law_filling_here", "_law_comings_here"]
theorem sc_l_small_case : FnScope N_l_small_case ["_law_hand_here", "_law_most"] (defScope s_l_small_case) := ⟨rfl, rfl, rfl, by decide +kernel, rfl, by decide +kernel, by decide +kernel⟩
abbrev s_law : Stmt := topS 78
abbrev N_law : List Str := ["_law_script", "_law_hand_here", "_law_turn", "_law_widths", "_law_pipes", "_law_filling_here", "_law_comings_here", "_law_web", "_law_due", "_law_told", "_law_alone", "_law_single", "_law_again", "_law_opening", "_law_there", "_law_ran", "_law_later"]
theorem sc_law : FnScope N_law ["_law_script"] (defScope s_law) := ⟨rfl, rfl, rfl, by decide +kernel, rfl, by decide +kernel, by decide +kernel⟩
/-- the class Web: its address, its two methods -/
structure WebC (K : PySem.W.Frag) (mg : Str → Option Value) (C : Addr) : Prop where
  gC : mg "Web" = some (.ref C)
  cls : Cls K C
  ini : ∃ f fd, Mk K C f ∧ Fun K "__init__" "Web.__init__" s_w_init f fd ∧ Binds K fd ["self", "widths", "pipes"] []
  beg : ∃ f fd, Meth K C "begin" f ∧ Fun K "begin" "Web.begin" s_w_begin f fd ∧ Binds K fd ["self", "widths", "pipes"] []
  n_widths : NoAttr K C "widths"
  n_pipes : NoAttr K C "pipes"
  n_gauges : NoAttr K C "gauges"
/-- what the top leaves -/
structure Tops (K : PySem.W.Frag) (mg : Str → Option Value) (C : Addr) : Prop where
  d_is_integer : DefAt K mg "is_integer" s_is_integer ["thing"]
  d_is_between : DefAt K mg "is_between" s_is_between ["thing", "least", "most"]
  d_is_pair : DefAt K mg "is_pair" s_is_pair ["thing"]
  d_is_triple : DefAt K mg "is_triple" s_is_triple ["thing"]
  d_is_row : DefAt K mg "is_row" s_is_row ["thing", "many"]
  d_is_lot : DefAt K mg "is_lot" s_is_lot ["thing", "many"]
  d_divisor : DefAt K mg "divisor" s_divisor ["one", "other"]
  d_multiple : DefAt K mg "multiple" s_multiple ["one", "other"]
  d_made : DefAt K mg "made" s_made ["top", "bottom"]
  d_is_fraction : DefAt K mg "is_fraction" s_is_fraction ["thing"]
  d_is_below : DefAt K mg "is_below" s_is_below ["one", "other"]
  d_next_whole : DefAt K mg "next_whole" s_next_whole ["one"]
  d_is_threshold : DefAt K mg "is_threshold" s_is_threshold ["thing"]
  d_is_list : DefAt K mg "is_list" s_is_list ["thing"]
  d_is_width : DefAt K mg "is_width" s_is_width ["thing"]
  d_parts_of_grain : DefAt K mg "parts_of_grain" s_parts_of_grain ["width", "other"]
  d_in_grains : DefAt K mg "in_grains" s_in_grains ["steps", "grains"]
  d_is_filling : DefAt K mg "is_filling" s_is_filling ["web", "thing"]
  d_check_filling : DefAt K mg "check_filling" s_check_filling ["web", "thing"]
  d_check_opening : DefAt K mg "check_opening" s_check_opening ["web", "thing"]
  d_drops_in_grains : DefAt K mg "drops_in_grains" s_drops_in_grains ["web", "filling"]
  d_runs_at : DefAt K mg "runs_at" s_runs_at ["units", "number"]
  d_flows_of : DefAt K mg "flows_of" s_flows_of ["web", "filling"]
  d_opened : DefAt K mg "opened" s_opened ["numbers", "opening"]
  d_nets_of : DefAt K mg "nets_of" s_nets_of ["web", "numbers"]
  d_moved : DefAt K mg "moved" s_moved ["web", "filling", "numbers"]
  d_running : DefAt K mg "running" s_running ["web", "filling", "opening"]
  d_tick : DefAt K mg "tick" s_tick ["web", "filling", "opening"]
  d_running_openings : DefAt K mg "running_openings" s_running_openings ["numbers"]
  d_ways_on : DefAt K mg "ways_on" s_ways_on ["web", "filling", "single"]
  d_comings : DefAt K mg "comings" s_comings ["web", "filling", "single"]
  d_heights : DefAt K mg "heights" s_heights ["ways"]
  d_longest_play : DefAt K mg "longest_play" s_longest_play ["web", "filling"]
  d_longest_single : DefAt K mg "longest_single" s_longest_single ["web", "filling"]
  d_endless : DefAt K mg "endless" s_endless ["ways", "filling"]
  d_endless_play : DefAt K mg "endless_play" s_endless_play ["web", "filling"]
  d_endless_single : DefAt K mg "endless_single" s_endless_single ["web", "filling"]
  d_are_widths : DefAt K mg "are_widths" s_are_widths ["thing"]
  d_is_pipe : DefAt K mg "is_pipe" s_is_pipe ["thing", "many"]
  d_gauge : DefAt K mg "gauge" s_gauge ["widths", "pipe"]
  d_l_hand : DefAt K mg "_law_hand" s_l_hand ["_law_script"]
  d_l_draw : DefAt K mg "_law_draw" s_l_draw ["_law_hand_here", "_law_many"]
  d_l_some : DefAt K mg "_law_some" s_l_some ["_law_hand_here", "_law_things"]
  d_l_divisor : DefAt K mg "_law_divisor" s_l_divisor ["_law_one", "_law_other"]
  d_l_made : DefAt K mg "_law_made" s_l_made ["_law_top", "_law_bottom"]
  d_l_below : DefAt K mg "_law_below" s_l_below ["_law_one", "_law_other"]
  d_l_steps_small : DefAt K mg "_law_steps_small" s_l_steps_small ["_law_hand_here", "_law_most", "_law_top"]
  d_l_let : DefAt K mg "_law_let" s_l_let ["_law_steps", "_law_one", "_law_other"]
  d_l_flows : DefAt K mg "_law_flows" s_l_flows ["_law_widths", "_law_pipes", "_law_filling_here"]
  d_l_moved : DefAt K mg "_law_moved" s_l_moved ["_law_widths", "_law_pipes", "_law_filling_here", "_law_numbers"]
  d_l_web_parts : DefAt K mg "_law_web_parts" s_l_web_parts ["_law_hand_here", "_law_most_vessels", "_law_most_pipes", "_law_most_steps", "_law_top"]
  d_l_filling : DefAt K mg "_law_filling" s_l_filling ["_law_hand_here", "_law_widths", "_law_least", "_law_most"]
  d_l_all_openings : DefAt K mg "_law_all_openings" s_l_all_openings ["_law_many"]
  d_l_opened : DefAt K mg "_law_opened" s_l_opened ["_law_widths", "_law_pipes", "_law_filling_here", "_law_opening"]
  d_l_comings : DefAt K mg "_law_comings" s_l_comings ["_law_widths", "_law_pipes", "_law_filling_here", "_law_most", "_law_single"]
  d_l_longest : DefAt K mg "_law_longest" s_l_longest ["_law_comings_here", "_law_filling_here"]
  d_l_small_case : DefAt K mg "_law_small_case" s_l_small_case ["_law_hand_here", "_law_most"]
  d_law : DefAt K mg "law" s_law ["_law_script"]
  b_len : mg "len" = none
  b_abs : mg "abs" = none
  b_max : mg "max" = none
  b_isinstance : mg "isinstance" = none
  b_all : mg "all" = none
  b_any : mg "any" = none
  b_tuple : mg "tuple" = none
  b_list : mg "list" = none
  b_sorted : mg "sorted" = none
  b_int : mg "int" = none
  b_bool : mg "bool" = none
  b_range : mg "range" = none
  b_zip : mg "zip" = none
  b_enumerate : mg "enumerate" = none
  g_MOST_THRESHOLDS : ∃ t, mg "MOST_THRESHOLDS" = some (.int 6 t)
  g_MOST_TOP : ∃ t, mg "MOST_TOP" = some (.int 1000000 t)
  g_MOST_BOTTOM : ∃ t, mg "MOST_BOTTOM" = some (.int 144 t)
  g_MOST_WIDTH : ∃ t, mg "MOST_WIDTH" = some (.int 12 t)
  g_MOST : ∃ t, mg "MOST" = some (.int 3000 t)
  g_MOST_VESSELS : ∃ t, mg "MOST_VESSELS" = some (.int 12 t)
  g_MOST_PIPES : ∃ t, mg "MOST_PIPES" = some (.int 36 t)
  web : WebC K mg C
end TW
/-! Rules that the claim adds: zip of two and of three, lists and tuples mixed; enumerate of a tuple; max of three ints; xs[i] op= e. -/
namespace TW
open PySem PySem.Spec PyProof.Rows L2

/-- what is zipped: a list, a tuple -/
inductive SK where
  | l
  | t
def SK.Sq (k : SK) (K : PySem.W.Frag) (H : Hp) (a : Addr) (xs : List V) : Prop := match k with
  | .l => SqL K H a xs
  | .t => SqT K H a xs
def SK.it (k : SK) : String := match k with
  | .l => "list_iterator"
  | .t => "tuple_iterator"
def SK.IsIt (k : SK) (h : Heap) (it a : Addr) (i : Nat) : Prop := match k with
  | .l => h.IsListIter it a i
  | .t => h.IsTupleIter it a i
def SK.IsSq (k : SK) (h : Heap) (a : Addr) (its : Array Value) : Prop := match k with
  | .l => h.IsList a its
  | .t => h.IsTuple a its
theorem SK.draws {prog : Program} {w : World} {A : Around} (k : SK) (hh : A.handled = none) (it a : Addr) (hne : a ≠ it) (items : Array Value) :
    Draws prog w A it [it, a] items.size (fun i v => items[i]? = some v) (fun i h => k.IsIt h it a i ∧ k.IsSq h a items) := by
  cases k with
  | l => exact Draws.list hh it a hne items
  | t => exact Draws.tuple hh it a hne items
theorem SK.begins (k : SK) (a : Addr) (items : Array Value) : Begins (.ref a) { cls := .type k.it, data := .fields #[.ref a, .int 0 0] } fun h => k.IsSq h a items := by
  cases k with
  | l => exact begins_list a items
  | t => exact begins_tuple a items
theorem SK.begun (k : SK) {h : Heap} {it a : Addr} (e : h.get? it = some { cls := .type k.it, data := .fields #[.ref a, .int 0 0] }) : k.IsIt h it a 0 := by
  cases k with
  | l => exact ⟨_, e, rfl, rfl⟩
  | t => exact ⟨_, e, rfl, rfl⟩
theorem SK.obj (k : SK) {h : Heap} {it a : Addr} {i : Nat} (x : k.IsIt h it a i) : ∃ o, h.get? it = some o ∧ ∀ v, o.data ≠ .cell v := by
  cases k with
  | l =>
    obtain ⟨o, e, _, d⟩ := x
    exact ⟨o, e, fun v q => by rw [d] at q; cases q⟩
  | t =>
    obtain ⟨o, e, _, d⟩ := x
    exact ⟨o, e, fun v q => by rw [d] at q; cases q⟩
theorem SK.keep (k : SK) {h h' : Heap} {it a : Addr} {i : Nat} (x : k.IsIt h it a i) (e : ∀ o, h.get? it = some o → h'.get? it = some o) : k.IsIt h' it a i := by
  cases k with
  | l => exact Heap.IsListIter.at x e
  | t => exact Heap.IsTupleIter.at x e
section
variable {X : Cx} {pins : List (Addr × Obj)} {σ : L2.St} {H : Hp} {s : Shared} {a : Addr} {xs ys : List V}
theorem SK.read (k : SK) (I : Inv X pins σ H s) (h : k.Sq X.K H a xs) : ∃ its : List Value, Vals xs its ∧ k.IsSq s.heap a its.toArray ∧ a < s.heap.objs.size := by
  cases k with
  | l =>
    obtain ⟨its, r, p, _⟩ := I.list h
    exact ⟨its, r, p.isList, p.lt⟩
  | t =>
    obtain ⟨its, r, p, _⟩ := I.tuple h
    exact ⟨its, r, p, p.lt⟩
theorem SK.inj (k : SK) (I : Inv X pins σ H s) (h : k.Sq X.K H a xs) (h' : k.Sq X.K H a ys) : xs = ys := by
  cases k with
  | l => exact I.list_inj h h'
  | t => exact I.tuple_inj h h'
end

/-! ### zip of two -/
def Itz2 (k1 k2 : SK) (K : PySem.W.Frag) (a b : Addr) : It :=
  ⟨fun i H => ∃ xs ys : List V, k1.Sq K H a xs ∧ k2.Sq K H b ys ∧ i < xs.length ∧ i < ys.length,
   fun i H v H' => ∃ T x y, v = .ref T ∧ H T = none ∧ H' = upd H T (.tup [x, y]) ∧ (∀ xs, k1.Sq K H a xs → xs[i]? = some x) ∧ ∀ ys, k2.Sq K H b ys → ys[i]? = some y,
   fun i H => ∃ xs ys : List V, k1.Sq K H a xs ∧ k2.Sq K H b ys ∧ i = min xs.length ys.length⟩
theorem turn_zip2 {P : Program} {w : World} {K : PySem.W.Frag} {elts : List Expr} {kk : Nat} {tpos : Pos} {a b z TI TO i1 i2 : Addr} (k1 k2 : SK) (S : ZipSep2 z TI TO i1 i2 [i1, a] [i2, b]) (n1 : a ≠ i1) (n2 : b ≠ i2) :
    Turn P w K (.Tuple elts kk tpos) (Itz2 k1 k2 K a b) [z, TI, TO, i1, i2] z (fun i h => IsZip h z TI TO .none ∧ IsTupOf2 h TI (.ref i1) (.ref i2) ∧ (∃ u v, IsTupOf2 h TO u v) ∧ k1.IsIt h i1 a i ∧ k2.IsIt h i2 b i) where
  mem := List.mem_cons_self
  obj := fun i h st c hc => by
    obtain ⟨hz, hTI, ⟨x, y, hTO⟩, h1, h2⟩ := st
    simp only [List.mem_cons, List.not_mem_nil, or_false] at hc
    rcases hc with q | q | q | q | q <;> subst q
    · exact ⟨_, hz, fun v q => nomatch q⟩
    · exact ⟨_, hTI, fun v q => nomatch q⟩
    · exact ⟨_, hTO, fun v q => nomatch q⟩
    · exact k1.obj h1
    · exact k2.obj h2
  keep := fun i h h' st k => by
    obtain ⟨hz, hTI, ⟨x, y, hTO⟩, h1, h2⟩ := st
    exact ⟨k z (by simp) _ hz, k TI (by simp) _ hTI, ⟨x, y, k TO (by simp) _ hTO⟩, k1.keep h1 fun o e => k i1 (by simp) o e, k2.keep h2 fun o e => k i2 (by simp) o e⟩
  item := by
    intro X hP hw hK hc i pins s σ H E I hf st hg
    subst hP hw hK
    obtain ⟨hz, hTI, hTO, h1, h2⟩ := st
    obtain ⟨xs, ys, hqx, hqy, hx, hy⟩ := hg
    obtain ⟨its, rv, p1, _⟩ := k1.read I hqx
    obtain ⟨its2, rv2, p2, _⟩ := k2.read I hqy
    have l1 := rv.length
    have l2 := rv2.length
    have W := GoesN.zip2 (prog := X.prog) (w := X.w) (A := X.A) (elts := elts) (x1 := kk) (pos := tpos) S (k1.draws (A := X.A.in1) (I.ok.hd hc) i1 a n1 its.toArray) (k2.draws (A := X.A.in1) (I.ok.hd hc) i2 b n2 its2.toArray)
    refine W.goes i s _ E (by simp only [List.size_toArray]; omega) ⟨hz, hTI, hTO, ⟨h1, p1⟩, ⟨h2, p2⟩⟩ fun v h' tk hY st' hk _ => ?_
    obtain ⟨T, u1, u2, rfl, hT, e1, e2, hTup⟩ := hY
    obtain ⟨hz', hTI', hTO', ⟨h1', _⟩, ⟨h2', _⟩⟩ := st'
    have e1 : its[i]? = some u1 := by simpa using e1
    have e2 : its2[i]? = some u2 := by simpa using e2
    have ex : xs[i]? = some xs[i] := List.getElem?_eq_getElem hx
    have ey : ys[i]? = some ys[i] := List.getElem?_eq_getElem hy
    obtain ⟨w1, f1, r1⟩ := rv.get ex
    obtain ⟨w2, f2, r2⟩ := rv2.get ey
    rw [e1] at f1
    rw [e2] at f2
    cases f1
    cases f2
    have new : ObjOk X.prog X.w (upd H T (.tup [xs[i], ys[i]])) h' T (.tup [xs[i], ys[i]]) := ⟨by show 2 ≤ sizeLine; decide, [u1, u2], .cons r1 (.cons r2 .nil), hTup⟩
    have I1 : Inv X pins σ (upd H T (.tup [xs[i], ys[i]])) { s with heap := h', toks := tk } :=
      I.turnedNew (ch := [z, TI, TO, i1, i2]) (fun c o hb q => hk c o (fun m => hb (by simp only [List.mem_cons, List.not_mem_nil, or_false] at m ⊢; rcases m with m | m | m | m <;> simp [m])) q) hf hT new
    refine ⟨.ref T, _, I1, rfl, ⟨T, xs[i], ys[i], rfl, I.hok.fresh hT, rfl, fun zs hq => by rw [k1.inj I hq hqx]; exact ex, fun zs hq => by rw [k2.inj I hq hqy]; exact ey⟩, ⟨hz', hTI', hTO', h1', h2'⟩, fun c hcm => ?_⟩
    have nT : c ≠ T := fun e => by
      subst e
      have lt : c < s.heap.objs.size := by
        simp only [List.mem_cons, List.not_mem_nil, or_false] at hcm
        obtain ⟨u, v, hTO⟩ := hTO
        rcases hcm with q | q | q | q | q <;> subst q
        · exact Heap.lt_size hz
        · exact Heap.lt_size hTI
        · exact Heap.lt_size hTO
        · obtain ⟨o, eo, _⟩ := k1.obj h1
          exact Heap.lt_size eo
        · obtain ⟨o, eo, _⟩ := k2.obj h2
          exact Heap.lt_size eo
      exact absurd (Nat.lt_of_lt_of_le lt hT) (Nat.lt_irrefl _)
    rw [upd_ne nT]
    exact (hf c hcm).1
  done := by
    intro X hP hw hK hc i pins s σ H E I hf st hg
    subst hP hw hK
    obtain ⟨hz, hTI, hTO, h1, h2⟩ := st
    obtain ⟨xs, ys, hqx, hqy, hi⟩ := hg
    obtain ⟨its, rv, p1, _⟩ := k1.read I hqx
    obtain ⟨its2, rv2, p2, _⟩ := k2.read I hqy
    have l1 := rv.length
    have l2 := rv2.length
    have W := GoesN.zip2 (prog := X.prog) (w := X.w) (A := X.A) (elts := elts) (x1 := kk) (pos := tpos) S (k1.draws (A := X.A.in1) (I.ok.hd hc) i1 a n1 its.toArray) (k2.draws (A := X.A.in1) (I.ok.hd hc) i2 b n2 its2.toArray)
    have hn : i = min its.toArray.size its2.toArray.size := by
      simp only [List.size_toArray]
      omega
    subst hn
    exact W.stops s _ E ⟨hz, hTI, hTO, ⟨h1, p1⟩, ⟨h2, p2⟩⟩ fun h' tk hk _ => I.turnedL (ch := [z, TI, TO, i1, i2]) (fun c o hb q => hk c o (fun m => hb (by simp only [List.mem_cons, List.not_mem_nil, or_false] at m ⊢; rcases m with m | m | m | m <;> simp [m])) q) hf
  self := fun A i s Q E st h => wpAny_pyIter_zip st.1 h
def iZip2 (k1 k2 : SK) (K : PySem.W.Frag) (ta : TA) : TI := fun σ H R => ta σ H fun vs H1 => ∃ a b xs ys, vs = [.ref a, .ref b] ∧ k1.Sq K H1 a xs ∧ k2.Sq K H1 b ys ∧ R (Itz2 k1 k2 K a b) H1
theorem pi_zip2 {X : Cx} {e e2 : Expr} {ta : TA} {p pos tpos : Pos} {elts : List Expr} {kk : Nat} (k1 k2 : SK) (hg : Gl X "zip") (hm : X.mg "zip" = none) (ha : PA X [e, e2] ta)
    (hs : starEach [e, e2] X.env = (false, eval e X.env) :: starEach [e2] X.env := by rfl) (hpl : (backTo pos (starEach [e2] X.env)).any (·.1) = false := by rfl) :
    PI X (.Tuple elts kk tpos) (.Call (.Name "zip" p) [e, e2] [] pos) (iZip2 k1 k2 X.K ta) := by
  refine ⟨fun pins s σ H R I h => ?_⟩
  refine Call_ (ld_blt I hg hm PyProof.Rows.boot_zip (PyProof.Rows.callWith_type1 (thn (ha.run pos pins s σ H _ I h) fun us s1 ⟨vs, H1, I1, r1, q1⟩ => ?_) hs hpl))
  obtain ⟨a, b, xs, ys, ex, hqx, hqy, q⟩ := q1
  subst ex
  obtain ⟨u1, u2, rfl, ra, rb⟩ := vals2 r1
  cases (show u1 = Value.ref a from ra)
  cases (show u2 = Value.ref b from rb)
  obtain ⟨its, rv, p1, la⟩ := k1.read I1 hqx
  obtain ⟨its2, rv2, p2, lb⟩ := k2.read I1 hqy
  refine zip_begins2 (k1.begins a its.toArray) (k2.begins b its2.toArray) p1 p2 fun h' hz hTI hTO g1 g2 hsz hk => wpAny_pyIter_zip hz ?_
  generalize hn : s1.heap.objs.size = n at la lb hz hTI hTO g1 g2 hsz ⊢
  have I2 : Inv X pins σ H1 { s1 with heap := h' } := I1.kept (t' := s1.toks) hk
  have l5 : ∀ j : Nat, n ≤ n + j := fun j => Nat.le_add_right _ _
  have S : ZipSep2 (n + 4) (n + 2) (n + 3) n (n + 1) [n, a] [n + 1, b] := by
    have A1 : ∀ j, n + j ≠ a := fun j e => absurd (Nat.lt_of_lt_of_le la (l5 j)) (by rw [e]; exact Nat.lt_irrefl _)
    have B1 : ∀ j, n + j ≠ b := fun j e => absurd (Nat.lt_of_lt_of_le lb (l5 j)) (by rw [e]; exact Nat.lt_irrefl _)
    have A0 := A1 0
    have B0 := B1 0
    refine ⟨?_, ?_, ?_, ?_, by simp, ?_, ?_, ?_, by simp, ?_, ?_, ?_, ?_⟩ <;> (try simp only [List.mem_cons, List.not_mem_nil, or_false, not_or]) <;> first
      | exact fun e => absurd e (by show ¬ ((_ : Nat) = _); omega)
      | exact ⟨fun e => absurd e (by show ¬ ((_ : Nat) = _); omega), A1 _⟩
      | exact ⟨fun e => absurd e (by show ¬ ((_ : Nat) = _); omega), B1 _⟩
      | exact ⟨fun e => absurd e (by show ¬ ((_ : Nat) = _); omega), A0⟩
      | exact ⟨fun e => absurd e (by show ¬ ((_ : Nat) = _); omega), B0⟩
  refine ⟨n + 4, [n + 4, n + 2, n + 3, n, n + 1], _, _, H1, rfl, I2, turn_zip2 k1 k2 S (fun e => ?_) (fun e => ?_), ⟨hz, hTI, ⟨_, _, hTO⟩, k1.begun g1, k2.begun g2⟩, fun c hcm => ?_, q⟩
  · rw [e] at la
    exact absurd la (Nat.lt_irrefl _)
  · rw [e] at lb
    exact absurd (Nat.lt_of_lt_of_le lb (l5 1)) (Nat.lt_irrefl _)
  · have hle : s1.heap.objs.size ≤ c := by
      rw [hn]
      simp only [List.mem_cons, List.not_mem_nil, or_false] at hcm
      rcases hcm with m | m | m | m | m <;> rw [m]
      · exact l5 4
      · exact l5 2
      · exact l5 3
      · exact Nat.le_refl _
      · exact l5 1
    exact I1.fpOk hle (I1.hok.fresh hle)

/-! ### zip of three -/
def Itz3 (k1 k2 k3 : SK) (K : PySem.W.Frag) (a b d : Addr) : It :=
  ⟨fun i H => ∃ xs ys zs : List V, k1.Sq K H a xs ∧ k2.Sq K H b ys ∧ k3.Sq K H d zs ∧ i < xs.length ∧ i < ys.length ∧ i < zs.length,
   fun i H v H' => ∃ T x y u, v = .ref T ∧ H T = none ∧ H' = upd H T (.tup [x, y, u]) ∧ (∀ xs, k1.Sq K H a xs → xs[i]? = some x) ∧ (∀ ys, k2.Sq K H b ys → ys[i]? = some y) ∧ ∀ zs, k3.Sq K H d zs → zs[i]? = some u,
   fun i H => ∃ xs ys zs : List V, k1.Sq K H a xs ∧ k2.Sq K H b ys ∧ k3.Sq K H d zs ∧ i = min (min xs.length ys.length) zs.length⟩
theorem turn_zip3 {P : Program} {w : World} {K : PySem.W.Frag} {elts : List Expr} {kk : Nat} {tpos : Pos} {a b d z TI TO i1 i2 i3 : Addr} (k1 k2 k3 : SK) (S : ZipSep3 z TI TO i1 i2 i3 [i1, a] [i2, b] [i3, d]) (n1 : a ≠ i1) (n2 : b ≠ i2) (n3 : d ≠ i3) :
    Turn P w K (.Tuple elts kk tpos) (Itz3 k1 k2 k3 K a b d) [z, TI, TO, i1, i2, i3] z
      (fun i h => IsZip h z TI TO .none ∧ IsTupOf3 h TI (.ref i1) (.ref i2) (.ref i3) ∧ (∃ u v x, IsTupOf3 h TO u v x) ∧ k1.IsIt h i1 a i ∧ k2.IsIt h i2 b i ∧ k3.IsIt h i3 d i) where
  mem := List.mem_cons_self
  obj := fun i h st c hc => by
    obtain ⟨hz, hTI, ⟨x, y, u, hTO⟩, h1, h2, h3⟩ := st
    simp only [List.mem_cons, List.not_mem_nil, or_false] at hc
    rcases hc with q | q | q | q | q | q <;> subst q
    · exact ⟨_, hz, fun v q => nomatch q⟩
    · exact ⟨_, hTI, fun v q => nomatch q⟩
    · exact ⟨_, hTO, fun v q => nomatch q⟩
    · exact k1.obj h1
    · exact k2.obj h2
    · exact k3.obj h3
  keep := fun i h h' st k => by
    obtain ⟨hz, hTI, ⟨x, y, u, hTO⟩, h1, h2, h3⟩ := st
    exact ⟨k z (by simp) _ hz, k TI (by simp) _ hTI, ⟨x, y, u, k TO (by simp) _ hTO⟩, k1.keep h1 fun o e => k i1 (by simp) o e, k2.keep h2 fun o e => k i2 (by simp) o e, k3.keep h3 fun o e => k i3 (by simp) o e⟩
  item := by
    intro X hP hw hK hc i pins s σ H E I hf st hg
    subst hP hw hK
    obtain ⟨hz, hTI, hTO, h1, h2, h3⟩ := st
    obtain ⟨xs, ys, zs, hqx, hqy, hqz, hx, hy, hzl⟩ := hg
    obtain ⟨its, rv, p1, _⟩ := k1.read I hqx
    obtain ⟨its2, rv2, p2, _⟩ := k2.read I hqy
    obtain ⟨its3, rv3, p3, _⟩ := k3.read I hqz
    have l1 := rv.length
    have l2 := rv2.length
    have l3 := rv3.length
    have hd := I.ok.hd hc
    have W := GoesN.zip3 (prog := X.prog) (w := X.w) (A := X.A) (elts := elts) (x1 := kk) (pos := tpos) S (k1.draws (A := X.A.in1) hd i1 a n1 its.toArray) (k2.draws (A := X.A.in1) hd i2 b n2 its2.toArray) (k3.draws (A := X.A.in1) hd i3 d n3 its3.toArray)
    refine W.goes i s _ E (by simp only [List.size_toArray]; omega) ⟨hz, hTI, hTO, ⟨h1, p1⟩, ⟨h2, p2⟩, ⟨h3, p3⟩⟩ fun v h' tk hY st' hk _ => ?_
    obtain ⟨T, u1, u2, u3, rfl, hT, e1, e2, e3, hTup⟩ := hY
    obtain ⟨hz', hTI', hTO', ⟨h1', _⟩, ⟨h2', _⟩, ⟨h3', _⟩⟩ := st'
    have e1 : its[i]? = some u1 := by simpa using e1
    have e2 : its2[i]? = some u2 := by simpa using e2
    have e3 : its3[i]? = some u3 := by simpa using e3
    have ex : xs[i]? = some xs[i] := List.getElem?_eq_getElem hx
    have ey : ys[i]? = some ys[i] := List.getElem?_eq_getElem hy
    have ez : zs[i]? = some zs[i] := List.getElem?_eq_getElem hzl
    obtain ⟨w1, f1, r1⟩ := rv.get ex
    obtain ⟨w2, f2, r2⟩ := rv2.get ey
    obtain ⟨w3, f3, r3⟩ := rv3.get ez
    rw [e1] at f1
    rw [e2] at f2
    rw [e3] at f3
    cases f1
    cases f2
    cases f3
    have new : ObjOk X.prog X.w (upd H T (.tup [xs[i], ys[i], zs[i]])) h' T (.tup [xs[i], ys[i], zs[i]]) := ⟨by show 3 ≤ sizeLine; decide, [u1, u2, u3], .cons r1 (.cons r2 (.cons r3 .nil)), hTup⟩
    have I1 : Inv X pins σ (upd H T (.tup [xs[i], ys[i], zs[i]])) { s with heap := h', toks := tk } :=
      I.turnedNew (ch := [z, TI, TO, i1, i2, i3]) (fun c o hb q => hk c o (fun m => hb (by simp only [List.mem_cons, List.not_mem_nil, or_false] at m ⊢; rcases m with m | m | m | m | m <;> simp [m])) q) hf hT new
    refine ⟨.ref T, _, I1, rfl, ⟨T, xs[i], ys[i], zs[i], rfl, I.hok.fresh hT, rfl, fun qs hq => by rw [k1.inj I hq hqx]; exact ex, fun qs hq => by rw [k2.inj I hq hqy]; exact ey, fun qs hq => by rw [k3.inj I hq hqz]; exact ez⟩, ⟨hz', hTI', hTO', h1', h2', h3'⟩, fun c hcm => ?_⟩
    have nT : c ≠ T := fun e => by
      subst e
      have lt : c < s.heap.objs.size := by
        simp only [List.mem_cons, List.not_mem_nil, or_false] at hcm
        obtain ⟨u, v, x, hTO⟩ := hTO
        rcases hcm with q | q | q | q | q | q <;> subst q
        · exact Heap.lt_size hz
        · exact Heap.lt_size hTI
        · exact Heap.lt_size hTO
        · obtain ⟨o, eo, _⟩ := k1.obj h1
          exact Heap.lt_size eo
        · obtain ⟨o, eo, _⟩ := k2.obj h2
          exact Heap.lt_size eo
        · obtain ⟨o, eo, _⟩ := k3.obj h3
          exact Heap.lt_size eo
      exact absurd (Nat.lt_of_lt_of_le lt hT) (Nat.lt_irrefl _)
    rw [upd_ne nT]
    exact (hf c hcm).1
  done := by
    intro X hP hw hK hc i pins s σ H E I hf st hg
    subst hP hw hK
    obtain ⟨hz, hTI, hTO, h1, h2, h3⟩ := st
    obtain ⟨xs, ys, zs, hqx, hqy, hqz, hi⟩ := hg
    obtain ⟨its, rv, p1, _⟩ := k1.read I hqx
    obtain ⟨its2, rv2, p2, _⟩ := k2.read I hqy
    obtain ⟨its3, rv3, p3, _⟩ := k3.read I hqz
    have l1 := rv.length
    have l2 := rv2.length
    have l3 := rv3.length
    have hd := I.ok.hd hc
    have W := GoesN.zip3 (prog := X.prog) (w := X.w) (A := X.A) (elts := elts) (x1 := kk) (pos := tpos) S (k1.draws (A := X.A.in1) hd i1 a n1 its.toArray) (k2.draws (A := X.A.in1) hd i2 b n2 its2.toArray) (k3.draws (A := X.A.in1) hd i3 d n3 its3.toArray)
    have hn : i = min (min its.toArray.size its2.toArray.size) its3.toArray.size := by
      simp only [List.size_toArray]
      omega
    subst hn
    exact W.stops s _ E ⟨hz, hTI, hTO, ⟨h1, p1⟩, ⟨h2, p2⟩, ⟨h3, p3⟩⟩ fun h' tk hk _ => I.turnedL (ch := [z, TI, TO, i1, i2, i3]) (fun c o hb q => hk c o (fun m => hb (by simp only [List.mem_cons, List.not_mem_nil, or_false] at m ⊢; rcases m with m | m | m | m | m <;> simp [m])) q) hf
  self := fun A i s Q E st h => wpAny_pyIter_zip st.1 h
def iZip3 (k1 k2 k3 : SK) (K : PySem.W.Frag) (ta : TA) : TI := fun σ H R => ta σ H fun vs H1 => ∃ a b d xs ys zs, vs = [.ref a, .ref b, .ref d] ∧ k1.Sq K H1 a xs ∧ k2.Sq K H1 b ys ∧ k3.Sq K H1 d zs ∧ R (Itz3 k1 k2 k3 K a b d) H1
theorem pi_zip3 {X : Cx} {e e2 e3 : Expr} {ta : TA} {p pos tpos : Pos} {elts : List Expr} {kk : Nat} (k1 k2 k3 : SK) (hg : Gl X "zip") (hm : X.mg "zip" = none) (ha : PA X [e, e2, e3] ta)
    (hs : starEach [e, e2, e3] X.env = (false, eval e X.env) :: starEach [e2, e3] X.env := by rfl) (hpl : (backTo pos (starEach [e2, e3] X.env)).any (·.1) = false := by rfl) :
    PI X (.Tuple elts kk tpos) (.Call (.Name "zip" p) [e, e2, e3] [] pos) (iZip3 k1 k2 k3 X.K ta) := by
  refine ⟨fun pins s σ H R I h => ?_⟩
  refine Call_ (ld_blt I hg hm PyProof.Rows.boot_zip (PyProof.Rows.callWith_type1 (thn (ha.run pos pins s σ H _ I h) fun us s1 ⟨vs, H1, I1, r1, q1⟩ => ?_) hs hpl))
  obtain ⟨a, b, d, xs, ys, zs, ex, hqx, hqy, hqz, q⟩ := q1
  subst ex
  obtain ⟨u1, u2, u3, rfl, ra, rb, rd⟩ := vals3 r1
  cases (show u1 = Value.ref a from ra)
  cases (show u2 = Value.ref b from rb)
  cases (show u3 = Value.ref d from rd)
  obtain ⟨its, rv, p1, la⟩ := k1.read I1 hqx
  obtain ⟨its2, rv2, p2, lb⟩ := k2.read I1 hqy
  obtain ⟨its3, rv3, p3, ld⟩ := k3.read I1 hqz
  refine zip_begins3 (k1.begins a its.toArray) (k2.begins b its2.toArray) (k3.begins d its3.toArray) p1 p2 p3 fun h' hz hTI hTO g1 g2 g3 hsz hk => wpAny_pyIter_zip hz ?_
  generalize hn : s1.heap.objs.size = n at la lb ld hz hTI hTO g1 g2 g3 hsz ⊢
  have I2 : Inv X pins σ H1 { s1 with heap := h' } := I1.kept (t' := s1.toks) hk
  have l5 : ∀ j : Nat, n ≤ n + j := fun j => Nat.le_add_right _ _
  have A1 : ∀ j, n + j ≠ a := fun j e => absurd (Nat.lt_of_lt_of_le la (l5 j)) (by rw [e]; exact Nat.lt_irrefl _)
  have B1 : ∀ j, n + j ≠ b := fun j e => absurd (Nat.lt_of_lt_of_le lb (l5 j)) (by rw [e]; exact Nat.lt_irrefl _)
  have D1 : ∀ j, n + j ≠ d := fun j e => absurd (Nat.lt_of_lt_of_le ld (l5 j)) (by rw [e]; exact Nat.lt_irrefl _)
  have A0 : n ≠ a := A1 0
  have B0 : n ≠ b := B1 0
  have D0 : n ≠ d := D1 0
  have S : ZipSep3 (n + 5) (n + 3) (n + 4) n (n + 1) (n + 2) [n, a] [n + 1, b] [n + 2, d] := by
    constructor <;> (try simp only [List.mem_cons, List.not_mem_nil, or_false, not_or, true_or]) <;> first
      | exact fun e => absurd e (by show ¬ ((_ : Nat) = _); omega)
      | exact ⟨fun e => absurd e (by show ¬ ((_ : Nat) = _); omega), by first | exact A1 _ | exact B1 _ | exact D1 _ | exact A0 | exact B0 | exact D0⟩
  refine ⟨n + 5, [n + 5, n + 3, n + 4, n, n + 1, n + 2], _, _, H1, rfl, I2, turn_zip3 k1 k2 k3 S A0.symm (B1 1).symm (D1 2).symm, ⟨hz, hTI, ⟨_, _, _, hTO⟩, k1.begun g1, k2.begun g2, k3.begun g3⟩, fun c hcm => ?_, q⟩
  have hle : s1.heap.objs.size ≤ c := by
    rw [hn]
    simp only [List.mem_cons, List.not_mem_nil, or_false] at hcm
    rcases hcm with m | m | m | m | m | m <;> rw [m]
    · exact l5 5
    · exact l5 3
    · exact l5 4
    · exact Nat.le_refl _
    · exact l5 1
    · exact l5 2
  exact I1.fpOk hle (I1.hok.fresh hle)

/-! ### enumerate of a tuple -/
theorem meets_enum1 {v : Value} {o : Obj} {G : Heap → Prop} (B : Begins v o G) :
    Meets (Builtin.«enumerate.__new__» ⟨[.type "enumerate", v], []⟩) (fun _ R s => G s.heap ∧
      R (.ok (.ret (.ref (s.heap.push o).objs.size))) { s with heap := (s.heap.push o).push { cls := .type "enumerate", data := .fields #[.none, .bool false, .ref s.heap.objs.size, rawInt 0, .none, .none] } }) :=
  .of_wp fun prog w A R s h => by
    obtain ⟨hp, g, d, tk, os⟩ := s
    obtain ⟨h1, h⟩ := h
    have hsub := sub_enumerate
    have q1 : ∀ {A' : Around} {E : Value → Shared → Prop} {Q : Value → Shared → Prop}, Q (.ref hp.objs.size) ⟨hp.push o, g, d, tk, os⟩ → wpAny (model prog w) A' (pyIter v) Q E ⟨hp, g, d, tk, os⟩ := fun q => B.iter prog w _ _ ⟨hp, g, d, tk, os⟩ _ h1 q
    wp_walk using q1
    refine wpAny_stack_any fun st => wpAny_pure ?_
    split
    · rename_i c _ _ _ _ _
      cases (c == Value.type "enumerate")
      · wp_walk using q1
        exact ⟨_, rfl, h⟩
      · wp_walk using q1
        exact ⟨_, rfl, h⟩
    · wp_walk using q1
      exact ⟨_, rfl, h⟩
theorem call_enum1 {prog : Program} {w : World} {A : Around} {E : Value → Shared → Prop} {s : Shared} {v : Value} {o : Obj} {G : Heap → Prop} {Q : Value → Shared → Prop} (B : Begins v o G) (h1 : G s.heap)
    (h : ∀ h', IsEnum h' (s.heap.objs.size + 1) s.heap.objs.size 0 .none → h'.get? s.heap.objs.size = some o → (∀ b u, s.heap.get? b = some u → h'.get? b = some u) → Q (.ref (s.heap.objs.size + 1)) { s with heap := h' }) :
    wpAny (model prog w) A (call (.type "enumerate") [v]) Q E s := by
  refine callType_new F.called_enumerate (by decide) (F.typeCall_enumerate_1 _) (F.newCall_enumerate_1 _) (fun obj => F.args_object_init_2 obj _) F.entry_enumerate_new (meets_enum1 B) ⟨h1, ?_⟩
  have z1 : (s.heap.push o).objs.size = s.heap.objs.size + 1 := Heap.size_push ..
  have he := Heap.get?_push_size (s.heap.push o) (o := { cls := .type "enumerate", data := .fields #[.none, .bool false, .ref s.heap.objs.size, rawInt 0, .none, .none] }) rfl
  rw [z1] at he
  show _ ∧ _
  rw [z1]
  exact ⟨⟨_, he, rfl⟩, h _ he (Heap.get?_push_of_some _ (Heap.get?_push_size _ B.free)) fun b u x => Heap.get?_push_of_some _ (Heap.get?_push_of_some _ x)⟩
def IteT (K : PySem.W.Frag) (a : Addr) : It :=
  ⟨fun i H => ∃ xs : List V, SqT K H a xs ∧ i < xs.length, fun i H v H' => ∃ T x, v = .ref T ∧ H T = none ∧ H' = upd H T (.tup [.int (i : Nat), x]) ∧ ∀ xs, SqT K H a xs → xs[i]? = some x, fun i H => ∃ xs : List V, SqT K H a xs ∧ i = xs.length⟩
theorem turn_enumT {P : Program} {w : World} {K : PySem.W.Frag} {elts : List Expr} {kk : Nat} {tpos : Pos} {a e it : Addr} (hei : e ≠ it) (hea : e ≠ a) (hai : a ≠ it) :
    Turn P w K (.Tuple elts kk tpos) (IteT K a) [e, it] e (fun i h => (∃ old, IsEnum h e it (0 + ((i : Nat) : Int)) old) ∧ h.IsTupleIter it a i) where
  mem := List.mem_cons_self
  obj := fun i h st c hc => by
    obtain ⟨⟨old, he⟩, hi⟩ := st
    simp only [List.mem_cons, List.not_mem_nil, or_false] at hc
    rcases hc with q | q <;> subst q
    · exact ⟨_, he, fun v q => nomatch q⟩
    · exact SK.t.obj hi
  keep := fun i h h' st k => by
    obtain ⟨⟨old, he⟩, hi⟩ := st
    exact ⟨⟨old, k e (by simp) _ he⟩, hi.at fun o q => k it (by simp) o q⟩
  item := by
    intro X hP hw hK hc i pins s σ H E I hf st hg
    subst hP hw hK
    obtain ⟨he, h1⟩ := st
    obtain ⟨xs, hqx, hx⟩ := hg
    obtain ⟨its, rv, p1, _⟩ := SK.t.read I hqx
    have l1 := rv.length
    have hd := I.ok.hd hc
    have W := GoesN.enumFrom (prog := X.prog) (w := X.w) (A := X.A) (elts := elts) (x1 := kk) (pos := tpos) 0 (SK.t.draws (A := X.A.in1) hd it a hai its.toArray) e hei (by simp [hei, hea]) (by simp)
    refine W.goes i s _ E (by simp only [List.size_toArray]; omega) ⟨he, ⟨h1, p1⟩⟩ fun v h' tk hY st' hk _ => ?_
    obtain ⟨T, t1, u1, rfl, hT, e1, hTup⟩ := hY
    obtain ⟨he', ⟨h1', _⟩⟩ := st'
    have e1 : its[i]? = some u1 := by simpa using e1
    have ex : xs[i]? = some xs[i] := List.getElem?_eq_getElem hx
    obtain ⟨w1, f1, r1⟩ := rv.get ex
    rw [e1] at f1
    cases f1
    rw [Int.zero_add] at hTup
    have new : ObjOk X.prog X.w (upd H T (.tup [.int (i : Nat), xs[i]])) h' T (.tup [.int (i : Nat), xs[i]]) := ⟨by show 2 ≤ sizeLine; decide, [.int (i : Nat) t1, u1], .cons ⟨_, rfl⟩ (.cons r1 .nil), hTup⟩
    have I1 : Inv X pins σ (upd H T (.tup [.int (i : Nat), xs[i]])) { s with heap := h', toks := tk } := I.turnedNew (ch := [e, it]) (fun c o hb q => hk c o hb q) hf hT new
    refine ⟨.ref T, _, I1, rfl, ⟨T, xs[i], rfl, I.hok.fresh hT, rfl, fun zs hq => by rw [I.tuple_inj hq hqx]; exact ex⟩, ⟨he', h1'⟩, fun c hcm => ?_⟩
    have nT : c ≠ T := fun q => by
      subst q
      have lt : c < s.heap.objs.size := by
        simp only [List.mem_cons, List.not_mem_nil, or_false] at hcm
        obtain ⟨old, he⟩ := he
        rcases hcm with q | q <;> subst q
        · exact Heap.lt_size he
        · obtain ⟨o, eo, _⟩ := SK.t.obj h1
          exact Heap.lt_size eo
      exact absurd (Nat.lt_of_lt_of_le lt hT) (Nat.lt_irrefl _)
    rw [upd_ne nT]
    exact (hf c hcm).1
  done := by
    intro X hP hw hK hc i pins s σ H E I hf st hg
    subst hP hw hK
    obtain ⟨he, h1⟩ := st
    obtain ⟨xs, hqx, hi⟩ := hg
    obtain ⟨its, rv, p1, _⟩ := SK.t.read I hqx
    have l1 := rv.length
    have W := GoesN.enumFrom (prog := X.prog) (w := X.w) (A := X.A) (elts := elts) (x1 := kk) (pos := tpos) 0 (SK.t.draws (A := X.A.in1) (I.ok.hd hc) it a hai its.toArray) e hei (by simp [hei, hea]) (by simp)
    have hn : i = its.toArray.size := by
      simp only [List.size_toArray]
      omega
    subst hn
    exact W.stops s _ E ⟨he, ⟨h1, p1⟩⟩ fun h' tk hk _ => I.turnedL (ch := [e, it]) (fun c o hb q => hk c o hb q) hf
  self := fun A i s Q E st h => by
    obtain ⟨⟨old, he⟩, _⟩ := st
    exact wpAny_pyIter_enum he h
def iEnumT (K : PySem.W.Frag) (ta : TA) : TI := fun σ H R => ta σ H fun vs H1 => ∃ a xs, vs = [.ref a] ∧ SqT K H1 a xs ∧ R (IteT K a) H1
theorem pi_enumT {X : Cx} {e : Expr} {ta : TA} {p pos tpos : Pos} {elts : List Expr} {kk : Nat} (hg : Gl X "enumerate") (hm : X.mg "enumerate" = none) (ha : PA X [e] ta) (hs : starEach [e] X.env = [(false, eval e X.env)] := by rfl) :
    PI X (.Tuple elts kk tpos) (.Call (.Name "enumerate" p) [e] [] pos) (iEnumT X.K ta) := by
  refine ⟨fun pins s σ H R I h => ?_⟩
  refine Call_ (ld_blt I hg hm boot_enumerate (PyProof.Rows.callWith_type1 (thn (ha.run pos pins s σ H _ I h) fun us s1 ⟨vs, H1, I1, r1, q1⟩ => ?_) hs rfl))
  obtain ⟨a, xs, ex, hq, q⟩ := q1
  subst ex
  obtain ⟨u1, rfl, ra⟩ := vals1 r1
  cases (show u1 = Value.ref a from ra)
  obtain ⟨its, rv, p1, la⟩ := SK.t.read I1 hq
  refine call_enum1 (SK.t.begins a its.toArray) p1 fun h' he g1 hk => wpAny_pyIter_enum he ?_
  generalize hn : s1.heap.objs.size = n at la he g1 ⊢
  have I2 : Inv X pins σ H1 { s1 with heap := h' } := I1.kept (t' := s1.toks) hk
  have n0 : a ≠ n := fun z => absurd la (by rw [z]; exact Nat.lt_irrefl _)
  refine ⟨n + 1, [n + 1, n], _, _, H1, rfl, I2, turn_enumT (Nat.succ_ne_self _) (fun z => absurd la (by rw [← z]; exact fun z => absurd (Nat.lt_trans (Nat.lt_succ_self n) z) (Nat.lt_irrefl _))) n0, ⟨⟨.none, by simpa using he⟩, SK.t.begun g1⟩, fun c hcm => ?_, q⟩
  have hle : s1.heap.objs.size ≤ c := by
    rw [hn]
    simp only [List.mem_cons, List.not_mem_nil, or_false] at hcm
    rcases hcm with m | m <;> rw [m]
    · exact Nat.le_succ _
    · exact Nat.le_refl _
  exact I1.fpOk hle (I1.hok.fresh hle)

/-! ### max of three ints; a list's place read for xs[i] op= e -/
def rMax3 : List V → Hp → VK → Prop := fun xs H Q => ∃ i j k, xs = [.int i, .int j, .int k] ∧ Q (.int (max (max i j) k)) H
theorem call_max3 {X : Cx} (hc : X.calm = true) : CallR X (.builtin "max") rMax3 := by
  intro pins s σ H xs us Q I r h
  obtain ⟨i, j, k, rfl, q⟩ := h
  obtain ⟨u1, u2, u3, rfl, ⟨t1, rfl⟩, ⟨t2, rfl⟩, ⟨t3, rfl⟩⟩ := vals3 r
  refine max3_num (I.ok.hd hc) (.int _ _) (.int _ _) (.int _ _) fun h' tk kk => ⟨_, H, I.kept kk, ?_, q⟩
  have e1 : Flt.ltV (.int i t1) (.int j t2) = decide (i < j) := rfl
  rw [e1]
  by_cases h1 : i < j
  · rw [decide_eq_true h1, if_pos rfl]
    have e2 : Flt.ltV (.int j t2) (.int k t3) = decide (j < k) := rfl
    rw [e2]
    by_cases h2 : j < k
    · rw [decide_eq_true h2, if_pos rfl]
      exact ⟨t3, by congr 1; omega⟩
    · rw [decide_eq_false h2, if_neg Bool.false_ne_true]
      exact ⟨t2, by congr 1; omega⟩
  · rw [decide_eq_false h1, if_neg Bool.false_ne_true]
    have e2 : Flt.ltV (.int i t1) (.int k t3) = decide (i < k) := rfl
    rw [e2]
    by_cases h2 : i < k
    · rw [decide_eq_true h2, if_pos rfl]
      exact ⟨t3, by congr 1; omega⟩
    · rw [decide_eq_false h2, if_neg Bool.false_ne_true]
      exact ⟨t1, by congr 1; omega⟩
end TW
/-! Rules that the claim adds: dicts whose keys are tuples (setdefault, comprehension), remove and sorted of tuples of ints, xs[i] op= e. -/
namespace TW
open PySem PySem.Spec PyProof.Rows L2

/-! ### the shape of a method's call -/
section
variable {X : Cx} {o e f : Expr} {m : Str} {apos cpos : Pos}
theorem mk_m1 (h1 : attributeBase o m X.env (eval o X.env) = eval o X.env := by rfl) (h2 : ((backTo cpos (starEach [e] X.env)).all (fun x => !x.1) && (backToKw cpos (keywordEach [] X.env)).all (fun x => x.1.isSome)
    && decide (([e] : List Expr).length + ([] : List Keyword).length + (if ([] : List Keyword).isEmpty then 0 else 1) < 30)) = true := by rfl) (h3 : (apos.endLine == cpos.line) = true := by rfl) (h4 : backTo cpos (starEach [e] X.env) = [(false, eval e X.env)] := by rfl) : M1 X o m apos e cpos := ⟨h1, h2, h3, h4⟩
theorem mk_m2 (h1 : attributeBase o m X.env (eval o X.env) = eval o X.env := by rfl) (h2 : ((backTo cpos (starEach [e, f] X.env)).all (fun x => !x.1) && (backToKw cpos (keywordEach [] X.env)).all (fun x => x.1.isSome)
    && decide (([e, f] : List Expr).length + ([] : List Keyword).length + (if ([] : List Keyword).isEmpty then 0 else 1) < 30)) = true := by rfl) (h3 : (apos.endLine == cpos.line) = true := by rfl) (h4 : backTo cpos (starEach [e, f] X.env) = [(false, eval e X.env), (false, eval f X.env)] := by rfl) : M2 X o m apos e f cpos := ⟨h1, h2, h3, h4⟩
end

/-! ### xs[j] read for an operator's store -/
def rGetL : V → V → Hp → VK → Prop := fun x y H Q => ∃ p xs j v, x = .ref p ∧ y = .int ((j : Nat) : Int) ∧ H p = some (.lst xs) ∧ xs[j]? = some v ∧ Q v H
theorem get_list {X : Cx} : PGet X rGetL := by
  intro pins s σ H x y xv yv Q I rx ry h
  obtain ⟨p, xs, j, v, rfl, rfl, hp, hj, q⟩ := h
  cases (show xv = Value.ref p from rx)
  obtain ⟨t, rfl⟩ := (show ∃ t, yv = Value.int ((j : Nat) : Int) t from ry)
  obtain ⟨its, r, pl, hz⟩ := I.list (SqL.of hp)
  obtain ⟨u, hu, ru⟩ := r.get hj
  have hl := line63
  obtain ⟨hlt, _⟩ := List.getElem?_eq_some_iff.mp hj
  exact wpAny_getItem_list pl.isList (Int.natCast_nonneg j) (by omega) (x := u) (by simpa using hu) ⟨v, H, I, ru, q⟩

/-! ### remove of a pair of ints -/
def prI (f : Int × Int) : PyData := .tuple [.int f.1, .int f.2]
theorem prI_lay (f : Int × Int) : (prI f).canLay0 = true := by simp [prI, PyData.canLay0, PyData.canLayAll0]
theorem prI_depth (f : Int × Int) : (prI f).depth = 1 := by simp [prI, PyData.depth, PyData.depthAll]
theorem prIs_lay : ∀ fs : List (Int × Int), PyData.canLayAll0 (fs.map prI) = true
  | [] => rfl
  | f :: r => by
    show ((prI f).canLay0 && PyData.canLayAll0 (r.map prI)) = true
    rw [prI_lay, prIs_lay r]
    rfl
theorem prIs_depth : ∀ fs : List (Int × Int), PyData.depthAll (fs.map prI) ≤ 1
  | [] => by simp [PyData.depthAll]
  | f :: r => by
    have h := prIs_depth r
    have h0 := prI_depth f
    show max (prI f).depth (PyData.depthAll (r.map prI)) ≤ 1
    omega
theorem prI_eqv (f g : Int × Int) : PyData.eqv (prI f) (prI g) = decide (f = g) := by
  obtain ⟨a, b⟩ := f
  obtain ⟨c, d⟩ := g
  have e : PyData.eqv (prI (a, b)) (prI (c, d)) = ((a == c) && ((b == d) && true)) := by simp only [prI, PyData.eqv, PyData.eqvAll]
  rw [e, Bool.eq_iff_iff]
  simp
/-- a pair of ints, tracked -/
def FrAt (H : Hp) (v : V) (f : Int × Int) : Prop := ∃ a, v = .ref a ∧ H a = some (.tup [.int f.1, .int f.2])
theorem FrAt.dp {K : PySem.W.Frag} {H : Hp} {v : V} {f : Int × Int} (h : FrAt H v f) : Dp K H v (prI f) := by
  obtain ⟨a, rfl, h⟩ := h
  exact .tup (SqT.of h) (.cons (.int _) (.cons (.int _) .nil))
theorem frAll_dp {K : PySem.W.Frag} {H : Hp} : ∀ {vs : List V} {fs : List (Int × Int)}, Paired (FrAt H) vs fs → DpAll K H vs (fs.map prI)
  | _, _, .nil => .nil
  | _, _, .cons h r => .cons h.dp (frAll_dp r)
def rRemoveF : V → List V → Hp → VK → Prop := fun x xs H Q => ∃ (l : Addr) (ys : List V) (fs : List (Int × Int)) (y : V) (j : Nat) (f : Int × Int), x = .ref l ∧ xs = [y] ∧ H l = some (.lst ys) ∧ Paired (FrAt H) ys fs ∧ FrAt H y f ∧ fs[j]? = some f ∧ (∀ m, m < j → fs[m]? ≠ some f) ∧
  Q .non (upd H l (.lst (ys.eraseIdx j)))
theorem mt_removeD {X : Cx} (hu : X.A.units + 64 < cLine) : MtR X "list.remove" rRemoveF := by
  intro pins s σ H x xs v us Q I rx rxs h
  obtain ⟨l, ys, fs, y, j, f, rfl, rfl, hH, hys, hy, hj, hno, q⟩ := h
  cases (show v = Value.ref l from rx)
  obtain ⟨uy, rfl, ry⟩ := vals1 rxs
  obtain ⟨bs, r1⟩ := Dp.reads I (prI f) y uy hy.dp ry
  obtain ⟨z, its, n, rv, hl, e0⟩ := I.lstM hH
  obtain ⟨as, h4⟩ := Dp.readsAll I (fs.map prI) _ its (frAll_dp hys) rv
  have hn : its.length = (fs.map prI).length := SeqAt.ReadsAll.length (fs.map prI) its as h4
  have hmap : its.map (SeqAt.readOf s.heap) = fs.map prI := SeqAt.readsAll_map (fs.map prI) its as (prIs_lay fs) h4
  have hroom : X.A.units + 1 + min (PyData.depthAll (fs.map prI)) (prI f).depth < cLine := by
    have := prI_depth f
    have := Nat.min_le_right (PyData.depthAll (fs.map prI)) (prI f).depth
    omega
  rw [List.length_map] at hn
  obtain ⟨hjl, _⟩ := List.getElem?_eq_some_iff.mp hj
  have at_ : ∀ (m : Nat) (hm : m < its.toArray.size) (g : Int × Int), fs[m]? = some g → SeqAt.readOf s.heap its.toArray[m] = prI g := by
    intro m hm g hg
    have hml : m < its.length := by simpa using hm
    have e1 : (its.map (SeqAt.readOf s.heap))[m]? = (fs.map prI)[m]? := by rw [hmap]
    rw [List.getElem?_map, List.getElem?_eq_getElem hml, List.getElem?_map, hg] at e1
    simpa using Option.some.inj e1
  refine call_meets PySem.F.slot_list_remove ⟨_, e0, rfl⟩ PySem.F.entry_list_remove (PySem.F.args_list_remove_2 _ _)
    (SeqAt.list_removeAt l its.toArray n none #[] uy (fun u => PyData.eqv (SeqAt.readOf s.heap u) (prI f)) j (by simp only [List.size_toArray]; omega) ?_ (fun m hm hmj => ?_) (by simp only [List.size_toArray]; omega))
    ⟨e0, SeqAt.items_eqAt (vs := its.toArray) (show ReadsAll s.heap its.toArray.toList (fs.map prI) as from h4) r1 (prIs_lay fs) (prI_lay f) hroom, ?_⟩
  · have hjs : j < its.toArray.size := by
      simp only [List.size_toArray]
      omega
    show PyData.eqv (SeqAt.readOf s.heap (its.toArray[j]'hjs)) (prI f) = true
    rw [at_ j hjs f hj, prI_eqv]
    exact decide_eq_true rfl
  · have hmd : m < fs.length := by omega
    show PyData.eqv (SeqAt.readOf s.heap its.toArray[m]) (prI f) = false
    rw [at_ m hm _ (List.getElem?_eq_getElem hmd), prI_eqv]
    refine decide_eq_false fun e => hno m hmj ?_
    rw [List.getElem?_eq_getElem hmd, e]
  · have r2 : Vals (ys.eraseIdx j) (its.eraseIdx j) := rv.eraseIdx j
    refine ⟨.non, _, I.lset (its' := its.eraseIdx j) hH e0 ?_ r2 (Nat.le_trans (len_erase _ _) z), rfl, q⟩
    show its.toArray.eraseIdxIfInBounds j = (its.eraseIdx j).toArray
    rw [List.eraseIdxIfInBounds_toArray]

/-! ### sorted of tuples of ints -/
section
variable {prog : Program} {w : World} {A : Around} {s : Shared}
theorem lex_tot {fin b : Bool} : ∀ {xs ys : List Value} {ns ms : List Int} (i : Nat), IntsAre xs ns → IntsAre ys ms → ∃ c : Bool, PySem.W.KatLex prog w A b fin (fun r s' => s' = s ∧ r = c) (xs.zip ys) i s
  | _, _, _, _, i, .nil, _ => ⟨fin, by
    rw [List.zip_nil_left]
    exact PySem.W.kat_nil ⟨rfl, rfl⟩⟩
  | _, _, _, _, i, @IntsAre.cons _ _ _ _ _, .nil => ⟨fin, by
    rw [List.zip_nil_right]
    exact PySem.W.kat_nil ⟨rfl, rfl⟩⟩
  | _, _, _, _, i, @IntsAre.cons p t xs ns hx, @IntsAre.cons q u ys ms hy => by
    by_cases e : p = q
    · obtain ⟨c, h⟩ := lex_tot (fin := fin) (b := b) (i + 1) hx hy
      refine ⟨c, PySem.W.kat_cons (wpAny_eqBool_int ?_)⟩
      rw [show (p == q) = true by simp [e]]
      exact PySem.W.kat_yes h
    · refine ⟨decide (p < q), PySem.W.kat_cons (wpAny_eqBool_int ?_)⟩
      rw [show (p == q) = false from beq_eq_false_iff_ne.mpr e]
      exact PySem.W.kat_no (TS.oneLt_ints _ ⟨rfl, rfl⟩)
theorem tups_firsts {h : Heap} : ∀ {vs : List Value}, (∀ v ∈ vs, ∃ ns, TS.TupInts h v ns ∧ ns ≠ []) → ∃ fs : List Value, PySem.W.KatTups h vs fs ∧ fs.length = vs.length ∧ ∀ f ∈ fs, ∃ x t, f = Value.int x t
  | [], _ => ⟨[], PySem.W.KatTups.nil, rfl, fun _ hm => by simp at hm⟩
  | v :: vs, hp => by
    obtain ⟨fs, h1, h2, h3⟩ := tups_firsts (vs := vs) fun v' hm => hp v' (List.mem_cons_of_mem _ hm)
    obtain ⟨ns, ⟨a, ⟨xs⟩, rfl, ⟨o, ho, hc, n, hd⟩, hi⟩, hne⟩ := hp v List.mem_cons_self
    cases hi with
    | nil => exact absurd rfl hne
    | @cons p t xs' ns' hx =>
      refine ⟨.int p t :: fs, PySem.W.KatTups.cons ho hc hd rfl h1, by rw [List.length_cons, List.length_cons, h2], fun f hm => ?_⟩
      rcases List.mem_cons.mp hm with rfl | hm
      · exact ⟨p, t, rfl⟩
      · exact h3 f hm
theorem tups_sortable {a : Addr} {vs : List Value} (h0 : 0 < vs.length) (hp : ∀ v ∈ vs, ∃ ns, TS.TupInts s.heap v ns ∧ ns ≠ []) (ha : ∀ o, s.heap.get? a = some o → o.cls ≠ .type "tuple") : Srt.Sortable prog w A s a vs := by
  intro h' keep
  have hp' : ∀ v ∈ vs, ∃ ns, TS.TupInts h' v ns ∧ ns ≠ [] := fun v hm => by
    obtain ⟨ns, p, ne⟩ := hp v hm
    exact ⟨ns, p.keeps fun b o e c => keep b o (fun z => by subst z; exact ha o e c) e, ne⟩
  obtain ⟨fs, h1, h2, h3⟩ := tups_firsts hp'
  refine ⟨tuples' true, fun Q E hq => ?_, fun p q hm hm' => ?_⟩
  · refine PySem.W.kat_kind (T := .type "int") h1 (by omega) (fun f hm => ?_) (by rfl) ?_
    · obtain ⟨x, t, rfl⟩ := h3 f hm
      exact PySem.W.Looks.now
    · rw [show (Value.type "int" != Value.type "tuple") = true by first | decide +kernel | rfl | decide]
      exact hq
  · obtain ⟨ns, ⟨x, xs, ex, ⟨o, ho, hc, n, hd⟩, hi⟩, _⟩ := hp' _ hm
    obtain ⟨ms, ⟨y, ys, ey, ⟨o', ho', hc', n', hd'⟩, hi'⟩, _⟩ := hp' _ hm'
    rw [ex, ey]
    obtain ⟨c, h⟩ := lex_tot (prog := prog) (w := w) (A := A) (s := { s with heap := h' }) (fin := decide (xs.size < ys.size)) (b := true) 0 hi hi'
    exact ⟨c, PySem.W.kat_lt ho hd ho' hd' h⟩
end
/-- sorted(xs), xs a list of tuples of ints: a new list of the same in some order -/
def rSortTs : List V → Hp → VK → Prop := fun vs H Q => ∃ (a : Addr) (bs : List Addr), vs = [.ref a] ∧ H a = some (.lst (bs.map V.ref)) ∧ (∀ b ∈ bs, ∃ ns : List Int, ns ≠ [] ∧ H b = some (.tup (ns.map V.int))) ∧
  ∀ (p : Addr) (cs : List Addr), cs.Perm bs → H p = none → Q (.ref p) (upd H p (.lst (cs.map V.ref)))
theorem refs_of : ∀ {bs : List Addr} {us : List Value}, Vals (bs.map V.ref) us → us = bs.map Value.ref
  | [], _, .nil => rfl
  | b :: r, _, .cons h t => by
    rw [show _ = Value.ref b from h, refs_of t]
    rfl
theorem refs_vals : ∀ bs : List Addr, Vals (bs.map V.ref) (bs.map Value.ref)
  | [] => .nil
  | _ :: r => .cons rfl (refs_vals r)
def unref : Value → Addr
  | .ref b => b
  | _ => 0
theorem perm_refs {bs : List Addr} {out : List Value} (hp : out.Perm (bs.map Value.ref)) : ∃ cs : List Addr, cs.Perm bs ∧ out = cs.map Value.ref := by
  refine ⟨out.map unref, ?_, ?_⟩
  · have h := hp.map unref
    rw [List.map_map] at h
    have e : bs.map (unref ∘ Value.ref) = bs := by
      rw [show (unref ∘ Value.ref) = id from rfl, List.map_id]
    rw [e] at h
    exact h
  · have hm : ∀ v ∈ out, Value.ref (unref v) = v := fun v hv => by
      obtain ⟨b, _, e⟩ := List.mem_map.mp (hp.mem_iff.mp hv)
      rw [← e]
      rfl
    rw [List.map_map]
    exact (List.map_congr_left (g := id) (fun v hv => hm v hv)).trans (List.map_id _) |>.symm
theorem cr_sortTs {X : Cx} : CallR X (.builtin "sorted") rSortTs := by
  intro pins s σ H vs us Q I r h
  obtain ⟨a, bs, rfl, ha, hb, q⟩ := h
  obtain ⟨its, rv, pl, hz⟩ := I.list (SqL.of ha)
  obtain rfl := refs_of rv
  rw [Vals.ref1 r]
  rw [List.length_map] at hz
  have tups : ∀ v ∈ bs.map Value.ref, ∃ ns, TS.TupInts s.heap v ns ∧ ns ≠ [] := fun v hv => by
    obtain ⟨b, hm, rfl⟩ := List.mem_map.mp hv
    obtain ⟨ns, ne, e⟩ := hb b hm
    obtain ⟨its, rt, pt, _⟩ := I.tuple (SqT.of e)
    exact ⟨ns, ⟨b, its.toArray, rfl, pt, by simpa using intsAre_of rt⟩, ne⟩
  refine Srt.sorted_any (vs := bs.map Value.ref) pl.isList (by rw [List.length_map]; exact hz) (fun h2 h₁ c hc keep => tups_sortable (s := { s with heap := h₁ }) (by omega) (fun v hm => ?_) fun o e => ?_) fun out hp => ?_
  · obtain ⟨ns, p, ne⟩ := tups v hm
    exact ⟨ns, p.keeps fun b o e _ => (keep b o e).2, ne⟩
  · rw [show o = _ from Option.some.inj (e.symm.trans hc)]
    exact fun c => absurd (Value.type.inj c) (by decide)
  · obtain ⟨cs, hcs, rfl⟩ : ∃ cs : List Addr, cs.Perm bs ∧ out = cs.map Value.ref := by
      exact perm_refs hp
    have hlen := hcs.length_eq
    obtain ⟨ep, he⟩ := sortedAll_at s.heap (bs.map Value.ref) (cs.map Value.ref).toArray
    have hn : H (s.heap.objs.size + 1) = none := I.hok.fresh (Nat.le_succ _)
    exact ⟨.ref _, upd H (s.heap.objs.size + 1) (.lst (cs.map V.ref)), I.laid (t' := s.toks) (fun _ _ => sortedAll_old) (Nat.le_succ _) ⟨by rw [List.length_map]; omega, _, ep, refs_vals cs, he⟩, rfl, q _ cs hcs hn⟩

/-! ### dicts whose keys are tuples -/
/-- what a store of the heap model leaves, tracked -/
theorem dt_stored {X : Cx} {pins : List (Addr × Obj)} {σ : L2.St} {H : Hp} {s : Shared} {d b : Addr} {kvs : List (List Key × V)} {k : List Key} {v : V} {r : Value} {xs : List (List Key × Addr × Value)} {h' : Heap} {tk : Nat} (I : Inv X pins σ H s) (e : H d = some (.dT kvs)) (eb : H b = some (.tup (k.map kV)))
    (hl : kvs.length < sizeLine) (rv : RelV v r) (hd : (d == sysModules) = false) (rel : KT H kvs xs) (dd : h'.DictOfH (tupleKind (mixKind X.prog X.w)) d (storedH xs k b r)) (hs : Heap.SameBut d s.heap h') :
    Inv X pins σ (upd H d (.dT (putK kvs k v))) { s with heap := h', toks := tk } := by
  have hz : (putK kvs k v).length ≤ sizeLine := by
    have := length_putK kvs k v
    omega
  obtain ⟨o, es, ep, ho, h2, h3, h4, _, h5⟩ := dd
  refine d_write I (by rw [e]; exact True.intro) hs ⟨o, ho⟩ ⟨hz, hd, _, (rel.put k eb rv).keeps fun c ys ec => ?_, o, es, ep, ho, h2, h3, h4, h5⟩
  rw [upd_ne (ne_of ec e (fun z => nomatch z))]
  exact ec
def tDSetdT (td ty tx : TE) : TE := fun σ H Q => td σ H fun x H1 => ∃ a, x = .ref a ∧ IsD H1 a ∧ ty σ H1 fun y H2 => tx σ H2 fun z H3 => ∃ (kvs : List (List Key × V)) (k : List Key) (b : Addr), H3 a = some (.dT kvs) ∧ y = .ref b ∧ H3 b = some (.tup (k.map kV)) ∧ kvs.length < sizeLine ∧
  (∀ v, valV kvs k = some v → Q v H3) ∧ (valV kvs k = none → Q z (upd H3 a (.dT (putK kvs k z))))
theorem pe_dsetdT {X : Cx} {o e f : Expr} {td ty tx : TE} {apos cpos : Pos} (hu : X.A.units + 1 < cLine) (ho : PE X o td) (he : PE X e ty) (hf : PE X f tx) (m : M2 X o "setdefault" apos e f cpos) : PE X (.Call (.Attribute o "setdefault" apos) [e, f] [] cpos) (tDSetdT td ty tx) := by
  refine ⟨fun pins s σ H Q I h => ?_⟩
  refine wpAny_Call_method m.base m.few m.line PySem.F.plainAttrs_dict PySem.F.slot_dict_setdefault PySem.F.type_dict_setdefault (thn (ho.run pins s σ H _ I h) fun u s1 ⟨x, H1, I1, rx, a, ex, d, q1⟩ => ?_)
  subst ex
  obtain rfl : u = Value.ref a := rx
  obtain ⟨t1, t2, _⟩ := isD_at I1 d
  refine ⟨t1, t2, ?_⟩
  rw [m.trees]
  refine Calls.callWith_builtin rfl (Calls.evalArgs_plain (Calls.spliced_cons (thn (he.run pins s1 σ H1 _ I1 q1) fun iv s2 ⟨y, H2, I2, ry, q2⟩ => Calls.spliced_cons (thn (hf.run pins s2 σ H2 _ I2 q2) fun fv s3 ⟨z, H3, I3, rz, kvs, k, b, ea, ey, eb, hl, q3, q4⟩ => Calls.spliced_nil ?_))))
  subst ey
  obtain rfl : iv = Value.ref b := ry
  obtain ⟨zl, hd, xs, rel, dd⟩ := dt_of I3.hok ea
  have hx : xs.length ≤ sizeLine := by
    rw [← Paired.length rel]
    exact zl
  have hval := rel.val k
  refine call_setdefault_heap (hsz := hx) (tupleKind_room_in1 hu) (key_of I3.hok eb) hd dd (fun p hp => ?_) fun hn h' dd' hs => ?_
  · rw [hp] at hval
    cases q0 : valV kvs k with
    | none =>
      rw [q0] at hval
      exact hval.elim
    | some v0 =>
      rw [q0] at hval
      exact ⟨v0, H3, I3.tok _, hval, q3 v0 q0⟩
  · rw [hn] at hval
    cases q0 : valV kvs k with
    | some v0 =>
      rw [q0] at hval
      exact (show False from hval).elim
    | none => exact ⟨z, _, dt_stored I3 ea eb hl rz hd rel dd' hs, rz, q4 q0⟩
/-- a store by a comprehension -/
theorem dictSet_T {X : Cx} {pins : List (Addr × Obj)} {σ : L2.St} {H : Hp} {s : Shared} {E : Value → Shared → Prop} {D b : Addr} {kvs : List (List Key × V)} {k : List Key} {v : V} {u r : Value} {Q : Unit → Shared → Prop} (hu : X.A.units + 1 < cLine) (I : Inv X pins σ H s) (hD : H D = some (.dT kvs))
    (hb : H b = some (.tup (k.map kV))) (hz : kvs.length < sizeLine) (ry : RelV (.ref b) u) (rv : RelV v r) (h : ∀ s', Inv X pins σ (upd H D (.dT (putK kvs k v))) s' → Q () s') : wpAny (model X.prog X.w) X.A (dictSet D u r) Q E s := by
  obtain rfl : u = Value.ref b := ry
  obtain ⟨zl, hd, xs, rel, dd⟩ := dt_of I.hok hD
  have hx : xs.length ≤ sizeLine := by
    rw [← Paired.length rel]
    exact zl
  exact wpAny_dictSet_heap (hsz := hx) (show X.A.units < cLine from Nat.lt_of_le_of_lt (Nat.le_succ _) hu) (key_of I.hok hb) dd fun h' dd' hs => h _ (dt_stored I hD hb hz rv hd rel dd' hs)
end TW
/-! {k: v for target in iter if ..} where the keys are tuples. -/
namespace TW
open PySem PySem.Spec PyProof.Rows L2
section
variable {X : Cx}
def tDcT (wi : TI) (g : TG) (tt : TT) (tk tv : TE) (vs : List Nat) : TE := fun σ H Q => wi σ H fun J H1 => ∀ D, H1 D = none → ∃ W : Nat → Nat → Hp → Prop, (∃ m, W 0 m (upd H1 D (.dT []))) ∧ ∀ i m H, W i m H →
  (J.stop i H ∧ Q (.ref D) H) ∨ (J.go i H ∧ ∃ Nx : Hp → Prop, (∀ H', Nx H' → ∃ m', m' < m ∧ W (i + 1) m' H') ∧ ∀ x H', J.yld i H x H' → g x (wipe σ vs) H' fun σ2 H2 => wipe σ2 vs = wipe σ vs ∧ tt σ2 H2 fun c H3 =>
    if c = true then tk σ2 H3 fun y H4 => tv σ2 H4 fun z H5 => ∃ kvs k b, y = .ref b ∧ H5 b = some (.tup (k.map kV)) ∧ H5 D = some (.dT kvs) ∧ kvs.length < sizeLine ∧ Nx (upd H5 D (.dT (putK kvs k z))) else Nx H3)
/-- the rules of the block's parts, whatever the block's frame -/
structure BlkRules (X : Cx) (scope : Scope) (tg : Expr) (ifs : List Expr) (kx vx : Expr) (g : TG) (tt : TT) (tk tv : TE) : Prop where
  g : ∀ (s : Shared) (H : Hp) (C : Addr) (cl : List (Str × Addr)) (fp : List Addr), PG (X.blk s H scope (compEnvC scope cl C X.env) fp) tg g
  t : ∀ (s : Shared) (H : Hp) (C : Addr) (cl : List (Str × Addr)) (fp : List Addr), PTs (X.blk s H scope (compEnvC scope cl C X.env) fp) ifs tt
  k : ∀ (s : Shared) (H : Hp) (C : Addr) (cl : List (Str × Addr)) (fp : List Addr), PE (X.blk s H scope (compEnvC scope cl C X.env) fp) kx tk
  v : ∀ (s : Shared) (H : Hp) (C : Addr) (cl : List (Str × Addr)) (fp : List Addr), PE (X.blk s H scope (compEnvC scope cl C X.env) fp) vx tv
theorem dcT_core {pins : List (Addr × Obj)} {s : Shared} {σ : L2.St} {H : Hp} {Q : VK} {kx vx tg iter : Expr} {ifs : List Expr} {scope : Scope} {own : List (Str × Nat)} {pos pos' : Pos} {wi : TI} {g : TG} {tt : TT} {tk tv : TE} {use : Option (Value → Sem Unit)} {Qf : Value → Shared → Prop}
    (hc : X.calm = true) (hN : X.N.Nodup) (hu : X.A.units + 1 < cLine) (I : Inv X pins σ H s) (hi : PI X tg iter wi) (ok : BlkOk X.N X.env.scope scope own) (R : BlkRules X scope tg ifs kx vx g tt tk tv) (hs : ∀ x, foldedSetIterable iter X.env x = pure x)
    (h : tDcT wi g tt tk tv (own.map (·.2)) σ H Q)
    (fin : ∀ D C s' m H', Inv X pins σ H' s' → Q (.ref D) H' → s'.heap.Ns C m → FpOk X pins H' C → compPost (model X.prog X.w) X.A X.xe use Qf (.ref D) C (.ok .next) s') :
    wpAny (model X.prog X.w) X.A (comprehension (.DictComp kx vx [⟨tg, iter, ifs, 0⟩] scope pos) scope X.env pos' newDict false (eval iter X.env) use) Qf X.xe s := by
  have hfree : ∀ y ∈ scope.names, y.2 = .free → ∃ c, X.env.cells.lookup y.1 = some c := fun y hy e => I.ok.has _ (ok.free y hy e)
  refine wpAny_comprehension_free (use := use) rfl hs (closure_ok hfree) ok.kind (fun y hy e => by rw [ok.uniq y hy, e]) (thn (hi.run pins s σ H _ I h) fun xv s1 hx => thn hx fun itv s2 h2 => ?_)
  obtain ⟨it, fp, tn, J, H2, rfl, I2, T, st2, f2, q⟩ := h2
  refine wpAny_newObj_type (newEnv_comp ?_)
  generalize hD : s2.heap.objs.size = D
  obtain ⟨W, ⟨m0, w0⟩, turn⟩ := q D (I2.hok.fresh (Nat.le_of_eq hD))
  generalize hs3 : ({ s2 with heap := s2.heap.push { cls := .type "dict", data := .dict #[] } } : Shared) = s3
  have h3 : s3.heap = s2.heap.push { cls := .type "dict", data := .dict #[] } := by rw [← hs3]
  have up3 : ∀ b o, s2.heap.get? b = some o → s3.heap.get? b = some o := fun b o e => by rw [h3]; exact Heap.get?_push_of_some _ e
  have I3 : Inv X pins σ (upd H2 D (.dT [])) s3 := by
    rw [← hs3]
    refine I2.laid (t' := s2.toks) (fun b o e => Heap.get?_push_of_some _ e) (Nat.le_of_eq hD) ?_
    rw [← hD]
    exact dt_empty s2.heap I2.big
  have lt2 : ∀ b ∈ fp, b < s2.heap.objs.size := fun b hb => by
    obtain ⟨o, e, _⟩ := T.obj _ _ st2 b hb
    exact Heap.lt_size e
  have f3 : ∀ b ∈ fp, FpOk X pins (upd H2 D (.dT [])) b ∧ b < s3.heap.objs.size := fun b hb => by
    refine ⟨⟨?_, (f2 b hb).2⟩, by rw [h3, Heap.size_push]; exact Nat.lt_succ_of_lt (lt2 b hb)⟩
    rw [upd_ne (by rw [← hD]; exact Nat.ne_of_lt (lt2 b hb))]
    exact (f2 b hb).1
  have st3 : tn 0 s3.heap := T.keep _ _ _ st2 fun b _ o e => up3 b o e
  have I4 := block_start I3 ok hN f3
  have pg := R.g s3 (upd H2 D (.dT [])) s3.heap.objs.size (cellsFrom (s3.heap.objs.size + 1) scope.names (cloFrom X.env.cells scope.names [])) fp
  have pt := R.t s3 (upd H2 D (.dT [])) s3.heap.objs.size (cellsFrom (s3.heap.objs.size + 1) scope.names (cloFrom X.env.cells scope.names [])) fp
  have pk := R.k s3 (upd H2 D (.dT [])) s3.heap.objs.size (cellsFrom (s3.heap.objs.size + 1) scope.names (cloFrom X.env.cells scope.names [])) fp
  have pv := R.v s3 (upd H2 D (.dT [])) s3.heap.objs.size (cellsFrom (s3.heap.objs.size + 1) scope.names (cloFrom X.env.cells scope.names [])) fp
  show codeAny _ _ (.compStart (.DictComp kx vx [⟨tg, iter, ifs, 0⟩] scope pos) 0 (.ref it) (.ref D) (compEnvC scope (cellsFrom (s3.heap.objs.size + 1) scope.names (cloFrom X.env.cells scope.names [])) s3.heap.objs.size X.env))
    (compPost (model X.prog X.w) X.A X.xe use Qf (.ref D) s3.heap.objs.size) { s3 with heap := pushCells (s3.heap.push { cls := .type "dict", data := .dict #[] }) scope.names }
  generalize hce : compEnvC scope (cellsFrom (s3.heap.objs.size + 1) scope.names (cloFrom X.env.cells scope.names [])) s3.heap.objs.size X.env = ce at I4 pg pt pk pv ⊢
  have cL : ce.locals = s3.heap.objs.size := by rw [← hce]; rfl
  have n3 : ∀ b ∈ fp, (upd H2 D (.dT [])) b = none := fun b hb => (f3 b hb).1.1
  generalize hH3 : upd H2 D (.dT []) = H3 at I3 I4 pg pt pk pv w0 n3 f3
  generalize hs4 : ({ s3 with heap := pushCells (s3.heap.push { cls := .type "dict", data := .dict #[] }) scope.names } : Shared) = s4 at I4 ⊢
  have st4 : tn 0 s4.heap := T.keep _ _ _ st3 fun b _ o e => by rw [← hs4]; exact pushCells_keeps _ _ _ _ (Heap.get?_push_of_some _ e)
  have stay : ∀ {σ' : L2.St} {H' : Hp} {s' : Shared}, Inv (X.blk s3 H3 scope ce fp) [] σ' H' s' → (∀ b ∈ fp, H' b = none) → ∀ b ∈ fp, FpOk (X.blk s3 H3 scope ce fp) [] H' b := fun I' hn b hb =>
    ⟨hn b hb, (I'.ok.exf b hb).1, I'.ok.exfs b hb, .inl hb, fun x c e => (I'.ok.exf b hb).2 x c e, fun p hp => absurd (show p ∈ ([] : List (Addr × Obj)) ++ [] from hp) (by simp)⟩
  have loop : codeAny (model X.prog X.w) X.A (.compLoop (.DictComp kx vx [⟨tg, iter, ifs, 0⟩] scope pos) 0 (.ref it) (.ref D) ce) (compPost (model X.prog X.w) X.A X.xe use Qf (.ref D) s3.heap.objs.size) s4 := by
    refine compLoop_anyD (fun n s' => ∃ i H', Inv (X.blk s3 H3 scope ce fp) [] (wipe σ (own.map (·.2))) H' s' ∧ tn i s'.heap ∧ (∀ b ∈ fp, H' b = none) ∧ W i n H') ?_ m0 ⟨0, H3, I4, st4, n3, w0⟩
    rintro n s5 ⟨i, H5, I5, st5, n5, w5⟩
    rcases turn i n H5 w5 with ⟨stop, qq⟩ | ⟨go, Nx, hNx, step⟩
    · refine thnF (T.done (X.blk s3 H3 scope ce fp) rfl rfl rfl hc i [] s5 _ H5 (fun _ _ => False) I5 (stay I5 n5) st5 stop) fun r s6 ⟨hr, I6⟩ => ?_
      subst hr
      have I7 : Inv X pins σ H5 s6 := I3.call' (ch := fp) I6.os I6.base I6.hok I6.bare fun b hb => ⟨(f3 b hb).1.2.2.2.1, (f3 b hb).1.2.1, (f3 b hb).1.2.2.2.2.1, (f3 b hb).1.2.2.2.2.2⟩
      have nC : H5 ce.locals = none := I6.free
      obtain ⟨m, hn, _⟩ := I6.loc
      have hn : s6.heap.Ns ce.locals m := hn
      rw [cL] at nC hn
      exact fin D s3.heap.objs.size s6 m H5 I7 qq hn (I3.fpOk (Nat.le_refl _) nC)
    · refine thnF (T.item (X.blk s3 H3 scope ce fp) rfl rfl rfl hc i [] s5 _ H5 (fun _ _ => False) I5 (stay I5 n5) st5 go) fun r s6 ⟨u, hr, h6⟩ => ?_
      subst hr
      refine thnF h6 fun _ s7 ⟨x, H7, I7, r7, y7, st7, n7⟩ => ?_
      refine thnF (pg.run _ s7 _ H7 x u _ (I7.pinned (stay I7 n7) (T.obj _ _ st7)) r7 (step x H7 y7)) fun _ s8 ⟨σ8, H8, I8, hw8, q8⟩ => ?_
      refine thnF (pt.run _ s8 σ8 H8 _ I8 q8) fun c s9 ⟨H9, I9, q9⟩ => ?_
      have next : ∀ {s' : Shared} {H' : Hp}, Inv (X.blk s3 H3 scope ce fp) ([] ++ pinsAt fp s7.heap) σ8 H' s' → Nx H' → ∃ m, m < n ∧ ∃ i H', Inv (X.blk s3 H3 scope ce fp) [] (wipe σ (own.map (·.2))) H' s' ∧ tn i s'.heap ∧ (∀ b ∈ fp, H' b = none) ∧ W i m H' := fun {s' H'} I' nx => by
        obtain ⟨m', hm, w'⟩ := hNx H' nx
        have pinned : ∀ b ∈ fp, ∀ o, s7.heap.get? b = some o → s'.heap.get? b = some o ∧ H' b = none := fun b hb o e => by
          have z := I'.pin (b, o) (List.mem_append_right _ (List.mem_append_right _ (mem_pinsAt hb e)))
          exact ⟨z.1, z.2.1⟩
        have hl : (wipe σ (own.map (·.2))).length = σ8.length := by rw [← hw8, wipe_length]
        refine ⟨m', hm, i + 1, H', (I'.unpinned (pins := [])).weak hl (fun j v e => ?_), T.keep _ _ _ st7 fun b hb o e => (pinned b hb o e).1, fun b hb => ?_, w'⟩
        · rw [← hw8] at e
          exact (wipe_some e).1
        · obtain ⟨o, e, _⟩ := T.obj _ _ st7 b hb
          exact (pinned b hb o e).2
      cases c with
      | false =>
        rw [if_neg Bool.false_ne_true] at q9
        rw [if_neg Bool.false_ne_true]
        exact next I9 q9
      | true =>
        rw [if_pos rfl] at q9
        rw [if_pos rfl]
        refine thnF (pk.run _ s9 σ8 H9 _ I9 q9) fun z s10 ⟨yk, H10, I10, r10, q10⟩ => ?_
        refine thnF (pv.run _ s10 σ8 H10 _ I10 q10) fun z2 s11 ⟨yv, H11, I11, r11, kvs, k, b, ek, hb, hD11, hz11, nx⟩ => ?_
        subst ek
        exact dictSet_T (X := X.blk s3 H3 scope ce fp) hu I11 hD11 hb hz11 r10 r11 fun s12 I12 => next I12 nx
  exact codeAny_compStart_dict loop (T.self X.A 0 _ _ _ st4 loop)
theorem pe_dcT {kx vx tg iter : Expr} {ifs : List Expr} {scope : Scope} {own : List (Str × Nat)} {pos : Pos} {wi : TI} {g : TG} {tt : TT} {tk tv : TE} (hc : X.calm = true) (hN : X.N.Nodup) (hu : X.A.units + 1 < cLine) (hi : PI X tg iter wi) (ok : BlkOk X.N X.env.scope scope own)
    (hg : ∀ (s : Shared) (H : Hp) (C : Addr) (cl : List (Str × Addr)) (fp : List Addr), PG (X.blk s H scope (compEnvC scope cl C X.env) fp) tg g) (ht : ∀ (s : Shared) (H : Hp) (C : Addr) (cl : List (Str × Addr)) (fp : List Addr), PTs (X.blk s H scope (compEnvC scope cl C X.env) fp) ifs tt)
    (hk : ∀ (s : Shared) (H : Hp) (C : Addr) (cl : List (Str × Addr)) (fp : List Addr), PE (X.blk s H scope (compEnvC scope cl C X.env) fp) kx tk)
    (hv : ∀ (s : Shared) (H : Hp) (C : Addr) (cl : List (Str × Addr)) (fp : List Addr), PE (X.blk s H scope (compEnvC scope cl C X.env) fp) vx tv) (hs : ∀ x, foldedSetIterable iter X.env x = pure x := by intro _; rfl) :
    PE X (.DictComp kx vx [⟨tg, iter, ifs, 0⟩] scope pos) (tDcT wi g tt tk tv (own.map (·.2))) := by
  refine ⟨fun pins s σ H Q I h => ?_⟩
  rw [arm_eval_DictComp]
  refine dcT_core hc hN hu I hi ok ⟨hg, ht, hk, hv⟩ hs h fun D C s' m H' I' q hn f => ⟨m, hn, fun h2 sb => ?_⟩
  obtain ⟨f0, f1, f2, f3, f4, f5⟩ := f
  exact ⟨.ref D, H', I'.turned (t' := s'.toks) (fun b o hb e => (sb.2 b hb).trans e) f0 f1 f3 f4 f5, rfl, q⟩
theorem swD_true {kx vx : Expr} {gs : List Comprehension} {scope : Scope} {pos py : Pos} {y : Str} {l : Nat} {env : Env} (hk : env.scope.kind = .function) (hy : env.scope.names.lookup y = some .local) (hl : (py.line == pos.line) = true)
    (ha : (scope.names.any fun (n, k) => n == y && (k == .local || k == .cell)) = false) : swapsWith (.DictComp kx vx gs scope pos) (some (.Name y py)) l env = pure true := by
  have ky : env.kindOf y = some .local := hy
  have hb : env.blockKind = .function := by
    unfold Env.blockKind
    rw [hk]
    rfl
  unfold swapsWith
  simp only [hb, ky, ha, Expr.pos, hl]
  rfl
/-- name = {..}, a local -/
theorem ps_setDcT {i : Nat} {y : Str} {py : Pos} {kx vx tg iter : Expr} {ifs : List Expr} {scope : Scope} {own : List (Str × Nat)} {pos spos : Pos} {wi : TI} {g : TG} {tt : TT} {tk tv : TE} (hc : X.calm = true) (hN : X.N.Nodup) (hu : X.A.units + 1 < cLine) (hy : X.N[i]? = some y) (hyl : X.env.scope.names.lookup y = some .local)
    (hsw : swapsWith (.DictComp kx vx [⟨tg, iter, ifs, 0⟩] scope pos) (some (.Name y py)) spos.line X.env = pure true) (hi : PI X tg iter wi) (ok : BlkOk X.N X.env.scope scope own)
    (hg : ∀ (s : Shared) (H : Hp) (C : Addr) (cl : List (Str × Addr)) (fp : List Addr), PG (X.blk s H scope (compEnvC scope cl C X.env) fp) tg g) (ht : ∀ (s : Shared) (H : Hp) (C : Addr) (cl : List (Str × Addr)) (fp : List Addr), PTs (X.blk s H scope (compEnvC scope cl C X.env) fp) ifs tt)
    (hk : ∀ (s : Shared) (H : Hp) (C : Addr) (cl : List (Str × Addr)) (fp : List Addr), PE (X.blk s H scope (compEnvC scope cl C X.env) fp) kx tk)
    (hv : ∀ (s : Shared) (H : Hp) (C : Addr) (cl : List (Str × Addr)) (fp : List Addr), PE (X.blk s H scope (compEnvC scope cl C X.env) fp) vx tv) (hs : ∀ x, foldedSetIterable iter X.env x = pure x := by intro _; rfl) :
    PS X (.Assign [.Name y py] (.DictComp kx vx [⟨tg, iter, ifs, 0⟩] scope pos) spos) (tAsg (tDcT wi g tt tk tv (own.map (·.2))) (gName i)) := by
  refine ⟨fun pins s σ H D I h => ?_⟩
  rw [exec_Assign_Name_used _ _ _ _ hsw]
  refine wpAny_bind (wpAny_standAt (wpAny_bind ?_))
  show wpAny _ X.A (do let _ ← comprehension (.DictComp kx vx [⟨tg, iter, ifs, 0⟩] scope pos) scope X.env (firstIterPos [⟨tg, iter, ifs, 0⟩] pos) newDict false (eval iter X.env) (some (assign (.Name y py) X.env))) _ _ s
  refine wpAny_bind (thn (dcT_core (Q := fun x H1 => gName i x σ H1 D.nx) (Qf := fun _ s' => SP X pins D .next s') hc hN hu I hi ok ⟨hg, ht, hk, hv⟩ hs h fun L C s' m H' I' q hn f => ?_) fun _ s' hq => wpAny_pure (wpAny_pure hq))
  show wpAny _ _ (assign (.Name y py) X.env (.ref L)) _ _ _
  refine wpAny_assign_Name (store_ok2 (v := V.ref L) I' hN hy (.inl hyl) rfl (fun s2 I2 ⟨a, sb, ha⟩ => ?_) (.inr hyl))
  obtain ⟨f0, f1, f2, f3, f4, f5⟩ := f
  have haC : C ≠ a := by
    rcases ha with z | z
    · rw [z]
      exact f1
    · exact fun e => f4 y a z e.symm
  exact ⟨m, hn.sameBut sb haC, fun h3 sb3 => ⟨_, H', I2.turned (t' := s2.toks) (fun b o hb e => (sb3.2 b hb).trans e) f0 f1 f3 f4 f5, q⟩⟩
end
end TW
/-! What is walked, whatever it is: how often, what comes; comprehensions and loops over it. -/
namespace TW
open PySem PySem.Spec PyProof.Rows L2 Evl

/-- n turns; at the i-th comes x, of which Y tells -/
def EvI (wi : TI) (σ : L2.St) (H : Hp) (n : Nat) (Y : Nat → V → Hp → Prop) : Prop := ∀ H1, Ex H H1 → ∀ R : It → Hp → Prop,
  (∀ (J : It) (H2 : Hp), Ex H1 H2 → (∀ i H3, i < n → Ex H2 H3 → J.go i H3) → (∀ H3, Ex H2 H3 → J.stop n H3) → (∀ i H3 x H4, i < n → Ex H2 H3 → J.yld i H3 x H4 → Ex H3 H4 ∧ Y i x H4) → R J H2) → wi σ H1 R
/-- a target stored, the heap as it was -/
def EvG (g : TG) (x : V) (σ : L2.St) (H : Hp) (σ' : L2.St) : Prop := ∀ Q : L2.St → Hp → Prop, Q σ' H → g x σ H Q
section
variable {K : PySem.W.Frag} {σ : L2.St} {H H' : Hp} {te tl : TE} {n : Nat} {Y : Nat → V → Hp → Prop}
theorem eg_name {i : Nat} {x : V} : EvG (gName i) x σ H (σ.set i (some x)) := fun _ q => q
theorem eg_tup2 {i j : Nat} {p : Addr} {x y : V} (hp : H p = some (.tup [x, y])) : EvG (gTup K 2 (gCons (gName i) (gCons (gName j) gNil))) (.ref p) σ H ((σ.set i (some x)).set j (some y)) := fun _ q =>
  ⟨p, [x, y], rfl, st_of hp, rfl, x, [y], rfl, y, [], rfl, rfl, q⟩
theorem eg_tup3 {i j k : Nat} {p : Addr} {x y z : V} (hp : H p = some (.tup [x, y, z])) : EvG (gTup K 3 (gCons (gName i) (gCons (gName j) (gCons (gName k) gNil)))) (.ref p) σ H (((σ.set i (some x)).set j (some y)).set k (some z)) := fun _ q =>
  ⟨p, [x, y, z], rfl, st_of hp, rfl, x, [y, z], rfl, y, [z], rfl, z, [], rfl, rfl, q⟩
theorem ei_list {a : Addr} {xs : List V} (h : Ev tl σ H (.ref a)) (hx : SqL K H a xs) : EvI (iList K tl) σ H xs.length (fun i x _ => xs[i]? = some x) := fun H1 e R k =>
  h H1 e _ fun H2 e2 => ⟨a, rfl, ⟨xs, ex_l (e.trans e2) hx⟩, k _ H2 e2 (fun i H3 hi e3 => ⟨xs, xs[i], ex_l ((e.trans e2).trans e3) hx, List.getElem?_eq_getElem hi⟩) (fun H3 e3 => ⟨xs, ex_l ((e.trans e2).trans e3) hx, Nat.le_refl _⟩)
    fun i H3 x H4 hi e3 y => by
      obtain ⟨e4, y⟩ := y
      rw [e4]
      exact ⟨Ex.refl _, y xs (ex_l ((e.trans e2).trans e3) hx)⟩⟩
theorem ei_tup {a : Addr} {xs : List V} (h : Ev tl σ H (.ref a)) (hx : SqT K H a xs) : EvI (iTup K tl) σ H xs.length (fun i x _ => xs[i]? = some x) := fun H1 e R k =>
  h H1 e _ fun H2 e2 => ⟨a, rfl, ⟨xs, ex_t (e.trans e2) hx⟩, k _ H2 e2 (fun i H3 hi e3 => ⟨xs, xs[i], ex_t ((e.trans e2).trans e3) hx, List.getElem?_eq_getElem hi⟩) (fun H3 e3 => ⟨xs, ex_t ((e.trans e2).trans e3) hx, Nat.le_refl _⟩)
    fun i H3 x H4 hi e3 y => by
      obtain ⟨e4, y⟩ := y
      rw [e4]
      exact ⟨Ex.refl _, y xs (ex_t ((e.trans e2).trans e3) hx)⟩⟩
/-- over a list, a tuple that the head makes -/
theorem ei_newL {Pn : List V → Hp → Prop} (h : EvP tl σ H (fun v H1 => ∃ a xs, v = .ref a ∧ H1 a = some (.lst xs) ∧ xs.length = n ∧ Pn xs H1)) (hY : ∀ xs H1 H2 i x, Ex H H1 → Ex H1 H2 → Pn xs H1 → xs[i]? = some x → Y i x H2) : EvI (iList K tl) σ H n Y := fun H1 e R k =>
  h H1 e _ fun v H2 e2 ⟨a, xs, ev, ha, hl, hp⟩ => by
    subst hl
    refine ⟨a, ev, ⟨xs, sq_of ha⟩, k _ H2 e2 (fun i H3 hi e3 => ⟨xs, xs[i], sq_of (e3 a _ ha), List.getElem?_eq_getElem hi⟩) (fun H3 e3 => ⟨xs, sq_of (e3 a _ ha), Nat.le_refl _⟩) fun i H3 x H4 hi e3 y => ?_⟩
    obtain ⟨e4, y⟩ := y
    rw [e4]
    exact ⟨Ex.refl _, hY xs H2 H3 i x (e.trans e2) e3 hp (y xs (sq_of (e3 a _ ha)))⟩
theorem ei_rng1 {ta : TA} {j : Int} (h : EvA ta σ H [.int j]) (hj : 0 ≤ j ∧ j ≤ 100000) : EvI (iRng1 ta) σ H j.toNat (fun i x _ => x = .int (i : Nat)) := fun H1 e R k =>
  h H1 e _ fun H2 e2 => ⟨j, rfl, by omega, by omega, k _ H2 e2 (fun i H3 hi _ => hi) (fun H3 _ => Nat.le_refl _) fun i H3 x H4 hi e3 y => by
    obtain ⟨e4, y⟩ := y
    rw [e4]
    exact ⟨Ex.refl _, by rw [y, Int.zero_add]⟩⟩
theorem ex_sk {k : SK} {a : Addr} {xs : List V} (e : Ex H H') (h : k.Sq K H a xs) : k.Sq K H' a xs := by
  cases k with
  | l => exact ex_l e h
  | t => exact ex_t e h
theorem sk_l {a : Addr} {xs : List V} (h : H a = some (.lst xs)) : SK.Sq .l K H a xs := sq_of h
theorem sk_t {a : Addr} {xs : List V} (h : H a = some (.tup xs)) : SK.Sq .t K H a xs := st_of h
theorem ei_zip2 {ta : TA} {k1 k2 : SK} {a b : Addr} {xs ys : List V} (h : EvA ta σ H [.ref a, .ref b]) (hx : k1.Sq K H a xs) (hy : k2.Sq K H b ys) (hn : n = min xs.length ys.length) :
    EvI (iZip2 k1 k2 K ta) σ H n (fun i v H' => ∃ T x y, v = .ref T ∧ H' T = some (.tup [x, y]) ∧ xs[i]? = some x ∧ ys[i]? = some y) := fun H1 e R k =>
  h H1 e _ fun H2 e2 => ⟨a, b, xs, ys, rfl, ex_sk (e.trans e2) hx, ex_sk (e.trans e2) hy, k _ H2 e2 (fun i H3 hi e3 => ⟨xs, ys, ex_sk ((e.trans e2).trans e3) hx, ex_sk ((e.trans e2).trans e3) hy, by omega, by omega⟩)
    (fun H3 e3 => ⟨xs, ys, ex_sk ((e.trans e2).trans e3) hx, ex_sk ((e.trans e2).trans e3) hy, hn⟩) fun i H3 v H4 hi e3 y => by
      obtain ⟨T, x, z, e1, e4, e5, f1, f2⟩ := y
      rw [e5]
      exact ⟨Ex.new e4, T, x, z, e1, upd_same, f1 xs (ex_sk ((e.trans e2).trans e3) hx), f2 ys (ex_sk ((e.trans e2).trans e3) hy)⟩⟩
/-- zip, the arguments by a property -/
theorem ei_zip2Q {ta : TA} {k1 k2 : SK} {Pn : List V → List V → Hp → Prop} (h : EvQ ta σ H (fun vs H1 => ∃ a b xs ys, vs = [.ref a, .ref b] ∧ k1.Sq K H1 a xs ∧ k2.Sq K H1 b ys ∧ n = min xs.length ys.length ∧ Pn xs ys H1)) (hP : ∀ xs ys H1 H2, Ex H1 H2 → Pn xs ys H1 → Pn xs ys H2) :
    EvI (iZip2 k1 k2 K ta) σ H n (fun i v H' => ∃ T x y xs ys, v = .ref T ∧ H' T = some (.tup [x, y]) ∧ xs[i]? = some x ∧ ys[i]? = some y ∧ Pn xs ys H') := fun H1 e R k =>
  h H1 e _ fun vs H2 e2 ⟨a, b, xs, ys, ev, hx, hy, hn, hp⟩ => ⟨a, b, xs, ys, ev, hx, hy, k _ H2 e2 (fun i H3 hi e3 => ⟨xs, ys, ex_sk e3 hx, ex_sk e3 hy, by omega, by omega⟩)
    (fun H3 e3 => ⟨xs, ys, ex_sk e3 hx, ex_sk e3 hy, hn⟩) fun i H3 v H4 hi e3 y => by
      obtain ⟨T, x, z, e1, e4, e5, f1, f2⟩ := y
      rw [e5]
      exact ⟨Ex.new e4, T, x, z, xs, ys, e1, upd_same, f1 xs (ex_sk e3 hx), f2 ys (ex_sk e3 hy), hP _ _ _ _ (e3.trans (Ex.new e4)) hp⟩⟩
theorem ei_zip3 {ta : TA} {k1 k2 k3 : SK} {a b d : Addr} {xs ys zs : List V} (h : EvA ta σ H [.ref a, .ref b, .ref d]) (hx : k1.Sq K H a xs) (hy : k2.Sq K H b ys) (hz : k3.Sq K H d zs) (hn : n = min (min xs.length ys.length) zs.length) :
    EvI (iZip3 k1 k2 k3 K ta) σ H n (fun i v H' => ∃ T x y z, v = .ref T ∧ H' T = some (.tup [x, y, z]) ∧ xs[i]? = some x ∧ ys[i]? = some y ∧ zs[i]? = some z) := fun H1 e R k =>
  h H1 e _ fun H2 e2 => ⟨a, b, d, xs, ys, zs, rfl, ex_sk (e.trans e2) hx, ex_sk (e.trans e2) hy, ex_sk (e.trans e2) hz,
    k _ H2 e2 (fun i H3 hi e3 => ⟨xs, ys, zs, ex_sk ((e.trans e2).trans e3) hx, ex_sk ((e.trans e2).trans e3) hy, ex_sk ((e.trans e2).trans e3) hz, by omega, by omega, by omega⟩)
    (fun H3 e3 => ⟨xs, ys, zs, ex_sk ((e.trans e2).trans e3) hx, ex_sk ((e.trans e2).trans e3) hy, ex_sk ((e.trans e2).trans e3) hz, hn⟩) fun i H3 v H4 hi e3 y => by
      obtain ⟨T, x, y, z, e1, e4, e5, f1, f2, f3⟩ := y
      rw [e5]
      exact ⟨Ex.new e4, T, x, y, z, e1, upd_same, f1 xs (ex_sk ((e.trans e2).trans e3) hx), f2 ys (ex_sk ((e.trans e2).trans e3) hy), f3 zs (ex_sk ((e.trans e2).trans e3) hz)⟩⟩
theorem ei_enum {ta : TA} {a : Addr} {xs : List V} (h : EvA ta σ H [.ref a]) (hx : SqL K H a xs) : EvI (iEnum K ta) σ H xs.length (fun i v H' => ∃ T x, v = .ref T ∧ H' T = some (.tup [.int (i : Nat), x]) ∧ xs[i]? = some x) := fun H1 e R k =>
  h H1 e _ fun H2 e2 => ⟨a, xs, rfl, ex_l (e.trans e2) hx, k _ H2 e2 (fun i H3 hi e3 => ⟨xs, xs[i], ex_l ((e.trans e2).trans e3) hx, List.getElem?_eq_getElem hi⟩) (fun H3 e3 => ⟨xs, ex_l ((e.trans e2).trans e3) hx, Nat.le_refl _⟩)
    fun i H3 v H4 hi e3 y => by
      obtain ⟨T, x, e1, e4, e5, f1⟩ := y
      rw [e5]
      exact ⟨Ex.new e4, T, x, e1, upd_same, f1 xs (ex_l ((e.trans e2).trans e3) hx)⟩⟩
theorem ei_enumT {ta : TA} {a : Addr} {xs : List V} (h : EvA ta σ H [.ref a]) (hx : SqT K H a xs) : EvI (iEnumT K ta) σ H xs.length (fun i v H' => ∃ T x, v = .ref T ∧ H' T = some (.tup [.int (i : Nat), x]) ∧ xs[i]? = some x) := fun H1 e R k =>
  h H1 e _ fun H2 e2 => ⟨a, xs, rfl, ex_t (e.trans e2) hx, k _ H2 e2 (fun i H3 hi e3 => ⟨xs, ex_t ((e.trans e2).trans e3) hx, hi⟩) (fun H3 e3 => ⟨xs, ex_t ((e.trans e2).trans e3) hx, rfl⟩)
    fun i H3 v H4 hi e3 y => by
      obtain ⟨T, x, e1, e4, e5, f1⟩ := y
      rw [e5]
      exact ⟨Ex.new e4, T, x, e1, upd_same, f1 xs (ex_t ((e.trans e2).trans e3) hx)⟩⟩
/-- the keys of a locked dict -/
theorem ei_keys {d : Addr} {o : Obj} {kvs : List (List Key × V)} (h : Ev tl σ H (.ref d)) (hd : H d = some (.frz o (.dT kvs))) : EvI (iKeys tl) σ H kvs.length (fun i x H' => ∃ k v q, kvs[i]? = some (k, v) ∧ x = .ref q ∧ H' q = some (.tup (k.map kV))) := fun H1 e R k =>
  h H1 e _ fun H2 e2 => ⟨d, o, rfl, Or.inr ⟨kvs, (e.trans e2) d _ hd, k _ H2 e2 (fun i H3 hi e3 => ⟨((e.trans e2).trans e3) d _ hd, hi⟩) (fun H3 e3 => ⟨((e.trans e2).trans e3) d _ hd, Nat.le_refl _⟩) fun i H3 x H4 hi e3 y => by
    obtain ⟨e4, k, v, q, f1, f2, f3⟩ := y
    rw [e4]
    exact ⟨Ex.refl _, k, v, q, f1, f2, f3⟩⟩⟩
end

/-! ### comprehensions -/
section
variable {σ : L2.St} {H : Hp} {wi : TI} {g : TG} {t : TT} {te tk tv : TE} {n : Nat} {Y : Nat → V → Hp → Prop}
theorem paired_snoc {α β : Type} {F : α → β → Prop} : ∀ {xs : List α} {ys : List β} {x : α} {y : β}, Paired F xs ys → F x y → Paired F (xs ++ [x]) (ys ++ [y])
  | _, _, _, _, .nil, h => .cons h .nil
  | _, _, _, _, .cons r s, h => .cons r (paired_snoc s h)
theorem paired_imp {α β : Type} {F G : α → β → Prop} (h : ∀ a b, F a b → G a b) : ∀ {xs : List α} {ys : List β}, Paired F xs ys → Paired G xs ys
  | _, _, .nil => .nil
  | _, _, .cons r s => .cons (h _ _ r) (paired_imp h s)
/-- all but D stands -/
def ExB (D : Addr) (H H' : Hp) : Prop := ∀ a o, a ≠ D → H a = some o → H' a = some o
theorem ExB.refl {D : Addr} (H : Hp) : ExB D H H := fun _ _ _ h => h
theorem ExB.trans {D : Addr} {H H1 H2 : Hp} (a : ExB D H H1) (b : ExB D H1 H2) : ExB D H H2 := fun x o n h => b x o n (a x o n h)
theorem exb_of {D : Addr} {H H' : Hp} (e : Ex H H') : ExB D H H' := fun a o _ h => e a o h
theorem exb_upd {D : Addr} {H : Hp} {o : HO} : ExB D H (upd H D o) := fun a u n h => by
  rw [upd_ne n]
  exact h
theorem ExB.mut {D : Addr} {H H' : Hp} {o : HO} (e : ExB D H H') : ExB D H (upd H' D o) := fun a u n h => by
  rw [upd_ne n]
  exact e a u n h
/-- what D was not there for stands -/
theorem ExB.ex {D : Addr} {H H' : Hp} (e : ExB D H H') (h : H D = none) : Ex H H' := fun a o q => e a o (fun z => by rw [z, h] at q; cases q) q
/-- tuples stand -/
def TEx (H H' : Hp) : Prop := ∀ a xs, H a = some (.tup xs) → H' a = some (.tup xs)
theorem TEx.refl (H : Hp) : TEx H H := fun _ _ h => h
theorem TEx.trans {H H1 H2 : Hp} (a : TEx H H1) (b : TEx H1 H2) : TEx H H2 := fun x o h => b x o (a x o h)
theorem tex_of {H H' : Hp} (e : Ex H H') : TEx H H' := fun a xs h => e a _ h
theorem tex_upd {H : Hp} {D : Addr} {u o : HO} (h : H D = some u) (hu : ∀ xs, u ≠ .tup xs) : TEx H (upd H D o) := fun a xs e => by
  rw [upd_ne (fun z => hu xs (by rw [z, h] at e; exact Option.some.inj e))]
  exact e
theorem tex_lst {H : Hp} {D : Addr} {ys : List V} {o : HO} (h : H D = some (.lst ys)) : TEx H (upd H D o) := tex_upd h (fun _ z => nomatch z)
theorem tex_dT {H : Hp} {D : Addr} {ys : List (List Key × V)} {o : HO} (h : H D = some (.dT ys)) : TEx H (upd H D o) := tex_upd h (fun _ z => nomatch z)
theorem tex_new {H : Hp} {D : Addr} {o : HO} (h : H D = none) : TEx H (upd H D o) := tex_of (Ex.new h)
/-- [te for g in wi if t]: the turns that give, and what they give -/
theorem en_lcD {vs : List Nat} (f : Nat → Bool) (Pe : Addr → Nat → V → Hp → Prop) (h : EvI wi σ H n Y) (hz : n ≤ 90000) (mono : ∀ D i v H1 H2, ExB D H1 H2 → Pe D i v H1 → Pe D i v H2)
    (turn : ∀ D zs i x H1, H D = none → H1 D = some (.lst zs) → Ex H H1 → i < n → Y i x H1 → ∃ σ2, EvG g x (wipe σ vs) H1 σ2 ∧ wipe σ2 vs = wipe σ vs ∧ EvT t σ2 H1 (f i) ∧ (f i = true → EvP te σ2 H1 (Pe D i))) :
    EvN (tLc wi g t te vs) σ H (fun p H' => ∃ ys, H' p = some (.lst ys) ∧ Paired (fun i y => Pe p i y H') ((List.range n).filter f) ys) := fun H1 e Q q => by
  refine h H1 e _ fun J H2 e2 go stop yld D hD => ?_
  refine ⟨fun i m H' => i + m = n ∧ Ex H2 H' ∧ ∃ ys, H' D = some (.lst ys) ∧ Paired (fun i y => Pe D i y H') ((List.range i).filter f) ys, ⟨n, Nat.zero_add n, Ex.new hD, [], upd_same, .nil⟩, ?_⟩
  rintro i m H' ⟨hm, e3, ys, hy, hp⟩
  by_cases hi : i < n
  · refine .inr ⟨go i H' hi e3, fun H'' => Ex H2 H'' ∧ ∃ ys, H'' D = some (.lst ys) ∧ Paired (fun i y => Pe D i y H'') ((List.range (i + 1)).filter f) ys, fun H'' ⟨a, b⟩ => ⟨m - 1, by omega, by omega, a, b⟩, fun x H4 y => ?_⟩
    obtain ⟨e4, hY⟩ := yld i H' x H4 hi e3 y
    obtain ⟨σ2, hg, hw, ht, he⟩ := turn D ys i x H4 (fresh_back (e.trans e2) hD) (e4 D _ hy) (((e.trans e2).trans e3).trans e4) hi hY
    refine hg _ ⟨hw, ht H4 (Ex.refl H4) _ fun H5 e5 => ?_⟩
    have e35 := (e3.trans e4).trans e5
    have e45 := e4.trans e5
    cases hf : f i with
    | false =>
      rw [if_neg Bool.false_ne_true]
      refine ⟨e35, ys, e45 D _ hy, ?_⟩
      rw [List.range_succ, List.filter_append, List.filter_cons, if_neg (by rw [hf]; exact Bool.false_ne_true), List.filter_nil, List.append_nil]
      exact paired_imp (fun i y => mono D i y _ _ (exb_of e45)) hp
    | true =>
      rw [if_pos rfl]
      refine he hf H5 e5 _ fun v H6 e6 hv => ⟨ys, e6 D _ (e45 D _ hy), ?_, (e35.trans e6).mut hD, ys ++ [v], upd_same, ?_⟩
      · have hl := Paired.length hp
        have h2 := List.length_filter_le f (List.range i)
        rw [List.length_range] at h2
        exact sz_lt (by omega)
      · rw [List.range_succ, List.filter_append, List.filter_cons, if_pos hf, List.filter_nil]
        exact paired_snoc (paired_imp (fun i y => mono D i y _ _ (exb_of (e45.trans e6)).mut) hp) (mono D i v _ _ exb_upd hv)
  · have hn : i = n := by omega
    subst hn
    exact .inl ⟨stop H' e3, q D H' (fresh_back e2 hD) (e2.trans e3) ⟨ys, hy, hp⟩⟩
/-- what is given is told by ints, texts, tuples alone -/
theorem en_lc {vs : List Nat} (f : Nat → Bool) (Pe : Nat → V → Hp → Prop) (h : EvI wi σ H n Y) (hz : n ≤ 90000) (mono : ∀ i v H1 H2, TEx H1 H2 → Pe i v H1 → Pe i v H2)
    (turn : ∀ i x H1, Ex H H1 → i < n → Y i x H1 → ∃ σ2, EvG g x (wipe σ vs) H1 σ2 ∧ wipe σ2 vs = wipe σ vs ∧ EvT t σ2 H1 (f i) ∧ (f i = true → EvP te σ2 H1 (Pe i))) :
    EvN (tLc wi g t te vs) σ H (fun p H' => ∃ ys, H' p = some (.lst ys) ∧ Paired (fun i y => Pe i y H') ((List.range n).filter f) ys) := fun H1 e Q q => by
  refine h H1 e _ fun J H2 e2 go stop yld D hD => ?_
  refine ⟨fun i m H' => i + m = n ∧ Ex H2 H' ∧ ∃ ys, H' D = some (.lst ys) ∧ Paired (fun i y => Pe i y H') ((List.range i).filter f) ys, ⟨n, Nat.zero_add n, Ex.new hD, [], upd_same, .nil⟩, ?_⟩
  rintro i m H' ⟨hm, e3, ys, hy, hp⟩
  by_cases hi : i < n
  · refine .inr ⟨go i H' hi e3, fun H'' => Ex H2 H'' ∧ ∃ ys, H'' D = some (.lst ys) ∧ Paired (fun i y => Pe i y H'') ((List.range (i + 1)).filter f) ys, fun H'' ⟨a, b⟩ => ⟨m - 1, by omega, by omega, a, b⟩, fun x H4 y => ?_⟩
    obtain ⟨e4, hY⟩ := yld i H' x H4 hi e3 y
    obtain ⟨σ2, hg, hw, ht, he⟩ := turn i x H4 (((e.trans e2).trans e3).trans e4) hi hY
    refine hg _ ⟨hw, ht H4 (Ex.refl H4) _ fun H5 e5 => ?_⟩
    have e35 := (e3.trans e4).trans e5
    have e45 := e4.trans e5
    cases hf : f i with
    | false =>
      rw [if_neg Bool.false_ne_true]
      refine ⟨e35, ys, e45 D _ hy, ?_⟩
      rw [List.range_succ, List.filter_append, List.filter_cons, if_neg (by rw [hf]; exact Bool.false_ne_true), List.filter_nil, List.append_nil]
      exact paired_imp (fun i y => mono i y _ _ (tex_of e45)) hp
    | true =>
      rw [if_pos rfl]
      refine he hf H5 e5 _ fun v H6 e6 hv => ⟨ys, e6 D _ (e45 D _ hy), ?_, (e35.trans e6).mut hD, ys ++ [v], upd_same, ?_⟩
      · have hl := Paired.length hp
        have h2 := List.length_filter_le f (List.range i)
        rw [List.length_range] at h2
        exact sz_lt (by omega)
      · have td : TEx H6 (upd H6 D (.lst (ys ++ [v]))) := tex_lst (e6 D _ (e45 D _ hy))
        rw [List.range_succ, List.filter_append, List.filter_cons, if_pos hf, List.filter_nil]
        exact paired_snoc (paired_imp (fun i y => mono i y _ _ ((tex_of (e45.trans e6)).trans td)) hp) (mono i v _ _ td hv)
  · have hn : i = n := by omega
    subst hn
    exact .inl ⟨stop H' e3, q D H' (fresh_back e2 hD) (e2.trans e3) ⟨ys, hy, hp⟩⟩
theorem paired_get' {α β : Type} {F : α → β → Prop} : ∀ {xs : List α} {ys : List β} {i : Nat} {x : α}, Paired F xs ys → xs[i]? = some x → ∃ y, ys[i]? = some y ∧ F x y
  | _, _, _, _, .nil, h => by simp at h
  | _, _, 0, _, .cons r s, h => by
    cases Option.some.inj h
    exact ⟨_, rfl, r⟩
  | _, _, i + 1, _, .cons r s, h => paired_get' (i := i) s h
theorem paired_eq {α β : Type} {v : α → β} : ∀ {xs : List α} {ys : List β}, Paired (fun x y => y = v x) xs ys → ys = xs.map v
  | _, _, .nil => rfl
  | _, _, .cons r s => by rw [r, paired_eq s]; rfl
/-- the values known -/
theorem el_lcI {vs : List Nat} (f : Nat → Bool) (v : Nat → V) (h : EvI wi σ H n Y) (hz : n ≤ 90000)
    (turn : ∀ i x H1, Ex H H1 → i < n → Y i x H1 → ∃ σ2, EvG g x (wipe σ vs) H1 σ2 ∧ wipe σ2 vs = wipe σ vs ∧ EvT t σ2 H1 (f i) ∧ (f i = true → Ev te σ2 H1 (v i))) :
    EvL (tLc wi g t te vs) σ H (((List.range n).filter f).map v) := fun H1 e Q q => by
  refine en_lc f (fun i x _ => x = v i) h hz (fun _ _ _ _ _ p => p) (fun i x H1 e hi y => ?_) H1 e Q fun p H2 hp e2 ⟨ys, hy, hP⟩ => q p H2 hp e2 (by rw [hy, paired_eq hP])
  obtain ⟨σ2, h1, h2, h3, h4⟩ := turn i x H1 e hi y
  exact ⟨σ2, h1, h2, h3, fun hf => ep_of (h4 hf)⟩
/-- .. no test -/
theorem el_lcA {vs : List Nat} (v : Nat → V) (h : EvI wi σ H n Y) (hz : n ≤ 90000)
    (turn : ∀ i x H1, Ex H H1 → i < n → Y i x H1 → ∃ σ2, EvG g x (wipe σ vs) H1 σ2 ∧ wipe σ2 vs = wipe σ vs ∧ Ev te σ2 H1 (v i)) :
    EvL (tLc wi g tYes te vs) σ H ((List.range n).map v) := by
  have k := el_lcI (te := te) (g := g) (vs := vs) (t := tYes) (fun _ => true) v h hz fun i x H1 e hi y => by
    obtain ⟨σ2, h1, h2, h3⟩ := turn i x H1 e hi y
    exact ⟨σ2, h1, h2, fun H2 e2 Q q => q H2 (Ex.refl H2), fun _ => h3⟩
  rwa [List.filter_eq_self.mpr (fun _ _ => rfl)] at k
end

/-! ### for -/
section
variable {σ : L2.St} {H : Hp} {wi : TI} {g : TG} {tb tz : TS} {D : Ends} {n : Nat} {Y : Nat → V → Hp → Prop}
theorem s_forI (h : EvI wi σ H n Y) (k : ∀ H2, Ex H H2 → ∃ Pv : Nat → L2.St → Hp → Prop, Pv 0 σ H2 ∧ (∀ i σ' H', Pv i σ' H' → Ex H2 H') ∧
      (∀ i x σ' H' H'', i < n → Pv i σ' H' → Ex H' H'' → Y i x H'' → g x σ' H'' fun σ2 H2 => tb { D with nx := Pv (i + 1), ct := Pv (i + 1), bk := D.nx } σ2 H2) ∧ (∀ σ' H', Pv n σ' H' → D.nx σ' H')) : tFor wi g tb D σ H :=
  h H (Ex.refl H) _ fun J H2 e2 go stop yld => by
    obtain ⟨Pv, p0, pe, ps, pd⟩ := k H2 e2
    refine ⟨fun i m σ' H' => i + m = n ∧ Pv i σ' H', ⟨n, Nat.zero_add n, p0⟩, ?_⟩
    rintro i m σ' H' ⟨hm, p⟩
    by_cases hi : i < n
    · refine .inr ⟨go i H' hi (pe i σ' H' p), Pv (i + 1), fun σ2 H3 p' => ⟨m - 1, by omega, by omega, p'⟩, fun x H4 y => ?_⟩
      obtain ⟨e4, hY⟩ := yld i H' x H4 hi (pe i σ' H' p) y
      exact ps i x σ' H' H4 hi p e4 hY
    · have hn : i = n := by omega
      subst hn
      exact .inl ⟨stop H' (pe i σ' H' p), pd σ' H' p⟩
theorem q_forI (h : EvI wi σ H n Y) (k : ∀ H2, Ex H H2 → ∃ Pv : Nat → L2.St → Hp → Prop, Pv 0 σ H2 ∧ (∀ i σ' H', Pv i σ' H' → Ex H2 H') ∧
      (∀ i x σ' H' H'', i < n → Pv i σ' H' → Ex H' H'' → Y i x H'' → g x σ' H'' fun σ2 H2 => tb { D with nx := Pv (i + 1), ct := Pv (i + 1), bk := tz D } σ2 H2) ∧ (∀ σ' H', Pv n σ' H' → tz D σ' H')) : tSeq (tFor wi g tb) tz D σ H := s_forI (D := { D with nx := tz D }) h k
end
end TW
/-! Loops that change some of what stands (S) while they walk what is not in S. -/
namespace TW
open PySem PySem.Spec PyProof.Rows L2 Evl
/-- all but S stands -/
def ExS (S : Addr → Prop) (H H' : Hp) : Prop := ∀ a o, ¬ S a → H a = some o → H' a = some o
section
variable {S : Addr → Prop} {H H' H1 H2 : Hp} {D : Addr} {o : HO}
theorem ExS.refl (H : Hp) : ExS S H H := fun _ _ _ h => h
theorem ExS.trans (a : ExS S H H1) (b : ExS S H1 H2) : ExS S H H2 := fun x o n h => b x o n (a x o n h)
theorem exs_of (e : Ex H H') : ExS S H H' := fun a o _ h => e a o h
theorem exs_upd (h : S D) : ExS S H (upd H D o) := fun a u n e => by
  rw [upd_ne (fun z => n (by rw [z]; exact h))]
  exact e
theorem ExS.mut (e : ExS S H H') (h : S D) : ExS S H (upd H' D o) := e.trans (exs_upd h)
/-- what S was not there for stands -/
theorem ExS.ex (e : ExS S H H') (h : ∀ a, S a → H a = none) : Ex H H' := fun a o q => e a o (fun z => by rw [h a z] at q; cases q) q
theorem ExS.tex (e : ExS S H H') (h : ∀ a xs, S a → H a ≠ some (.tup xs)) : TEx H H' := fun a xs q => e a _ (fun z => h a xs z q) q
end
def EvJ (S : Addr → Prop) (wi : TI) (σ : L2.St) (H : Hp) (n : Nat) (Y : Nat → V → Hp → Prop) : Prop := ∀ H1, Ex H H1 → ∀ R : It → Hp → Prop,
  (∀ (J : It) (H2 : Hp), Ex H1 H2 → (∀ i H3, i < n → ExS S H2 H3 → J.go i H3) → (∀ H3, ExS S H2 H3 → J.stop n H3) → (∀ i H3 x H4, i < n → ExS S H2 H3 → J.yld i H3 x H4 → Ex H3 H4 ∧ Y i x H4) → R J H2) → wi σ H1 R
def SK.At (k : SK) (H : Hp) (a : Addr) (xs : List V) : Prop := match k with
  | .l => H a = some (.lst xs)
  | .t => H a = some (.tup xs)
theorem SK.At.sq {k : SK} {K : PySem.W.Frag} {H : Hp} {a : Addr} {xs : List V} (h : k.At H a xs) : k.Sq K H a xs := by
  cases k with
  | l => exact sq_of h
  | t => exact st_of h
theorem SK.At.exs {S : Addr → Prop} {k : SK} {H H' : Hp} {a : Addr} {xs : List V} (h : k.At H a xs) (n : ¬ S a) (e : ExS S H H') : k.At H' a xs := by
  cases k with
  | l => exact e a _ n h
  | t => exact e a _ n h
section
variable {S : Addr → Prop} {K : PySem.W.Frag} {σ : L2.St} {H H' : Hp} {te tl : TE} {n : Nat} {Y : Nat → V → Hp → Prop}
theorem ej_zip2 {ta : TA} {k1 k2 : SK} {a b : Addr} {xs ys : List V} (h : EvA ta σ H [.ref a, .ref b]) (hx : k1.At H a xs) (hy : k2.At H b ys) (na : ¬ S a) (nb : ¬ S b) (hn : n = min xs.length ys.length) :
    EvJ S (iZip2 k1 k2 K ta) σ H n (fun i v H' => ∃ T x y, v = .ref T ∧ H' T = some (.tup [x, y]) ∧ xs[i]? = some x ∧ ys[i]? = some y) := fun H1 e R k =>
  h H1 e _ fun H2 e2 => by
    have hx2 := hx.exs na (exs_of (e.trans e2))
    have hy2 := hy.exs nb (exs_of (e.trans e2))
    refine ⟨a, b, xs, ys, rfl, hx2.sq, hy2.sq, k _ H2 e2 (fun i H3 hi e3 => ⟨xs, ys, (hx2.exs na e3).sq, (hy2.exs nb e3).sq, by omega, by omega⟩)
      (fun H3 e3 => ⟨xs, ys, (hx2.exs na e3).sq, (hy2.exs nb e3).sq, hn⟩) fun i H3 v H4 hi e3 y => ?_⟩
    obtain ⟨T, x, z, e1, e4, e5, f1, f2⟩ := y
    rw [e5]
    exact ⟨Ex.new e4, T, x, z, e1, upd_same, f1 xs (hx2.exs na e3).sq, f2 ys (hy2.exs nb e3).sq⟩
theorem ej_list {a : Addr} {xs : List V} (h : Ev tl σ H (.ref a)) (hx : H a = some (.lst xs)) (na : ¬ S a) : EvJ S (iList K tl) σ H xs.length (fun i x _ => xs[i]? = some x) := fun H1 e R k =>
  h H1 e _ fun H2 e2 => by
    have hx2 := (e.trans e2) a _ hx
    refine ⟨a, rfl, ⟨xs, sq_of hx2⟩, k _ H2 e2 (fun i H3 hi e3 => ⟨xs, xs[i], sq_of (e3 a _ na hx2), List.getElem?_eq_getElem hi⟩) (fun H3 e3 => ⟨xs, sq_of (e3 a _ na hx2), Nat.le_refl _⟩)
      fun i H3 x H4 hi e3 y => ?_⟩
    obtain ⟨e4, y⟩ := y
    rw [e4]
    exact ⟨Ex.refl _, y xs (sq_of (e3 a _ na hx2))⟩
/-- over a list that the head makes -/
theorem ej_newL {Pn : List V → Hp → Prop} (hS : ∀ a, S a → H a ≠ none) (h : EvN tl σ H (fun a H1 => ∃ xs, H1 a = some (.lst xs) ∧ xs.length = n ∧ Pn xs H1)) (hY : ∀ xs H1 H2 i x, Ex H H1 → ExS S H1 H2 → Pn xs H1 → xs[i]? = some x → Y i x H2) : EvJ S (iList K tl) σ H n Y := fun H1 e R k =>
  h H1 e _ fun a H2 hna e2 ⟨xs, ha, hl, hp⟩ => by
    subst hl
    have na : ¬ S a := fun z => by
      have := hS a z
      cases hh : H a with
      | none => exact this hh
      | some o =>
        rw [e a o hh] at hna
        cases hna
    refine ⟨a, rfl, ⟨xs, sq_of ha⟩, k _ H2 e2 (fun i H3 hi e3 => ⟨xs, xs[i], sq_of (e3 a _ na ha), List.getElem?_eq_getElem hi⟩) (fun H3 e3 => ⟨xs, sq_of (e3 a _ na ha), Nat.le_refl _⟩) fun i H3 x H4 hi e3 y => ?_⟩
    obtain ⟨e4, y⟩ := y
    rw [e4]
    exact ⟨Ex.refl _, hY xs H2 H3 i x (e.trans e2) e3 hp (y xs (sq_of (e3 a _ na ha)))⟩
/-- the keys of a locked dict -/
theorem ej_keys {d : Addr} {o : Obj} {kvs : List (List Key × V)} (h : Ev tl σ H (.ref d)) (hd : H d = some (.frz o (.dT kvs))) (na : ¬ S d) : EvJ S (iKeys tl) σ H kvs.length (fun i x H' => ∃ k v q, kvs[i]? = some (k, v) ∧ x = .ref q ∧ H' q = some (.tup (k.map kV))) := fun H1 e R k =>
  h H1 e _ fun H2 e2 => by
    have hd2 := (e.trans e2) d _ hd
    refine ⟨d, o, rfl, Or.inr ⟨kvs, hd2, k _ H2 e2 (fun i H3 hi e3 => ⟨e3 d _ na hd2, hi⟩) (fun H3 e3 => ⟨e3 d _ na hd2, Nat.le_refl _⟩) fun i H3 x H4 hi e3 y => ?_⟩⟩
    obtain ⟨e4, k, v, q, f1, f2, f3⟩ := y
    rw [e4]
    exact ⟨Ex.refl _, k, v, q, f1, f2, f3⟩
theorem ej_rng1 {ta : TA} {j : Int} (h : EvA ta σ H [.int j]) (hj : 0 ≤ j ∧ j ≤ 100000) : EvJ S (iRng1 ta) σ H j.toNat (fun i x _ => x = .int (i : Nat)) := fun H1 e R k =>
  h H1 e _ fun H2 e2 => ⟨j, rfl, by omega, by omega, k _ H2 e2 (fun i H3 hi _ => hi) (fun H3 _ => Nat.le_refl _) fun i H3 x H4 hi e3 y => by
    obtain ⟨e4, y⟩ := y
    rw [e4]
    exact ⟨Ex.refl _, by rw [y, Int.zero_add]⟩⟩
end
section
variable {S : Addr → Prop} {σ : L2.St} {H : Hp} {wi : TI} {g : TG} {tb tz : TS} {D : Ends} {n : Nat} {Y : Nat → V → Hp → Prop}
theorem s_forJ (h : EvJ S wi σ H n Y) (k : ∀ H2, Ex H H2 → ∃ Pv : Nat → L2.St → Hp → Prop, Pv 0 σ H2 ∧ (∀ i σ' H', Pv i σ' H' → ExS S H2 H') ∧
      (∀ i x σ' H' H'', i < n → Pv i σ' H' → Ex H' H'' → Y i x H'' → g x σ' H'' fun σ2 H2 => tb { D with nx := Pv (i + 1), ct := Pv (i + 1), bk := D.nx } σ2 H2) ∧ (∀ σ' H', Pv n σ' H' → D.nx σ' H')) : tFor wi g tb D σ H :=
  h H (Ex.refl H) _ fun J H2 e2 go stop yld => by
    obtain ⟨Pv, p0, pe, ps, pd⟩ := k H2 e2
    refine ⟨fun i m σ' H' => i + m = n ∧ Pv i σ' H', ⟨n, Nat.zero_add n, p0⟩, ?_⟩
    rintro i m σ' H' ⟨hm, p⟩
    by_cases hi : i < n
    · refine .inr ⟨go i H' hi (pe i σ' H' p), Pv (i + 1), fun σ2 H3 p' => ⟨m - 1, by omega, by omega, p'⟩, fun x H4 y => ?_⟩
      obtain ⟨e4, hY⟩ := yld i H' x H4 hi (pe i σ' H' p) y
      exact ps i x σ' H' H4 hi p e4 hY
    · have hn : i = n := by omega
      subst hn
      exact .inl ⟨stop H' (pe i σ' H' p), pd σ' H' p⟩
theorem q_forJ (h : EvJ S wi σ H n Y) (k : ∀ H2, Ex H H2 → ∃ Pv : Nat → L2.St → Hp → Prop, Pv 0 σ H2 ∧ (∀ i σ' H', Pv i σ' H' → ExS S H2 H') ∧
      (∀ i x σ' H' H'', i < n → Pv i σ' H' → Ex H' H'' → Y i x H'' → g x σ' H'' fun σ2 H2 => tb { D with nx := Pv (i + 1), ct := Pv (i + 1), bk := tz D } σ2 H2) ∧ (∀ σ' H', Pv n σ' H' → tz D σ' H')) : tSeq (tFor wi g tb) tz D σ H := s_forJ (D := { D with nx := tz D }) h k
variable {K : PySem.W.Frag} {te to ti : TE}
theorem ixN_nat' {n j : Nat} (hj : j < n) : ixN n (j : Int) = some j := ixN_nat hj
theorem s_augL {D : Ends} {l : Addr} {xs : List V} {j : Nat} {a b : Int} {f : Int → Int → Int} (ho : Ev to σ H (.ref l)) (hi : Ev ti σ H (.int (j : Int))) (he : Ev te σ H (.int b)) (hl : H l = some (.lst xs)) (hx : xs[j]? = some (.int a))
    (k : ∀ H1, Ex H H1 → D.nx σ (upd H1 l (.lst (xs.set j (.int (f a b)))))) : tAugS to ti te rGetL (ipI f) rSetL D σ H :=
  ho H (Ex.refl H) _ fun H1 e1 => hi H1 e1 _ fun H2 e2 => ⟨l, xs, j, .int a, rfl, rfl, (e1.trans e2) l _ hl, hx, he H2 (e1.trans e2) _ fun H3 e3 => ⟨a, b, rfl, rfl,
    ⟨l, xs, (j : Int), j, rfl, rfl, ((e1.trans e2).trans e3) l _ hl, ixN_nat (List.getElem?_eq_some_iff.mp hx).1, k H3 ((e1.trans e2).trans e3)⟩⟩⟩
theorem q_augL {D : Ends} {l : Addr} {xs : List V} {j : Nat} {a b : Int} {f : Int → Int → Int} (ho : Ev to σ H (.ref l)) (hi : Ev ti σ H (.int (j : Int))) (he : Ev te σ H (.int b)) (hl : H l = some (.lst xs)) (hx : xs[j]? = some (.int a))
    (k : ∀ H1, Ex H H1 → tz D σ (upd H1 l (.lst (xs.set j (.int (f a b)))))) : tSeq (tAugS to ti te rGetL (ipI f) rSetL) tz D σ H := s_augL (D := { D with nx := tz D }) ho hi he hl hx k
end
end TW
/-! Dicts with keys that are tuples of ints: {k: v}, readings, stores, locks. -/
namespace TW
open PySem PySem.Spec PyProof.Rows L2 Evl
/-- {k: v}, k a tuple -/
def tDispT (tk tv : TE) : TE := fun σ H Q => ∀ p, H p = none → tk σ (upd H p (.dT [])) fun y H1 => tv σ H1 fun z H2 => ∃ (k : List Key) (b : Addr), H2 p = some (.dT []) ∧ y = .ref b ∧ H2 b = some (.tup (k.map kV)) ∧ Q (.ref p) (upd H2 p (.dT [(k, z)]))
theorem pe_dispT {X : Cx} {k v : Expr} {pos : Pos} {tk tv : TE} (hu : X.A.units + 1 < cLine) (hk : PE X k tk) (hv : PE X v tv) : PE X (.Dict [some k] [v] pos) (tDispT tk tv) := by
  refine ⟨fun pins s σ H Q I q => ?_⟩
  have hn := I.hok.fresh (Nat.le_refl s.heap.objs.size)
  have I1 := I.laid (a := s.heap.objs.size) (o := .dT []) (h' := s.heap.push { cls := .type "dict", data := .dict #[] }) (t' := s.toks) (fun _ _ q => Heap.get?_push_of_some _ q) (Nat.le_refl _) (dt_empty s.heap I.big)
  refine PySem.wpAny_Dict_any (by rfl) rfl (fun z => nomatch z) (by show 1 ≤ 15; decide) (pairTrees_cons_walk (thn (hk.run pins _ σ _ _ I1 (q _ hn)) fun u s1 ⟨y, H1, I2, ry, q1⟩ => thn (hv.run pins s1 σ H1 _ I2 q1) fun w s2 ⟨z, H2, I3, rz, k, b, hp, ey, hb, q2⟩ => pairTrees_nil_walk ?_))
  subst ey
  unfold PySem.storeAll
  rw [List.forIn_cons]
  refine wpAny_bind (wpAny_bind (dictSet_T hu I3 hp hb (by decide) ry rz fun s' I' => wpAny_pure ?_))
  dsimp only
  rw [List.forIn_nil]
  exact wpAny_pure ⟨.ref s.heap.objs.size, _, I', rfl, q2⟩
/-- a tuple of ints as a key -/
def kI (ns : List Int) : List Key := ns.map Sum.inl
theorem kI_kV (ns : List Int) : (kI ns).map kV = ns.map V.int := by
  unfold kI
  rw [List.map_map]
  rfl
theorem kI_inj {a b : List Int} (h : kI a = kI b) : a = b := by
  unfold kI at h
  exact (List.map_inj_right (fun x y e => Sum.inl.inj e)).mp h
section
variable {σ : L2.St} {H H' : Hp} {td ty tv te : TE} {a b d : Addr} {kvs : List (List Key × V)} {v y : V} {D : Ends} {tz : TS} {k : List Key}
theorem ex_rdT (e : Ex H H') (h : Rd H a (.dT kvs)) : Rd H' a (.dT kvs) := ex_rd e h
theorem ev_dget (hd : Ev td σ H (.ref a)) (hy : Ev ty σ H (.ref b)) (h : Rd H a (.dT kvs)) (hb : H b = some (.tup (k.map kV))) (hv : valV kvs k = some v) : Ev (tDGet td ty) σ H v := fun H1 e Q q =>
  hd H1 e _ fun H2 e2 => hy H2 (e.trans e2) _ fun H3 e3 => ⟨a, v, rfl, .inr ⟨kvs, k, b, ex_rd ((e.trans e2).trans e3) h, rfl, ((e.trans e2).trans e3) b _ hb, hv.symm⟩, q H3 (e2.trans e3)⟩
theorem ev_din (hy : Ev ty σ H (.ref b)) (hd : Ev td σ H (.ref a)) (h : Rd H a (.dT kvs)) (hb : H b = some (.tup (k.map kV))) : Ev (tDIn ty td) σ H (.bl (valV kvs k).isSome) := fun H1 e Q q =>
  hy H1 e _ fun H2 e2 => hd H2 (e.trans e2) _ fun H3 e3 => ⟨a, _, rfl, .inr ⟨kvs, k, b, ex_rd ((e.trans e2).trans e3) h, rfl, ((e.trans e2).trans e3) b _ hb, rfl⟩, q H3 (e2.trans e3)⟩
theorem ev_dnotin (hy : Ev ty σ H (.ref b)) (hd : Ev td σ H (.ref a)) (h : Rd H a (.dT kvs)) (hb : H b = some (.tup (k.map kV))) : Ev (tDNotIn ty td) σ H (.bl (!(valV kvs k).isSome)) := fun H1 e Q q =>
  hy H1 e _ fun H2 e2 => hd H2 (e.trans e2) _ fun H3 e3 => ⟨a, _, rfl, .inr ⟨kvs, k, b, ex_rd ((e.trans e2).trans e3) h, rfl, ((e.trans e2).trans e3) b _ hb, rfl⟩, q H3 (e2.trans e3)⟩
theorem ev_dget1 (hd : Ev td σ H (.ref a)) (hy : Ev ty σ H (.ref b)) (h : Rd H a (.dT kvs)) (hb : H b = some (.tup (k.map kV))) : Ev (tDGet1 td ty) σ H ((valV kvs k).getD .non) := fun H1 e Q q =>
  hd H1 e _ fun H2 e2 => ⟨a, rfl, .inr ⟨kvs, ex_rd (e.trans e2) h⟩, hy H2 (e.trans e2) _ fun H3 e3 => ⟨_, .inr ⟨kvs, k, b, ex_rd ((e.trans e2).trans e3) h, rfl, ((e.trans e2).trans e3) b _ hb, rfl⟩, q H3 (e2.trans e3)⟩⟩
theorem ev_lenD (hd : Ev td σ H (.ref a)) (h : H a = some (.dT kvs)) : Ev (tCB rLenT (tCons td tNil)) σ H (.int ((kvs.length : Nat) : Int)) := fun H1 e Q q =>
  hd H1 e _ fun H2 e2 => ⟨a, kvs, rfl, (e.trans e2) a _ h, q H2 e2⟩
theorem s_dput {P : VP} (hv : EvP tv σ H P) (hd : Ev td σ H (.ref a)) (hy : Ev ty σ H (.ref b)) (h : H a = some (.dT kvs)) (hb : H b = some (.tup (k.map kV))) (hl : kvs.length < 100000)
    (q : ∀ v H1 H2, Ex H H1 → P v H1 → Ex H1 H2 → D.nx σ (upd H2 a (.dT (putK kvs k v)))) : sDPut td ty tv D σ H :=
  hv H (Ex.refl H) _ fun v H1 e1 p1 => hd H1 e1 _ fun H2 e2 => hy H2 (e1.trans e2) _ fun H3 e3 => ⟨a, _, rfl, .inr ⟨kvs, k, b, ((e1.trans e2).trans e3) a _ h, rfl, ((e1.trans e2).trans e3) b _ hb, sz_lt hl, rfl⟩, q v H1 H3 e1 p1 (e2.trans e3)⟩
theorem q_dput {P : VP} (hv : EvP tv σ H P) (hd : Ev td σ H (.ref a)) (hy : Ev ty σ H (.ref b)) (h : H a = some (.dT kvs)) (hb : H b = some (.tup (k.map kV))) (hl : kvs.length < 100000)
    (q : ∀ v H1 H2, Ex H H1 → P v H1 → Ex H1 H2 → tz D σ (upd H2 a (.dT (putK kvs k v)))) : tSeq (sDPut td ty tv) tz D σ H := s_dput (D := { D with nx := tz D }) hv hd hy h hb hl q
theorem q_daugS {i j : Int} (hd : Ev td σ H (.ref a)) (hy : Ev ty σ H (.ref b)) (he : Ev te σ H (.int j)) (h : H a = some (.dT kvs)) (hb : H b = some (.tup (k.map kV))) (hv : valV kvs k = some (.int i)) (hl : kvs.length < 100000)
    (q : ∀ H1, Ex H H1 → tz D σ (upd H1 a (.dT (putK kvs k (.int (i - j)))))) : tSeq (sDAug td ty te rSub) tz D σ H :=
  hd H (Ex.refl H) _ fun H1 e1 => hy H1 e1 _ fun H2 e2 => ⟨a, .int i, rfl, .inr ⟨kvs, k, b, .inl ((e1.trans e2) a _ h), rfl, (e1.trans e2) b _ hb, hv.symm⟩, he H2 (e1.trans e2) _ fun H3 e3 => ⟨i, j, rfl, rfl, _,
    .inr ⟨kvs, k, b, ((e1.trans e2).trans e3) a _ h, rfl, ((e1.trans e2).trans e3) b _ hb, sz_lt hl, rfl⟩, q H3 ((e1.trans e2).trans e3)⟩⟩
/-- d.setdefault(y, x) -/
theorem s_dset {P : VP} {tx : TE} (hd : Ev td σ H (.ref a)) (hy : EvP ty σ H (fun y H1 => ∃ b, y = .ref b ∧ H1 b = some (.tup (k.map kV)))) (hx : Ev tx σ H v) (h : H a = some (.dT kvs)) (hl : kvs.length < 100000)
    (q1 : (valV kvs k).isSome = true → ∀ H1, Ex H H1 → D.nx σ H1) (q2 : valV kvs k = none → ∀ H1, Ex H H1 → D.nx σ (upd H1 a (.dT (putK kvs k v)))) : tDrop (tDSetdT td ty tx) D σ H :=
  hd H (Ex.refl H) _ fun H1 e1 => ⟨a, rfl, .inr ⟨kvs, .inl (e1 a _ h)⟩, hy H1 e1 _ fun y H2 e2 ⟨b, ey, hb⟩ => hx H2 (e1.trans e2) _ fun H3 e3 => ⟨kvs, k, b, ((e1.trans e2).trans e3) a _ h, ey, e3 b _ hb, sz_lt hl,
    fun u hu => q1 (by rw [hu]; rfl) H3 ((e1.trans e2).trans e3), fun hn => q2 hn H3 ((e1.trans e2).trans e3)⟩⟩
/-- {} -/
theorem en_dnew : EvN tDNewT σ H (fun p H' => H' p = some (.dT [])) := fun H1 e Q q p hp => q p _ hp (Ex.new hp) upd_same
/-- {y: v} -/
theorem en_disp {tk : TE} (hy : Ev tk σ H (.ref b)) (hb : H b = some (.tup (k.map kV))) (hv : Ev tv σ H v) : EvN (tDispT tk tv) σ H (fun p H' => H' p = some (.dT [(k, v)])) := fun H1 e Q q p hp => by
  have e1 : Ex H1 (upd H1 p (.dT [])) := Ex.new hp
  refine hy _ (e.trans e1) _ fun H2 e2 => hv H2 ((e.trans e1).trans e2) _ fun H3 e3 => ⟨k, b, (e2.trans e3) p _ upd_same, rfl, (((e.trans e1).trans e2).trans e3) b _ hb, q p _ hp (Ex.mut ((e1.trans e2).trans e3) hp) upd_same⟩
end
end TW
namespace TW
open PySem PySem.Spec PyProof.Rows L2 Evl
section
variable {K : PySem.W.Frag} {σ : L2.St} {H H' : Hp} {ta tb te tc : TE} {t u : TT} {x y z v : V} {r r' : R2}
theorem ex_of {H H' : Hp} {a : Addr} {o : HO} (e : Ex H H') (h : H a = some o) : H' a = some o := e a o h
theorem rc_isi {a n : String} {b : Bool} (ty : ∀ H1, Ex H H1 → TyX K H1 x (.type a)) (h : kitB a n = some b) : RC (rIsi K) [x, .ty n] H (.bl b) := fun H1 e _ q =>
  ⟨x, .ty n, .type a, .type n, b, rfl, .ty n, ty H1 e, kit_ty h, q H1 (Ex.refl H1)⟩
theorem rc_isiI {i : Int} {n : String} {b : Bool} (h : kitB "int" n = some b) : RC (rIsi K) [.int i, .ty n] H (.bl b) := rc_isi (fun _ _ => .base (.int i)) h
theorem rc_isiT {p : Addr} {xs : List V} {n : String} {b : Bool} (hp : H p = some (.tup xs)) (h : kitB "tuple" n = some b) : RC (rIsi K) [.ref p, .ty n] H (.bl b) := rc_isi (fun H1 e => .base (.tup (e p _ hp))) h
theorem kb_ii : kitB "int" "int" = some true := by decide +kernel
theorem kb_ib : kitB "int" "bool" = some false := by decide +kernel
theorem kb_tt : kitB "tuple" "tuple" = some true := by decide +kernel
theorem ev_isiII {i : Int} (ha : EvA ta' σ H [.int i, .ty "int"]) : Ev (tCB (rIsi K) ta') σ H (.bl true) := ev_cb ha (rc_isiI kb_ii)
theorem ev_isiIB {i : Int} (ha : EvA ta' σ H [.int i, .ty "bool"]) : Ev (tCB (rIsi K) ta') σ H (.bl false) := ev_cb ha (rc_isiI kb_ib)
theorem ev_isiTT {p : Addr} {xs : List V} (hp : H p = some (.tup xs)) (ha : EvA ta' σ H [.ref p, .ty "tuple"]) : Ev (tCB (rIsi K) ta') σ H (.bl true) := ev_cb ha (rc_isiT hp kb_tt)
theorem ev_lenT {p : Addr} {xs : List V} (hp : H p = some (.tup xs)) (ha : Ev ta σ H (.ref p)) : Ev (tCB (rLenS K) (tCons ta tNil)) σ H (.int (xs.length : Int)) := fun H1 e Q q =>
  ha H1 e _ fun H2 e2 => ⟨p, xs, rfl, Or.inr (st_of ((e.trans e2) p _ hp)), q H2 e2⟩
theorem ev_lenL {p : Addr} {xs : List V} (hp : H p = some (.lst xs)) (ha : Ev ta σ H (.ref p)) : Ev (tCB (rLenS K) (tCons ta tNil)) σ H (.int (xs.length : Int)) := fun H1 e Q q =>
  ha H1 e _ fun H2 e2 => ⟨p, xs, rfl, Or.inl (sq_of ((e.trans e2) p _ hp)), q H2 e2⟩
theorem s_retV {D : Ends} {v' : V} (h : Ev te σ H v) (e : v = v') (k : ∀ H1, Ex H H1 → D.rt v' H1) : tRet te D σ H := s_ret h fun H1 e1 => by
  rw [e]
  exact k H1 e1
section
variable {D : Ends} {tz tu : TS}
theorem q_par {i j : Nat} {ta : TA} (h : EvA ta σ H [v, x]) (k : ∀ H1, Ex H H1 → tz D ((σ.set i (some v)).set j (some x)) H1) : tSeq (tPar i j ta) tz D σ H := h H (Ex.refl H) _ fun H1 e1 => ⟨v, x, rfl, k H1 e1⟩
theorem s_par {i j : Nat} {ta : TA} (h : EvA ta σ H [v, x]) (k : ∀ H1, Ex H H1 → D.nx ((σ.set i (some v)).set j (some x)) H1) : tPar i j ta D σ H := h H (Ex.refl H) _ fun H1 e1 => ⟨v, x, rfl, k H1 e1⟩
theorem s_cut {M : L2.St → Hp → Prop} (h : tu { D with nx := M } σ H) (k : ∀ σ' H', M σ' H' → tz D σ' H') (mono : ∀ (N : L2.St → Hp → Prop), (∀ σ' H', M σ' H' → N σ' H') → tu { D with nx := N } σ H) : tSeq tu tz D σ H := mono _ k
end
/-- handed back, as the promise told -/
theorem s_retI {D : Ends} {H0 : Hp} {z : V} (h : Ev te σ H v) (q : ∀ v' H', Ex H0 H' → IsV z v' H' → D.rt v' H') (e0 : Ex H0 H) (e : v = z) : tRet te D σ H := s_ret h fun H1 e1 => q v H1 (e0.trans e1) e
/-- a < b < c -/
theorem ev_chain {b1 b2 : Bool} (ha : Ev ta σ H x) (hb : Ev tb σ H y) (hc : Ev tc σ H z) (h1 : RV r x y H (.bl b1)) (h2 : RV r' y z H (.bl b2)) : Ev (tChain r r' ta tb tc) σ H (.bl (b1 && b2)) := fun H1 e Q q =>
  ha H1 e _ fun H2 e2 => hb H2 (e.trans e2) _ fun H3 e3 => h1 H3 ((e.trans e2).trans e3) _ fun H4 e4 => ⟨b1, rfl, by
    have e14 := ((e2.trans e3).trans e4)
    cases b1 with
    | true => exact hc H4 (e.trans e14) _ fun H5 e5 => h2 H5 (e.trans (e14.trans e5)) Q fun H6 e6 => q H6 ((e14.trans e5).trans e6)
    | false => exact q H4 e14⟩
theorem rv_ixTt {p : Addr} {xs : List V} {j : Nat} (h : H p = some (.tup xs)) (ha : xs[j]? = some v) : RV (rIxT K) (.ref p) (.int (j : Int)) H v := rv_ixT (st_of h) (atI_nat ha)
theorem rv_ixLl {p : Addr} {xs : List V} {j : Nat} (h : H p = some (.lst xs)) (ha : xs[j]? = some v) : RV (rIxL K) (.ref p) (.int (j : Int)) H v := rv_ixL (sq_of h) (atI_nat ha)
theorem rv_ix0 {p : Addr} {xs : List V} (h : H p = some (.tup xs)) (ha : xs[0]? = some v) : RV (rIxT K) (.ref p) (.int 0) H v := rv_ixTt (j := 0) h ha
theorem rv_ix1 {p : Addr} {xs : List V} (h : H p = some (.tup xs)) (ha : xs[1]? = some v) : RV (rIxT K) (.ref p) (.int 1) H v := rv_ixTt (j := 1) h ha
theorem rv_ix2 {p : Addr} {xs : List V} (h : H p = some (.tup xs)) (ha : xs[2]? = some v) : RV (rIxT K) (.ref p) (.int 2) H v := rv_ixTt (j := 2) h ha
theorem rv_ix4 {p : Addr} {xs : List V} (h : H p = some (.tup xs)) (ha : xs[4]? = some v) : RV (rIxT K) (.ref p) (.int 4) H v := rv_ixTt (j := 4) h ha
theorem rv_isN : RV (fun x y H Q => y = .non ∧ Q (.bl (decide (x = .non))) H) x .non H (.bl (decide (x = .non))) := fun H1 _ _ q => ⟨rfl, q H1 (Ex.refl H1)⟩
theorem rv_notN : RV (fun x y H Q => y = .non ∧ Q (.bl (!decide (x = .non))) H) x .non H (.bl (!decide (x = .non))) := fun H1 _ _ q => ⟨rfl, q H1 (Ex.refl H1)⟩
theorem ev_abs {i : Int} {ta : TA} (ha : EvA ta σ H [.int i]) : Ev (tCB (fun xs H Q => ∃ i, xs = [.int i] ∧ Q (.int (if i < 0 then -i else i)) H) ta) σ H (.int (if i < 0 then -i else i)) :=
  ev_cb ha fun H1 _ _ q => ⟨i, rfl, q H1 (Ex.refl H1)⟩
theorem ev_int {i : Int} {ta : TA} (ha : EvA ta σ H [.int i]) : Ev (tCB (fun xs H Q => (∃ i, xs = [.int i] ∧ Q (.int i) H) ∨ ∃ k, xs = [.bl k] ∧ Q (.int (if k then 1 else 0)) H) ta) σ H (.int i) :=
  ev_cb ha fun H1 _ _ q => Or.inl ⟨i, rfl, q H1 (Ex.refl H1)⟩
end
section
variable {P : Program} {w : World} {K : PySem.W.Frag} {mg : Str → Option Value} {base : Heap} {C : Addr}
local macro_rules | `(tactic| walk_at "rv") => `(tactic| first
  | exact rv_I0
  | exact rv_eq rfl
  | exact rv_ne rfl
  | exact rv_isN
  | exact rv_notN
  | (apply rv_I; (try dsimp only); first | omega | assumption | exact ⟨by omega, by omega⟩ | exact Or.inl ⟨by omega, by omega⟩ | exact Or.inr ⟨by omega, by omega⟩)
  | (apply rv_ix0; assumption; rfl)
  | (apply rv_ix1; assumption; rfl)
  | (apply rv_ix2; assumption; rfl)
  | (apply rv_ix4; assumption; rfl))
local macro_rules | `(tactic| walk_at "ea") => `(tactic| first
  | exact ea_nil
  | (apply ea_cons; walk_at "ev"; walk_at "ea"))
local macro_rules | `(tactic| walk_at "ev") => `(tactic| first
  | exact ev_c
  | (apply ev_var; rfl)
  | (apply ev_op; walk_at "ev"; walk_at "ev"; walk_at "rv")
  | (apply ev_un; walk_at "ev"; exact ru_neg)
  | (apply ev_isiII; walk_at "ea")
  | (apply ev_isiIB; walk_at "ea")
  | (apply ev_isiTT; assumption; walk_at "ea")
  | (apply ev_lenT; assumption; walk_at "ev")
  | (apply ev_lenL; assumption; walk_at "ev")
  | (apply ev_andV; walk_at "ev"; intro _; walk_at "ev")
  | (apply ev_orV; walk_at "ev"; intro _; walk_at "ev")
  | (apply ev_notV; walk_at "ev")
  | (apply ev_chain; walk_at "ev"; walk_at "ev"; walk_at "ev"; walk_at "rv"; walk_at "rv")
  | (apply ev_abs; walk_at "ea")
  | (apply ev_int; walk_at "ea"))
local macro_rules | `(tactic| walk_at "et") => `(tactic| first
  | (apply et_test; walk_at "ev")
  | (apply et_B; walk_at "ev")
  | (apply et_not; walk_at "et")
  | (apply et_and; walk_at "et"; intro _; walk_at "et")
  | (apply et_or; walk_at "et"; intro _; walk_at "et"))


/-! ### looks at integers -/
abbrev sp_is_integer : Sp := fsp (fun (i : Int) vs _ => vs = [.int i]) (fun _ => IsV (.bl true))
theorem has_is_integer (T : Tops K mg C) : Has P w K mg base 1 "is_integer" ["thing"] sp_is_integer := by
  refine T.d_is_integer.has sc_is_integer (fun vs H Q E h => ?_) (fun f cdv A outer s H vs Q E hr h => ?_)
  · obtain ⟨i, rfl, _⟩ := h; rfl
  · obtain ⟨i, rfl, q⟩ := h
    refine ⟨_, (pss_one (ps_ret (pe_and (pe_callB call_isi (by rfl) T.b_isinstance (by decide +kernel) (pa_cons (pv 0) (pa_cons (pe_bltn (v := .ty "int") (by rfl) T.b_int (by decide +kernel) rfl) pa_nil))) (pe_one (pe_not (pe_callB call_isi (by rfl) T.b_isinstance (by decide +kernel) (pa_cons (pv 0) (pa_cons (pe_bltn (v := .ty "bool") (by rfl) T.b_bool (by decide +kernel) rfl) pa_nil)))))))), ?_⟩
    apply s_retI
    · walk_at "ev"
    · exact q
    · exact (Ex.refl H)
    · rfl
theorem ev_is_integer {E : XK} {σ : L2.St} {H : Hp} {ta : TA} {i : Int} (h : EvA ta σ H [.int i]) : Ev (tCall sp_is_integer [] E ta) σ H (.bl true) := ev_callV i h (fun _ _ => rfl) fun _ _ p => p
local macro_rules | `(tactic| walk_at "ev") => `(tactic| ((with_reducible apply ev_is_integer); walk_at "ea"))
abbrev sp_is_between : Sp := fsp (fun (a : Int × Int × Int) vs _ => vs = [.int a.1, .int a.2.1, .int a.2.2]) (fun a => IsV (.bl (decide (a.2.1 ≤ a.1) && decide (a.1 ≤ a.2.2))))
theorem has_is_between (T : Tops K mg C) : Has P w K mg base 2 "is_between" ["thing", "least", "most"] sp_is_between := by
  refine T.d_is_between.has sc_is_between (fun vs H Q E h => ?_) (fun f cdv A outer s H vs Q E hr h => ?_)
  · obtain ⟨i, rfl, _⟩ := h; rfl
  · obtain ⟨⟨i, a, b⟩, rfl, q⟩ := h
    refine ⟨_, (pss_one (ps_ret (pe_and (pe_fn (has_is_integer T) (hr.mono (by decide)) (by rfl) (pa_cons (pv 0) pa_nil)) (pe_one (pe_chain op_le op_le (pv 1) (pv 0) (pv 2)))))), ?_⟩
    apply s_retI
    · walk_at "ev"
    · exact q
    · exact (Ex.refl H)
    · rfl
theorem ev_is_between {E : XK} {σ : L2.St} {H : Hp} {ta : TA} {i a b : Int} (h : EvA ta σ H [.int i, .int a, .int b]) : Ev (tCall sp_is_between [] E ta) σ H (.bl (decide (a ≤ i) && decide (i ≤ b))) := ev_callV (i, a, b) h (fun _ _ => rfl) fun _ _ p => p
local macro_rules | `(tactic| walk_at "ev") => `(tactic| ((with_reducible apply ev_is_between); walk_at "ea"))
abbrev sp_is_pair : Sp := fsp (fun (xs : List V) vs H => ∃ p, vs = [.ref p] ∧ H p = some (.tup xs)) (fun xs => IsV (.bl (decide ((xs.length : Int) = 2))))
theorem has_is_pair (T : Tops K mg C) : Has P w K mg base 1 "is_pair" ["thing"] sp_is_pair := by
  refine T.d_is_pair.has sc_is_pair (fun vs H Q E h => ?_) (fun f cdv A outer s H vs Q E hr h => ?_)
  · obtain ⟨_, ⟨p, rfl, _⟩, _⟩ := h; rfl
  · obtain ⟨xs, ⟨p, rfl, hp⟩, q⟩ := h
    refine ⟨_, (pss_one (ps_ret (pe_and (pe_callB call_isi (by rfl) T.b_isinstance (by decide +kernel) (pa_cons (pv 0) (pa_cons (pe_bltn (v := .ty "tuple") (by rfl) T.b_tuple (by decide +kernel) rfl) pa_nil))) (pe_one (pe_cmpR op_eq (pe_callB call_len_seq (by rfl) T.b_len (by decide +kernel) (pa_cons (pv 0) pa_nil)) pe_int (nomark _)))))), ?_⟩
    apply s_retI
    · walk_at "ev"
    · exact q
    · exact (Ex.refl H)
    · rw [Bool.true_and]
      congr 1
      exact decide_eq_decide.mpr ⟨V.int.inj, congrArg _⟩
theorem ev_is_pair {E : XK} {σ : L2.St} {H : Hp} {ta : TA} {p : Addr} {xs : List V} (hp : H p = some (.tup xs)) (h : EvA ta σ H [.ref p]) : Ev (tCall sp_is_pair [] E ta) σ H (.bl (decide ((xs.length : Int) = 2))) := ev_callV xs h (fun _ e => ⟨p, rfl, e p _ hp⟩) fun _ _ p => p
abbrev sp_is_triple : Sp := fsp (fun (xs : List V) vs H => ∃ p, vs = [.ref p] ∧ H p = some (.tup xs)) (fun xs => IsV (.bl (decide ((xs.length : Int) = 3))))
theorem has_is_triple (T : Tops K mg C) : Has P w K mg base 1 "is_triple" ["thing"] sp_is_triple := by
  refine T.d_is_triple.has sc_is_triple (fun vs H Q E h => ?_) (fun f cdv A outer s H vs Q E hr h => ?_)
  · obtain ⟨_, ⟨p, rfl, _⟩, _⟩ := h; rfl
  · obtain ⟨xs, ⟨p, rfl, hp⟩, q⟩ := h
    refine ⟨_, (pss_one (ps_ret (pe_and (pe_callB call_isi (by rfl) T.b_isinstance (by decide +kernel) (pa_cons (pv 0) (pa_cons (pe_bltn (v := .ty "tuple") (by rfl) T.b_tuple (by decide +kernel) rfl) pa_nil))) (pe_one (pe_cmpR op_eq (pe_callB call_len_seq (by rfl) T.b_len (by decide +kernel) (pa_cons (pv 0) pa_nil)) pe_int (nomark _)))))), ?_⟩
    apply s_retI
    · walk_at "ev"
    · exact q
    · exact (Ex.refl H)
    · rw [Bool.true_and]
      congr 1
      exact decide_eq_decide.mpr ⟨V.int.inj, congrArg _⟩
theorem ev_is_triple {E : XK} {σ : L2.St} {H : Hp} {ta : TA} {p : Addr} {xs : List V} (hp : H p = some (.tup xs)) (h : EvA ta σ H [.ref p]) : Ev (tCall sp_is_triple [] E ta) σ H (.bl (decide ((xs.length : Int) = 3))) := ev_callV xs h (fun _ e => ⟨p, rfl, e p _ hp⟩) fun _ _ p => p
/-! ### fractions -/
abbrev sp_divisor : Sp := fsp (fun (a : Int × Int) vs _ => vs = [.int a.1, .int a.2]) (fun a => IsV (.int (Int.gcd a.1 a.2 : Int)))
theorem gcd_step (x y : Int) : Int.gcd y (x % y) = Int.gcd x y := by
  rw [Int.gcd_comm x y]
  have h := Int.gcd_add_mul_left_right y (x % y) (x / y)
  rw [show x % y + y * (x / y) = x by rw [Int.add_comm]; exact Int.mul_ediv_add_emod x y] at h
  exact h.symm
theorem has_divisor (T : Tops K mg C) : Has P w K mg base 1 "divisor" ["one", "other"] sp_divisor := by
  refine T.d_divisor.has sc_divisor (fun vs H Q E h => ?_) (fun f cdv A outer s H vs Q E hr h => ?_)
  · obtain ⟨i, rfl, _⟩ := h; rfl
  · obtain ⟨⟨a, b⟩, rfl, q⟩ := h
    refine ⟨_, (pss_cons (ps_par (i := 0) (j := 1) rfl sc_divisor.nd rfl rfl (by decide) rfl rfl (pa_cons (pe_callB call_abs (by rfl) T.b_abs (by decide +kernel) (pa_cons (pv 0) pa_nil)) (pa_cons (pe_callB call_abs (by rfl) T.b_abs (by decide +kernel) (pa_cons (pv 1) pa_nil)) pa_nil)) (by rfl))
      (pss_cons (ps_while PassesOwn.never (pt_cmpR op_gt (pv 1) pe_int (nomark _))
        (pss_one (ps_par (i := 0) (j := 1) rfl sc_divisor.nd rfl rfl (by decide) rfl rfl (pa_cons (pv 1) (pa_cons (pe_op op_mod (pv 0) (pv 1)) pa_nil)) (by rfl))))
      (pss_one (ps_ret (pv 0))))), ?_⟩
    refine q_par (v := .int (if a < 0 then -a else a)) (x := .int (if b < 0 then -b else b)) (by walk_at "ea") fun H1 e1 => ?_
    refine q_while (fun m σ' H' => ∃ x y : Int, σ' = [some (.int x), some (.int y)] ∧ 0 ≤ x ∧ 0 ≤ y ∧ Int.gcd x y = Int.gcd a b ∧ m = y.toNat ∧ Ex H H') _ ⟨_, _, rfl, ?_, ?_, ?_, rfl, e1⟩ ?_
    · split <;> omega
    · split <;> omega
    · split <;> split <;> simp
    · rintro m σ' H' ⟨x, y, rfl, hx, hy, hg, rfl, e2⟩
      refine ⟨decide (0 < y), by walk_at "et", fun hb H2 e3 => ?_, fun hb H2 e3 => ?_⟩
      · have hy0 : 0 < y := of_decide_eq_true hb
        refine ⟨fun σ' H' => ∃ x' y' : Int, σ' = [some (.int x'), some (.int y')] ∧ 0 ≤ x' ∧ 0 ≤ y' ∧ Int.gcd x' y' = Int.gcd a b ∧ y' < y ∧ Ex H H', ?_, ?_⟩
        · rintro σ2 H2 ⟨x', y', rfl, h1, h2, h3, h4, h5⟩
          exact ⟨y'.toNat, by omega, x', y', rfl, h1, h2, h3, rfl, h5⟩
        · refine s_par (v := .int y) (x := .int (x % y)) (by walk_at "ea") fun H3 e4 => ⟨y, x % y, rfl, hy, Int.emod_nonneg _ (by omega), (gcd_step x y).trans hg, Int.emod_lt_of_pos _ hy0, (e2.trans e3).trans e4⟩
      · have hy0 : y = 0 := by
          have := of_decide_eq_false hb
          omega
        subst hy0
        apply s_retI
        · walk_at "ev"
        · exact q
        · exact (e2.trans e3)
        · rw [Int.gcd_zero] at hg
          show V.int x = V.int (Int.gcd a b : Int)
          rw [← hg]
          congr 1
          omega
theorem ev_divisor {E : XK} {σ : L2.St} {H : Hp} {ta : TA} {a b : Int} (h : EvA ta σ H [.int a, .int b]) : Ev (tCall sp_divisor [] E ta) σ H (.int (Int.gcd a b : Int)) := ev_callV (a, b) h (fun _ _ => rfl) fun _ _ p => p
local macro_rules | `(tactic| walk_at "ev") => `(tactic| ((with_reducible apply ev_divisor); walk_at "ea"))
end
end TW
namespace TW
open PySem PySem.Spec PyProof.Rows L2 Evl
/-! ### what stands at an address -/
def StepsAt (H : Hp) (v : V) (fs : List (Int × Int)) : Prop := ∃ a vs, v = .ref a ∧ H a = some (.tup vs) ∧ Paired (FrAt H) vs fs
theorem FrAt.ex {H H' : Hp} {v : V} {f : Int × Int} (e : TEx H H') (h : FrAt H v f) : FrAt H' v f := by
  obtain ⟨a, rfl, h⟩ := h
  exact ⟨a, rfl, e a _ h⟩
theorem StepsAt.ex {H H' : Hp} {v : V} {fs : List (Int × Int)} (e : TEx H H') (h : StepsAt H v fs) : StepsAt H' v fs := by
  obtain ⟨a, vs, rfl, h, hp⟩ := h
  exact ⟨a, vs, rfl, e a _ h, paired_imp (fun _ _ q => q.ex e) hp⟩
/-! ### the mathematics of thresholds -/
/-- a threshold that the program takes -/
def Good (f : Int × Int) : Prop := 1 ≤ f.1 ∧ f.1 ≤ 1000000 ∧ 1 ≤ f.2 ∧ f.2 ≤ 144 ∧ Int.gcd f.1 f.2 = 1
def gcdI (a b : Int) : Int := (Int.gcd a b : Int)
theorem gcdI_pos {a b : Int} (hb : 0 < b) : 0 < gcdI a b := by
  have := Int.gcd_pos_of_ne_zero_right a (b := b) (by omega)
  unfold gcdI
  omega
theorem gcdI_le {a b : Int} (hb : 0 < b) : gcdI a b ≤ b := Int.gcd_le_right a hb
def unitOf (g : Int) (f : Int × Int) : Int := -((-(f.1 * g / gcdI (f.1 * g) f.2)) / (f.2 / gcdI (f.1 * g) f.2))
def grainsOf (w o : Int) : Int := if w = 0 ∨ o = 0 then max (max w o) 1 else w / gcdI w o * o
section
variable {P : Program} {w : World} {K : PySem.W.Frag} {mg : Str → Option Value} {base : Heap} {C : Addr}
local macro_rules | `(tactic| walk_at "rv") => `(tactic| first
  | exact rv_I0
  | exact rv_eq rfl
  | exact rv_ne rfl
  | exact rv_isN
  | exact rv_notN
  | (apply rv_I; (try dsimp only); first | omega | assumption | exact ⟨by omega, by omega⟩ | exact Or.inl ⟨by omega, by omega⟩ | exact Or.inr ⟨by omega, by omega⟩)
  | (apply rv_ix0; assumption; rfl)
  | (apply rv_ix1; assumption; rfl)
  | (apply rv_ix2; assumption; rfl)
  | (apply rv_ix4; assumption; rfl))
local macro_rules | `(tactic| walk_at "ea") => `(tactic| first
  | exact ea_nil
  | (apply ea_cons; walk_at "ev"; walk_at "ea"))
local macro_rules | `(tactic| walk_at "ev") => `(tactic| first
  | exact ev_c
  | (apply ev_var; rfl)
  | (apply ev_op; walk_at "ev"; walk_at "ev"; walk_at "rv")
  | (apply ev_un; walk_at "ev"; exact ru_neg)
  | (apply ev_isiII; walk_at "ea")
  | (apply ev_isiIB; walk_at "ea")
  | (apply ev_isiTT; assumption; walk_at "ea")
  | (apply ev_lenT; assumption; walk_at "ev")
  | (apply ev_lenL; assumption; walk_at "ev")
  | (apply ev_andV; walk_at "ev"; intro _; walk_at "ev")
  | (apply ev_orV; walk_at "ev"; intro _; walk_at "ev")
  | (apply ev_notV; walk_at "ev")
  | (apply ev_chain; walk_at "ev"; walk_at "ev"; walk_at "ev"; walk_at "rv"; walk_at "rv")
  | (apply ev_abs; walk_at "ea")
  | (apply ev_int; walk_at "ea"))
local macro_rules | `(tactic| walk_at "et") => `(tactic| first
  | (apply et_test; walk_at "ev")
  | (apply et_B; walk_at "ev")
  | (apply et_not; walk_at "et")
  | (apply et_and; walk_at "et"; intro _; walk_at "et")
  | (apply et_or; walk_at "et"; intro _; walk_at "et"))

local macro_rules | `(tactic| walk_at "ev") => `(tactic| ((with_reducible apply ev_is_integer); walk_at "ea"))
local macro_rules | `(tactic| walk_at "ev") => `(tactic| ((with_reducible apply ev_is_between); walk_at "ea"))
local macro_rules | `(tactic| walk_at "ev") => `(tactic| ((with_reducible apply ev_divisor); walk_at "ea"))
abbrev sp_multiple : Sp := fsp (fun (a : Int × Int) vs _ => vs = [.int a.1, .int a.2] ∧ 0 < a.1 ∧ a.1 ≤ 1000 ∧ 0 < a.2 ∧ a.2 ≤ 1000) (fun a => IsV (.int (a.1 / gcdI a.1 a.2 * a.2)))
theorem has_multiple (T : Tops K mg C) : Has P w K mg base 2 "multiple" ["one", "other"] sp_multiple := by
  refine T.d_multiple.has sc_multiple (fun vs H Q E h => ?_) (fun f cdv A outer s H vs Q E hr h => ?_)
  · obtain ⟨i, ⟨rfl, _⟩, _⟩ := h; rfl
  · obtain ⟨⟨a, b⟩, ⟨rfl, ha, ha', hb, hb'⟩, q⟩ := h
    refine ⟨_, (pss_one (ps_ret (pe_op op_mul (pe_op op_fdiv (pv 0) (pe_fn (has_divisor T) (hr.mono (by decide)) (by rfl) (pa_cons (pv 0) (pa_cons (pv 1) pa_nil)))) (pv 1)))), ?_⟩
    have g0 := gcdI_pos (a := a) hb
    have g1 := gcdI_le (a := a) hb
    simp only at ha ha' hb hb' g0 g1
    apply s_retI
    · apply ev_op
      · apply ev_op
        · walk_at "ev"
        · walk_at "ev"
        · exact rv_I (show CDiv a (gcdI a b) from ⟨g0, by omega⟩)
      · walk_at "ev"
      · exact rv_I (show CMul (a / gcdI a b) b from .inr ⟨by omega, by omega⟩)
    · exact q
    · exact Ex.refl H
    · rfl
theorem ev_multiple {E : XK} {σ : L2.St} {H : Hp} {ta : TA} {a b : Int} (h : EvA ta σ H [.int a, .int b]) (ha : 0 < a ∧ a ≤ 1000 ∧ 0 < b ∧ b ≤ 1000) : Ev (tCall sp_multiple [] E ta) σ H (.int (a / gcdI a b * b)) := ev_callV (a, b) h (fun _ _ => ⟨rfl, ha⟩) fun _ _ p => p
/-- made: the fraction in lowest terms -/
def lowest (a b : Int) : Int × Int := (a / gcdI a b, b / gcdI a b)
abbrev sp_made : Sp := fsp (fun (a : Int × Int) vs _ => vs = [.int a.1, .int a.2] ∧ 0 < a.2 ∧ a.2 ≤ 100000) (fun a v H => FrAt H v (lowest a.1 a.2))
theorem has_made (T : Tops K mg C) : Has P w K mg base 2 "made" ["top", "bottom"] sp_made := by
  refine T.d_made.has sc_made (fun vs H Q E h => ?_) (fun f cdv A outer s H vs Q E hr h => ?_)
  · obtain ⟨i, ⟨rfl, _⟩, _⟩ := h; rfl
  · obtain ⟨⟨a, b⟩, ⟨rfl, hb, hb'⟩, q⟩ := h
    refine ⟨_, (pss_cons (ps_set (i := 2) sc_made.nd rfl (.inl rfl) (pe_fn (has_divisor T) (hr.mono (by decide)) (by rfl) (pa_cons (pv 0) (pa_cons (pv 1) pa_nil))))
      (pss_one (ps_ret (pe_tup (pa_cons (pe_op op_fdiv (pv 0) (pv 2)) (pa_cons (pe_op op_fdiv (pv 1) (pv 2)) pa_nil)))))), ?_⟩
    have g0 := gcdI_pos (a := a) hb
    have g1 := gcdI_le (a := a) hb
    simp only at hb hb' g0 g1
    refine q_asg (v := .int (gcdI a b)) (ev_divisor (by walk_at "ea")) fun H1 e1 => ?_
    refine s_retU (xs := [.int (a / gcdI a b), .int (b / gcdI a b)]) (eu_tup (ea_cons ?_ (ea_cons ?_ ea_nil)) (by show 2 ≤ 100000; decide)) fun p H2 hp e2 h2 => q _ _ (e1.trans e2) ⟨p, rfl, h2⟩
    · exact ev_op (by walk_at "ev") (by walk_at "ev") (rv_I (show CDiv a (gcdI a b) from ⟨g0, by omega⟩))
    · exact ev_op (by walk_at "ev") (by walk_at "ev") (rv_I (show CDiv b (gcdI a b) from ⟨g0, by omega⟩))
theorem ep_made {E : XK} {σ : L2.St} {H : Hp} {ta : TA} {a b : Int} (h : EvA ta σ H [.int a, .int b]) (hb : 0 < b ∧ b ≤ 100000) : EvP (tCall sp_made [] E ta) σ H (fun v H1 => FrAt H1 v (lowest a b)) := ep_call (a, b) h (fun _ _ => ⟨rfl, hb⟩)
abbrev sp_is_fraction : Sp := fsp (fun (f : Int × Int) vs H => ∃ v, vs = [v] ∧ FrAt H v f ∧ 1 ≤ f.2 ∧ Int.gcd f.1 f.2 = 1) (fun _ => IsV (.bl true))
theorem has_is_fraction (T : Tops K mg C) : Has P w K mg base 2 "is_fraction" ["thing"] sp_is_fraction := by
  refine T.d_is_fraction.has sc_is_fraction (fun vs H Q E h => ?_) (fun f cdv A outer s H vs Q E hr h => ?_)
  · obtain ⟨_, ⟨v, rfl, _⟩, _⟩ := h; rfl
  · obtain ⟨⟨a, b⟩, ⟨v, rfl, ⟨p, rfl, hp⟩, hb, hg⟩, q⟩ := h
    refine ⟨_, (pss_cons (ps_if (PW.pt (pw_or (pt_not (pt_val (pe_fn (has_is_pair T) (hr.mono (by decide)) (by rfl) (pa_cons (pv 0) pa_nil)))) (pw_or (pt_not (pt_val (pe_fn (has_is_integer T) (hr.mono (by decide)) (by rfl) (pa_cons (pe_ix ix_tup (pv 0) pe_int (fun _ _ => rfl)) pa_nil)))) (pw_or (pt_not (pt_val (pe_fn (has_is_integer T) (hr.mono (by decide)) (by rfl) (pa_cons (pe_ix ix_tup (pv 0) pe_int (fun _ _ => rfl)) pa_nil)))) (pw_or1 (pt_cmpR op_lt (pe_ix ix_tup (pv 0) pe_int (fun _ _ => rfl)) pe_int (nomark _)))))))
        (pss_one (ps_ret pe_bl))
        pss_nil)
      (pss_one (ps_ret (pe_cmpR op_eq (pe_fn (has_divisor T) (hr.mono (by decide)) (by rfl) (pa_cons (pe_ix ix_tup (pv 0) pe_int (fun _ _ => rfl)) (pa_cons (pe_ix ix_tup (pv 0) pe_int (fun _ _ => rfl)) pa_nil))) pe_int (nomark _))))), ?_⟩
    simp only at hp hb hg
    refine q_when (b := false) ?_ (fun z => nomatch z) fun _ H1 e1 => ?_
    · apply et_is
      · apply et_or
        · apply et_not
          exact et_B (ev_is_pair hp (by walk_at "ea"))
        · intro _
          walk_at "et"
      · simp
        omega
    · have hp1 := e1 p _ hp
      apply s_retI
      · walk_at "ev"
      · exact q
      · exact e1
      · rw [hg]; rfl
theorem ev_is_fraction {E : XK} {σ : L2.St} {H : Hp} {ta : TA} {v : V} {f : Int × Int} (h : EvA ta σ H [v]) (hf : FrAt H v f) (h1 : 1 ≤ f.2) (h2 : Int.gcd f.1 f.2 = 1) : Ev (tCall sp_is_fraction [] E ta) σ H (.bl true) := ev_callV f h (fun _ e => ⟨v, rfl, hf.ex (tex_of e), h1, h2⟩) fun _ _ p => p
abbrev sp_is_below : Sp := fsp (fun (a : (Int × Int) × (Int × Int)) vs H => ∃ v u, vs = [v, u] ∧ FrAt H v a.1 ∧ FrAt H u a.2 ∧ (-1000000000 < a.1.1 ∧ a.1.1 < 1000000000) ∧ (-1000000000 < a.2.1 ∧ a.2.1 < 1000000000)) (fun a => IsV (.bl (decide (a.1.1 * a.2.2 < a.2.1 * a.1.2))))
theorem has_is_below (T : Tops K mg C) : Has P w K mg base 1 "is_below" ["one", "other"] sp_is_below := by
  refine T.d_is_below.has sc_is_below (fun vs H Q E h => ?_) (fun f cdv A outer s H vs Q E hr h => ?_)
  · obtain ⟨_, ⟨v, u, rfl, _⟩, _⟩ := h; rfl
  · obtain ⟨⟨⟨a, b⟩, ⟨c, d⟩⟩, ⟨v, u, rfl, ⟨p, rfl, hp⟩, ⟨p', rfl, hp'⟩, h1, h2⟩, q⟩ := h
    refine ⟨_, (pss_one (ps_ret (pe_cmpR op_lt (pe_op op_mul (pe_ix ix_tup (pv 0) pe_int (fun _ _ => rfl)) (pe_ix ix_tup (pv 1) pe_int (fun _ _ => rfl))) (pe_op op_mul (pe_ix ix_tup (pv 1) pe_int (fun _ _ => rfl)) (pe_ix ix_tup (pv 0) pe_int (fun _ _ => rfl))) (nomark _)))), ?_⟩
    simp only at hp hp' h1 h2
    have i0 : ∀ j v, ([.int a, .int b] : List V)[j]? = some v → RV (rIxT K) (.ref p) (.int ((j : Nat) : Int)) H v := fun j v e => rv_ixTt hp e
    have j0 : ∀ j v, ([.int c, .int d] : List V)[j]? = some v → RV (rIxT K) (.ref p') (.int ((j : Nat) : Int)) H v := fun j v e => rv_ixTt hp' e
    apply s_retI
    · apply ev_op
      · exact ev_op (ev_op (ev_var rfl) ev_c (i0 0 _ rfl)) (ev_op (ev_var rfl) ev_c (j0 1 _ rfl)) (rv_I (show CMul a d from .inl ⟨by omega, by omega⟩))
      · exact ev_op (ev_op (ev_var rfl) ev_c (j0 0 _ rfl)) (ev_op (ev_var rfl) ev_c (i0 1 _ rfl)) (rv_I (show CMul c b from .inl ⟨by omega, by omega⟩))
      · exact rv_I0
    · exact q
    · exact Ex.refl H
    · rfl
theorem ev_is_below {E : XK} {σ : L2.St} {H : Hp} {ta : TA} {v u : V} {f g : Int × Int} (h : EvA ta σ H [v, u]) (hf : FrAt H v f) (hg : FrAt H u g) (h1 : -1000000000 < f.1 ∧ f.1 < 1000000000) (h2 : -1000000000 < g.1 ∧ g.1 < 1000000000) : Ev (tCall sp_is_below [] E ta) σ H (.bl (decide (f.1 * g.2 < g.1 * f.2))) :=
  ev_callV (f, g) h (fun _ e => ⟨v, u, rfl, hf.ex (tex_of e), hg.ex (tex_of e), h1, h2⟩) fun _ _ p => p
abbrev sp_next_whole : Sp := fsp (fun (f : Int × Int) vs H => ∃ v, vs = [v] ∧ FrAt H v f ∧ 0 < f.2 ∧ f.2 ≤ 100000) (fun f => IsV (.int (-((-f.1) / f.2))))
theorem has_next_whole (T : Tops K mg C) : Has P w K mg base 1 "next_whole" ["one"] sp_next_whole := by
  refine T.d_next_whole.has sc_next_whole (fun vs H Q E h => ?_) (fun f cdv A outer s H vs Q E hr h => ?_)
  · obtain ⟨_, ⟨v, rfl, _⟩, _⟩ := h; rfl
  · obtain ⟨⟨a, b⟩, ⟨v, rfl, ⟨p, rfl, hp⟩, hb, hb'⟩, q⟩ := h
    refine ⟨_, (pss_one (ps_ret (pe_un un_neg (pe_op op_fdiv (pe_un un_neg (pe_ix ix_tup (pv 0) pe_int (fun _ _ => rfl))) (pe_ix ix_tup (pv 0) pe_int (fun _ _ => rfl)))))), ?_⟩
    simp only at hp hb hb'
    apply s_retI
    · exact ev_un (ev_op (ev_un (ev_op (ev_var rfl) ev_c (rv_ix0 hp rfl)) ru_neg) (ev_op (ev_var rfl) ev_c (rv_ix1 hp rfl)) (rv_I (show CDiv (-a) b from ⟨hb, by omega⟩))) ru_neg
    · exact q
    · exact Ex.refl H
    · rfl
theorem ev_next_whole {E : XK} {σ : L2.St} {H : Hp} {ta : TA} {v : V} {f : Int × Int} (h : EvA ta σ H [v]) (hf : FrAt H v f) (hb : 0 < f.2 ∧ f.2 ≤ 100000) : Ev (tCall sp_next_whole [] E ta) σ H (.int (-((-f.1) / f.2))) := ev_callV f h (fun _ e => ⟨v, rfl, hf.ex (tex_of e), hb⟩) fun _ _ p => p
abbrev sp_is_threshold : Sp := fsp (fun (f : Int × Int) vs H => ∃ v, vs = [v] ∧ FrAt H v f ∧ Good f) (fun _ => IsV (.bl true))
theorem has_is_threshold (T : Tops K mg C) : Has P w K mg base 3 "is_threshold" ["thing"] sp_is_threshold := by
  refine T.d_is_threshold.has sc_is_threshold (fun vs H Q E h => ?_) (fun f cdv A outer s H vs Q E hr h => ?_)
  · obtain ⟨_, ⟨v, rfl, _⟩, _⟩ := h; rfl
  · obtain ⟨⟨a, b⟩, ⟨v, rfl, ⟨p, rfl, hp⟩, hG⟩, q⟩ := h
    refine ⟨_, (pss_one (ps_ret (pe_and (pe_fn (has_is_fraction T) (hr.mono (by decide)) (by rfl) (pa_cons (pv 0) pa_nil)) (pe_and (pe_chain op_le op_le pe_int (pe_ix ix_tup (pv 0) pe_int (fun _ _ => rfl)) (pe_gint T.g_MOST_TOP (by rfl))) (pe_one (pe_cmpR op_le (pe_ix ix_tup (pv 0) pe_int (fun _ _ => rfl)) (pe_gint T.g_MOST_BOTTOM (by rfl)) (nomark _))))))), ?_⟩
    obtain ⟨g1, g2, g3, g4, g5⟩ := id hG
    simp only at hp g1 g2 g3 g4 g5
    apply s_retI
    · apply ev_andV
      · exact ev_is_fraction (f := (a, b)) (by walk_at "ea") ⟨p, rfl, hp⟩ g3 g5
      · intro _
        walk_at "ev"
    · exact q
    · exact Ex.refl H
    · simp [g1, g2, g4]
theorem ev_is_threshold {E : XK} {σ : L2.St} {H : Hp} {ta : TA} {v : V} {f : Int × Int} (h : EvA ta σ H [v]) (hf : FrAt H v f) (hb : Good f) : Ev (tCall sp_is_threshold [] E ta) σ H (.bl true) := ev_callV f h (fun _ e => ⟨v, rfl, hf.ex (tex_of e), hb⟩) fun _ _ p => p
abbrev sp_is_width : Sp := fsp (fun (i : Int) vs _ => vs = [.int i]) (fun i => IsV (.bl (decide (0 ≤ i) && decide (i ≤ 12))))
theorem has_is_width (T : Tops K mg C) : Has P w K mg base 3 "is_width" ["thing"] sp_is_width := by
  refine T.d_is_width.has sc_is_width (fun vs H Q E h => ?_) (fun f cdv A outer s H vs Q E hr h => ?_)
  · obtain ⟨i, rfl, _⟩ := h; rfl
  · obtain ⟨i, rfl, q⟩ := h
    refine ⟨_, (pss_one (ps_ret (pe_fn (has_is_between T) (hr.mono (by decide)) (by rfl) (pa_cons (pv 0) (pa_cons pe_int (pa_cons (pe_gint T.g_MOST_WIDTH (by rfl)) pa_nil)))))), ?_⟩
    apply s_retI
    · walk_at "ev"
    · exact q
    · exact Ex.refl H
    · rfl
theorem ev_is_width {E : XK} {σ : L2.St} {H : Hp} {ta : TA} {i : Int} (h : EvA ta σ H [.int i]) : Ev (tCall sp_is_width [] E ta) σ H (.bl (decide (0 ≤ i) && decide (i ≤ 12))) := ev_callV i h (fun _ _ => rfl) fun _ _ p => p
local macro_rules | `(tactic| walk_at "ev") => `(tactic| ((with_reducible apply ev_is_width); walk_at "ea"))
abbrev sp_parts_of_grain : Sp := fsp (fun (a : Int × Int) vs _ => vs = [.int a.1, .int a.2] ∧ 0 ≤ a.1 ∧ a.1 ≤ 12 ∧ 0 ≤ a.2 ∧ a.2 ≤ 12) (fun a => IsV (.int (grainsOf a.1 a.2)))
theorem has_parts_of_grain (T : Tops K mg C) : Has P w K mg base 3 "parts_of_grain" ["width", "other"] sp_parts_of_grain := by
  refine T.d_parts_of_grain.has sc_parts_of_grain (fun vs H Q E h => ?_) (fun f cdv A outer s H vs Q E hr h => ?_)
  · obtain ⟨_, ⟨rfl, _⟩, _⟩ := h; rfl
  · obtain ⟨⟨a, b⟩, ⟨rfl, h1, h2, h3, h4⟩, q⟩ := h
    refine ⟨_, (pss_cons (ps_if (PW.pt (pw_or (pt_cmpR op_eq (pv 0) pe_int (nomark _)) (pw_or1 (pt_cmpR op_eq (pv 1) pe_int (nomark _)))))
        (pss_one (ps_ret (pe_callB (call_max3 rfl) (by rfl) T.b_max (by decide +kernel) (pa_cons (pv 0) (pa_cons (pv 1) (pa_cons pe_int pa_nil))))))
        pss_nil)
      (pss_one (ps_ret (pe_fn (has_multiple T) (hr.mono (by decide)) (by rfl) (pa_cons (pv 0) (pa_cons (pv 1) pa_nil)))))), ?_⟩
    simp only at h1 h2 h3 h4
    refine q_when (b := decide (a = 0 ∨ b = 0)) ?_ (fun z H1 e1 => ?_) fun z H1 e1 => ?_
    · apply et_is
      · walk_at "et"
      · simp only [V.int.injEq, Bool.decide_or]
    · have z := of_decide_eq_true z
      apply s_retI
      · exact ev_cb (r := rMax3) (vs := [.int a, .int b, .int 1]) (by walk_at "ea") fun H2 _ _ qq => ⟨a, b, 1, rfl, qq H2 (Ex.refl H2)⟩
      · exact q
      · exact e1
      · unfold grainsOf
        rw [if_pos z]
    · have z := of_decide_eq_false z
      apply s_retI
      · exact ev_multiple (a := a) (b := b) (by walk_at "ea") ⟨by omega, by omega, by omega, by omega⟩
      · exact q
      · exact e1
      · unfold grainsOf
        rw [if_neg z]
theorem ev_parts_of_grain {E : XK} {σ : L2.St} {H : Hp} {ta : TA} {a b : Int} (h : EvA ta σ H [.int a, .int b]) (ha : 0 ≤ a ∧ a ≤ 12 ∧ 0 ≤ b ∧ b ≤ 12) : Ev (tCall sp_parts_of_grain [] E ta) σ H (.int (grainsOf a b)) := ev_callV (a, b) h (fun _ _ => ⟨rfl, ha⟩) fun _ _ p => p
end
end TW
namespace TW
open PySem PySem.Spec PyProof.Rows L2 Evl
theorem pg_tupK {X : Cx} {K : PySem.W.Frag} {es : List Expr} {k : Nat} {t : TGs} {n : Nat} {pos : Pos} (hK : X.K = K) (hc : X.calm = true) (h : PGs X es t)
    (hn : (assignEach es X.env).length = n := by rfl) (hst : (assignEach es X.env).findIdx? (·.1) = none := by rfl) : PG X (.Tuple es k pos) (gTup K n t) := by
  subst hK
  exact pg_tup hc h hn hst
/-! ### all, any, tuple of a new list -/
section
variable {K : PySem.W.Frag} {σ : L2.St} {H : Hp} {te tl : TE} {x v : V}
theorem ev_allN {bs : List Bool} (h : EvL te σ H (bs.map V.bl)) : Ev (tCB (rAll K) (tCons te tNil)) σ H (.bl (bs.all id)) := fun H1 e Q q =>
  h H1 e _ fun p H2 _ e2 hp => ⟨p, bs, rfl, sq_of hp, q H2 e2⟩
theorem ev_anyN {bs : List Bool} (h : EvL te σ H (bs.map V.bl)) : Ev (tCB (rAny K) (tCons te tNil)) σ H (.bl (bs.any id)) := fun H1 e Q q =>
  h H1 e _ fun p H2 _ e2 hp => ⟨p, bs, rfl, sq_of hp, q H2 e2⟩
theorem eu_tupleN {xs : List V} (h : EvL te σ H xs) : EvU (tCB (fun xs H Q => ∃ p ys, xs = [.ref p] ∧ ((SqL K H p ys ∧ ∀ l, H l = none → Q (.ref l) (upd H l (.tup ys))) ∨ (SqT K H p ys ∧ Q (.ref p) H))) (tCons te tNil)) σ H xs := fun H1 e Q q =>
  h H1 e _ fun p H2 _ e2 hp => ⟨p, xs, rfl, Or.inl ⟨sq_of hp, fun l hl => q l _ (fresh_back e2 hl) (e2.trans (Ex.new hl)) upd_same⟩⟩
theorem eu_tupleP {P : List V → Hp → Prop} (hP : ∀ xs H1 H2, Ex H1 H2 → P xs H1 → P xs H2) (h : EvN te σ H (fun p H' => ∃ ys, H' p = some (.lst ys) ∧ P ys H')) : EvN (tCB (fun xs H Q => ∃ p ys, xs = [.ref p] ∧ ((SqL K H p ys ∧ ∀ l, H l = none → Q (.ref l) (upd H l (.tup ys))) ∨ (SqT K H p ys ∧ Q (.ref p) H))) (tCons te tNil)) σ H (fun p H' => ∃ ys, H' p = some (.tup ys) ∧ P ys H') := fun H1 e Q q =>
  h H1 e _ fun p H2 _ e2 ⟨ys, hp, hq⟩ => ⟨p, ys, rfl, Or.inl ⟨sq_of hp, fun l hl => q l _ (fresh_back e2 hl) (e2.trans (Ex.new hl)) ⟨ys, upd_same, hP _ _ _ (Ex.new hl) hq⟩⟩⟩
theorem ev_callQ {α : Type} {pre : α → List V → Hp → Prop} {post : α → V → Hp → Prop} {E : XK} {ta : TA} {z : V} {Pa : List V → Hp → Prop} (a : α) (h : EvQ ta σ H Pa) (hp : ∀ vs H1, Ex H H1 → Pa vs H1 → pre a vs H1) (hz : ∀ v H1, post a v H1 → v = z) : Ev (tCall (fsp pre post) [] E ta) σ H z :=
  ev_of ((ep_callQ a h hp).imp fun v H1 _ p => hz v H1 p)
theorem eq_one {P : VP} (h : EvP te σ H P) : EvQ (tCons te tNil) σ H (fun vs H2 => ∃ x, vs = [x] ∧ P x H2) := fun H1 e Q q => h H1 e _ fun x H2 e2 p => q [x] H2 e2 ⟨x, rfl, p⟩
theorem eq_ev {tr : TA} {Pr : List V → Hp → Prop} (h : Ev te σ H x) (hr : EvQ tr σ H Pr) : EvQ (tCons te tr) σ H (fun vs H2 => ∃ r, vs = x :: r ∧ Pr r H2) := fun H1 e Q q =>
  h H1 e _ fun H2 e2 => hr H2 (e.trans e2) _ fun rs H3 e3 p3 => q _ H3 (e2.trans e3) ⟨rs, rfl, p3⟩
theorem EvQ.imp {ta : TA} {Pa Pb : List V → Hp → Prop} (h : EvQ ta σ H Pa) (k : ∀ vs H1, Ex H H1 → Pa vs H1 → Pb vs H1) : EvQ ta σ H Pb := fun H1 e Q q => h H1 e Q fun vs H2 e2 p => q vs H2 e2 (k vs H2 (e.trans e2) p)
/-- a one-place slice -/
theorem ep_slA {a : Addr} {xs : List V} {lo hi : Option Int} {tl th : TO} (h : Ev te σ H (.ref a)) (h1 : EvO tl σ H lo) (h2 : EvO th σ H hi) (hs : H a = some (.tup xs)) : EvP (tSl (rSlA K) te tl th) σ H (fun v H1 => ∃ b, v = .ref b ∧ H1 b = some (.tup (cutV xs lo hi))) := fun H1 e Q q =>
  h H1 e _ fun H2 e2 => h1 H2 (e.trans e2) _ fun H3 e3 => h2 H3 ((e.trans e2).trans e3) _ fun H4 e4 =>
    have ha := (((e.trans e2).trans e3).trans e4) a _ hs
    ⟨a, xs, rfl, st_of ha, fun hw => q _ H4 ((e2.trans e3).trans e4) ⟨a, rfl, by
        have hc : cutV xs lo hi = xs := by
          unfold cutV
          rw [hw.1, hw.2]
          simp
        rw [hc]
        exact ha⟩,
      fun _ p hp => q _ _ (((e2.trans e3).trans e4).trans (Ex.new hp)) ⟨p, rfl, upd_same⟩⟩
theorem all_true {n : Nat} {f : Nat → Bool} (h : ∀ i, i < n → f i = true) : ((List.range n).map f).all id = true := by
  simp only [List.all_map, List.all_eq_true, List.mem_range]
  exact fun i hi => h i hi
theorem any_false {n : Nat} {f : Nat → Bool} (h : ∀ i, i < n → f i = false) : ((List.range n).map f).any id = false := by
  simp only [List.any_map, List.any_eq_false, List.mem_range]
  intro i hi
  simp [h i hi]
theorem paired_at {α β : Type} {F : α → β → Prop} : ∀ {xs : List α} {ys : List β} {i : Nat} {y : β}, Paired F xs ys → ys[i]? = some y → ∃ x, xs[i]? = some x ∧ F x y
  | _, _, _, _, .nil, h => by simp at h
  | _, _, 0, _, .cons r s, h => by
    cases Option.some.inj h
    exact ⟨_, rfl, r⟩
  | _, _, i + 1, _, .cons r s, h => paired_at (i := i) s h
end
/-- ints as values -/
abbrev vI (ns : List Int) : List V := ns.map V.int
section
variable {P : Program} {w : World} {K : PySem.W.Frag} {mg : Str → Option Value} {base : Heap} {C : Addr}
local macro_rules | `(tactic| walk_at "rv") => `(tactic| first
  | exact rv_I0
  | exact rv_eq rfl
  | exact rv_ne rfl
  | exact rv_isN
  | exact rv_notN
  | (apply rv_I; (try dsimp only); first | omega | assumption | exact ⟨by omega, by omega⟩ | exact Or.inl ⟨by omega, by omega⟩ | exact Or.inr ⟨by omega, by omega⟩)
  | (apply rv_ix0; assumption; rfl)
  | (apply rv_ix1; assumption; rfl)
  | (apply rv_ix2; assumption; rfl)
  | (apply rv_ix4; assumption; rfl))
local macro_rules | `(tactic| walk_at "ea") => `(tactic| first
  | exact ea_nil
  | (apply ea_cons; walk_at "ev"; walk_at "ea"))
local macro_rules | `(tactic| walk_at "ev") => `(tactic| first
  | exact ev_c
  | (apply ev_var; rfl)
  | (apply ev_op; walk_at "ev"; walk_at "ev"; walk_at "rv")
  | (apply ev_un; walk_at "ev"; exact ru_neg)
  | (apply ev_isiII; walk_at "ea")
  | (apply ev_isiIB; walk_at "ea")
  | (apply ev_isiTT; assumption; walk_at "ea")
  | (apply ev_lenT; assumption; walk_at "ev")
  | (apply ev_lenL; assumption; walk_at "ev")
  | (apply ev_andV; walk_at "ev"; intro _; walk_at "ev")
  | (apply ev_orV; walk_at "ev"; intro _; walk_at "ev")
  | (apply ev_notV; walk_at "ev")
  | (apply ev_chain; walk_at "ev"; walk_at "ev"; walk_at "ev"; walk_at "rv"; walk_at "rv")
  | (apply ev_abs; walk_at "ea")
  | (apply ev_int; walk_at "ea"))
local macro_rules | `(tactic| walk_at "et") => `(tactic| first
  | (apply et_test; walk_at "ev")
  | (apply et_B; walk_at "ev")
  | (apply et_not; walk_at "et")
  | (apply et_and; walk_at "et"; intro _; walk_at "et")
  | (apply et_or; walk_at "et"; intro _; walk_at "et"))

local macro_rules | `(tactic| walk_at "ev") => `(tactic| ((with_reducible apply ev_is_integer); walk_at "ea"))
local macro_rules | `(tactic| walk_at "ev") => `(tactic| ((with_reducible apply ev_is_between); walk_at "ea"))
local macro_rules | `(tactic| walk_at "ev") => `(tactic| ((with_reducible apply ev_divisor); walk_at "ea"))
local macro_rules | `(tactic| walk_at "ev") => `(tactic| ((with_reducible apply ev_is_width); walk_at "ea"))
abbrev sp_in_grains : Sp := fsp (fun (a : List (Int × Int) × Int) vs H => ∃ v, vs = [v, .int a.2] ∧ StepsAt H v a.1 ∧ (∀ f ∈ a.1, Good f) ∧ a.1.length ≤ 6) (fun a => NewT (vI (a.1.map (unitOf a.2))))
theorem has_in_grains (T : Tops K mg C) : Has P w K mg base 3 "in_grains" ["steps", "grains"] sp_in_grains := by
  refine T.d_in_grains.has sc_in_grains (fun vs H Q E h => ?_) (fun f cdv A outer s H vs Q E hr h => ?_)
  · obtain ⟨_, ⟨v, rfl, _⟩, _⟩ := h; rfl
  · obtain ⟨⟨fs, g⟩, ⟨v, rfl, ⟨p, us, rfl, hp, hP⟩, hG, hl6⟩, q⟩ := h
    refine ⟨_, (pss_one (ps_ret (pe_callTy call_tuple_of (by rfl) T.b_tuple (by decide +kernel) (pa_cons (pe_lc (own := [("step", 2)]) rfl sc_in_grains.nd (pi_tup (pv 0)) (blkOk_by (own := [("step", 2)]) (N := N_in_grains) (sc := defScope s_in_grains) (by decide +kernel)) (fun _ _ _ _ _ => (pg_name (i := 2) sc_in_grains.nd rfl (Or.inl rfl))) (fun _ _ _ _ _ => pts_nil) (fun _ _ _ _ _ => (pe_fn (has_next_whole T) (hr.mono (by decide)) (by rfl) (pa_cons (pe_fn (has_made T) (hr.mono (by decide)) (by rfl) (pa_cons (pe_op op_mul (pe_ix (r := rIxT K) ix_tup (pv 2) pe_int (fun _ _ => rfl)) (pv 1)) (pa_cons (pe_ix (r := rIxT K) ix_tup (pv 2) pe_int (fun _ _ => rfl)) pa_nil))) pa_nil)))) pa_nil)))), ?_⟩
    simp only at hp hP hG hl6
    have hlen := Paired.length hP
    have el : vI (fs.map (unitOf g)) = (List.range us.length).map fun i => V.int (unitOf g (fs.getD i (0, 0))) := by
      rw [hlen]
      apply List.ext_getElem
      · simp
      · intro i h1 h2
        simp at h1
        simp [List.getD, List.getElem?_eq_getElem h1]
    refine s_retU (eu_tupleN (el_lcA (fun i => V.int (unitOf g (fs.getD i (0, 0)))) (ei_tup (ev_var rfl) (st_of hp)) (by omega) fun i x H1 e hi hx => ⟨_, eg_name, rfl, ?_⟩)) fun l H1 _ e h1 => q _ _ e ⟨l, rfl, by rw [h1, el]⟩
    obtain ⟨f, hf, a, rfl, hfa⟩ := paired_get' hP hx
    have hGf := hG f (List.mem_of_getElem? hf)
    obtain ⟨g1, g2, g3, g4, g5⟩ := id hGf
    rw [show fs.getD i (0, 0) = f by simp [List.getD, hf]]
    have hfa := e a _ hfa
    have d0 := gcdI_pos (a := f.1 * g) (b := f.2) (by omega)
    have d1 := gcdI_le (a := f.1 * g) (b := f.2) (by omega)
    have d2 : gcdI (f.1 * g) f.2 ∣ f.2 := Int.gcd_dvd_right _ _
    have d3 : 0 < f.2 / gcdI (f.1 * g) f.2 := Int.ediv_pos_of_pos_of_dvd (by omega) (by omega) d2
    have d4 : f.2 / gcdI (f.1 * g) f.2 ≤ f.2 := Int.ediv_le_self _ (by omega)
    refine ev_callQ (lowest (f.1 * g) f.2) (eq_one (ep_made (a := f.1 * g) (b := f.2) (ea_cons ?_ (ea_cons ?_ ea_nil)) ⟨by omega, by omega⟩)) (fun vs H2 _ hv => ?_) fun _ _ hz => hz
    · exact ev_op (ev_op (ev_var rfl) ev_c (rv_ix0 hfa rfl)) (ev_var rfl) (rv_I (show CMul f.1 g from .inl ⟨by omega, by omega⟩))
    · exact ev_op (ev_var rfl) ev_c (rv_ix1 hfa rfl)
    · obtain ⟨z, rfl, hr⟩ := hv
      exact ⟨z, rfl, hr, d3, Int.le_trans d4 (by omega)⟩
theorem eu_in_grains {E : XK} {σ : L2.St} {H : Hp} {ta : TA} {v : V} {fs : List (Int × Int)} {g : Int} (h : EvA ta σ H [v, .int g]) (hs : StepsAt H v fs) (hG : ∀ f ∈ fs, Good f) (hl : fs.length ≤ 6) : EvP (tCall sp_in_grains [] E ta) σ H (NewT (vI (fs.map (unitOf g)))) :=
  ep_call (fs, g) h fun H1 e => ⟨v, rfl, hs.ex (tex_of e), hG, hl⟩
/-! ### lists of thresholds -/
def Sorted (fs : List (Int × Int)) : Prop := ∀ (i : Nat) (f g : Int × Int), fs[i]? = some f → fs[i + 1]? = some g → f.1 * g.2 ≤ g.1 * f.2
def GoodL (fs : List (Int × Int)) : Prop := (∀ f ∈ fs, Good f) ∧ 1 ≤ fs.length ∧ fs.length ≤ 6 ∧ Sorted fs
abbrev sp_is_list : Sp := fsp (fun (fs : List (Int × Int)) vs H => ∃ v, vs = [v] ∧ StepsAt H v fs ∧ GoodL fs) (fun _ => IsV (.bl true))
theorem cut1 (xs : List V) : cutV xs (some 1) none = xs.drop 1 := by
  have e1 : HT.sIx xs.length 0 (some 1) = min 1 xs.length := HT.sIx_nat _ _ 1
  have e2 : HT.sIx xs.length xs.length none = xs.length := rfl
  unfold cutV
  rw [e1, e2]
  cases xs with
  | nil => rfl
  | cons x r => simp
theorem has_is_list (T : Tops K mg C) : Has P w K mg base 4 "is_list" ["thing"] sp_is_list := by
  refine T.d_is_list.has sc_is_list (fun vs H Q E h => ?_) (fun f cdv A outer s H vs Q E hr h => ?_)
  · obtain ⟨_, ⟨v, rfl, _⟩, _⟩ := h; rfl
  · obtain ⟨fs, ⟨v, rfl, ⟨p, us, rfl, hp, hP⟩, hG, hl1, hl6, hS⟩, q⟩ := h
    refine ⟨_, (pss_cons (ps_if (PW.pt (pw_or (pt_not (pt_val (pe_callB call_isi (by rfl) T.b_isinstance (by decide +kernel) (pa_cons (pv 0) (pa_cons (pe_bltn (v := .ty "tuple") (by rfl) T.b_tuple (by decide +kernel) rfl) pa_nil))))) (pw_or1 (pt_not (pt_chain op_le op_le pe_int (pe_callB (r := rLenS K) call_len_seq (by rfl) T.b_len (by decide +kernel) (pa_cons (pv 0) pa_nil)) (pe_gint T.g_MOST_THRESHOLDS (by rfl)))))))
        (pss_one (ps_ret pe_bl))
        pss_nil)
      (pss_cons (ps_if (pt_not (pt_val (pe_callB (cr_all rfl) (by rfl) T.b_all (by decide +kernel) (pa_cons (pe_lc (own := [("item", 1)]) rfl sc_is_list.nd (pi_tup (pv 0)) (blkOk_by (own := [("item", 1)]) (N := N_is_list) (sc := defScope s_is_list) (by decide +kernel)) (fun _ _ _ _ _ => (pg_name (i := 1) sc_is_list.nd rfl (Or.inl rfl))) (fun _ _ _ _ _ => pts_nil) (fun _ _ _ _ _ => (pe_fn (has_is_threshold T) (hr.mono (by decide)) (by rfl) (pa_cons (pv 1) pa_nil)))) pa_nil))))
        (pss_one (ps_ret pe_bl))
        pss_nil)
      (pss_one (ps_ret (pe_not (pe_callB (cr_any rfl) (by rfl) T.b_any (by decide +kernel) (pa_cons (pe_lc (own := [("item", 1), ("later", 2)]) rfl sc_is_list.nd (pi_zip2 .t .t (by rfl) T.b_zip (pa_cons (pv 0) (pa_cons (pe_slice (r := rSlA K) sl_tupA (pv 0) (po_some pe_int) po_none) pa_nil))) (blkOk_by (own := [("item", 1), ("later", 2)]) (N := N_is_list) (sc := defScope s_is_list) (by decide +kernel)) (fun _ _ _ _ _ => (pg_tupK (n := 2) rfl rfl (pgs_cons (pg_name (i := 1) sc_is_list.nd rfl (Or.inl rfl)) (pgs_cons (pg_name (i := 2) sc_is_list.nd rfl (Or.inl rfl)) pgs_nil)))) (fun _ _ _ _ _ => pts_nil) (fun _ _ _ _ _ => (pe_fn (has_is_below T) (hr.mono (by decide)) (by rfl) (pa_cons (pv 2) (pa_cons (pv 1) pa_nil))))) pa_nil))))))), ?_⟩
    have hlen := Paired.length hP
    refine q_when (b := false) ?_ (fun z => nomatch z) fun _ H1 e1 => ?_
    · apply et_is
      · walk_at "et"
      · simp
        omega
    have hp1 := e1 p _ hp
    refine q_when (b := false) ?_ (fun z => nomatch z) fun _ H2 e2 => ?_
    · apply et_is
      · apply et_not
        apply et_B
        refine ev_allN (bs := (List.range us.length).map fun _ => true) ?_
        rw [List.map_map]
        refine el_lcA _ (ei_tup (ev_var rfl) (st_of hp1)) (by omega) fun i x H3 e hi hx => ⟨_, eg_name, rfl, ?_⟩
        obtain ⟨f, hf, hfa⟩ := paired_get' hP hx
        exact ev_is_threshold (f := f) (ea_cons (ev_var rfl) ea_nil) (hfa.ex (tex_of (e1.trans e))) (hG f (List.mem_of_getElem? hf))
      · rw [all_true (fun _ _ => rfl)]
        rfl
    have hp2 := e2 p _ hp1
    apply s_retI
    · apply ev_notV
      refine ev_anyN (bs := (List.range (us.length - 1)).map fun _ => false) ?_
      rw [List.map_map]
      refine el_lcA _ (ei_zip2Q (Pn := fun xs ys _ => xs = us ∧ ys = us.drop 1) (n := us.length - 1) ((eq_ev (ev_var rfl) (eq_one (ep_slA (K := K) (ev_var rfl) (eo_some ev_c) eo_none hp2))).imp fun vs H3 e3 hv => ?_) fun _ _ _ _ _ h => h) (by omega) fun i x H3 e hi hx => ?_
      · obtain ⟨r, rfl, z, rfl, b, rfl, hb⟩ := hv
        rw [cut1] at hb
        exact ⟨p, b, us, us.drop 1, rfl, sk_t (e3 p _ hp2), sk_t hb, by rw [List.length_drop]; omega, rfl, rfl⟩
      · obtain ⟨Tz, x1, y1, xs, ys, rfl, hT, hx1, hy1, rfl, rfl⟩ := hx
        refine ⟨_, eg_tup2 hT, rfl, ?_⟩
        rw [List.getElem?_drop, Nat.add_comm] at hy1
        obtain ⟨f1, hf1, ha1⟩ := paired_get' hP hx1
        obtain ⟨f2, hf2, ha2⟩ := paired_get' hP hy1
        have g1 := hG f1 (List.mem_of_getElem? hf1)
        have g2 := hG f2 (List.mem_of_getElem? hf2)
        have e3 := tex_of ((e1.trans e2).trans e)
        refine ev_is (ev_is_below (f := f2) (g := f1) (ea_cons (ev_var rfl) (ea_cons (ev_var rfl) ea_nil)) (ha2.ex e3) (ha1.ex e3) ⟨by have := g2.1; omega, by have := g2.2.1; omega⟩ ⟨by have := g1.1; omega, by have := g1.2.1; omega⟩) ?_
        have := hS i f1 f2 hf1 hf2
        exact congrArg V.bl (decide_eq_false (by omega))
    · exact q
    · exact (e1.trans e2)
    · rw [any_false (fun _ _ => rfl)]
      rfl
theorem ev_is_list {E : XK} {σ : L2.St} {H : Hp} {ta : TA} {v : V} {fs : List (Int × Int)} (h : EvA ta σ H [v]) (hs : StepsAt H v fs) (hG : GoodL fs) : Ev (tCall sp_is_list [] E ta) σ H (.bl true) := ev_callV fs h (fun _ e => ⟨v, rfl, hs.ex (tex_of e), hG⟩) fun _ _ p => p
/-! ### rows, lots -/
abbrev sp_is_row : Sp := fsp (fun (a : List Int) vs H => ∃ p, vs = [.ref p, .int (a.length : Int)] ∧ H p = some (.tup (vI a)) ∧ a.length ≤ 1000) (fun _ => IsV (.bl true))
theorem has_is_row (T : Tops K mg C) : Has P w K mg base 2 "is_row" ["thing", "many"] sp_is_row := by
  refine T.d_is_row.has sc_is_row (fun vs H Q E h => ?_) (fun f cdv A outer s H vs Q E hr h => ?_)
  · obtain ⟨_, ⟨v, rfl, _⟩, _⟩ := h; rfl
  · obtain ⟨ns, ⟨p, rfl, hp, hl⟩, q⟩ := h
    refine ⟨_, (pss_one (ps_ret (pe_and (pe_callB call_isi (by rfl) T.b_isinstance (by decide +kernel) (pa_cons (pv 0) (pa_cons (pe_bltn (v := .ty "tuple") (by rfl) T.b_tuple (by decide +kernel) rfl) pa_nil))) (pe_and (pe_cmpR op_eq (pe_callB (r := rLenS K) call_len_seq (by rfl) T.b_len (by decide +kernel) (pa_cons (pv 0) pa_nil)) (pv 1) (nomark _)) (pe_one (pe_callB (cr_all rfl) (by rfl) T.b_all (by decide +kernel) (pa_cons (pe_lc (own := [("item", 2)]) rfl sc_is_row.nd (pi_tup (pv 0)) (blkOk_by (own := [("item", 2)]) (N := N_is_row) (sc := defScope s_is_row) (by decide +kernel)) (fun _ _ _ _ _ => (pg_name (i := 2) sc_is_row.nd rfl (Or.inl rfl))) (fun _ _ _ _ _ => pts_nil) (fun _ _ _ _ _ => (pe_fn (has_is_integer T) (hr.mono (by decide)) (by rfl) (pa_cons (pv 2) pa_nil)))) pa_nil))))))), ?_⟩
    apply s_retI
    · apply ev_andV
      · walk_at "ev"
      · intro _
        apply ev_andV
        · walk_at "ev"
        · intro _
          refine ev_allN (bs := (List.range (vI ns).length).map fun _ => true) ?_
          rw [List.map_map]
          refine el_lcA _ (ei_tup (ev_var rfl) (st_of hp)) (by simp; omega) fun i x H1 e hi hx => ⟨_, eg_name, rfl, ?_⟩
          rw [List.getElem?_map] at hx
          obtain ⟨n, hn, rfl⟩ := Option.map_eq_some_iff.mp hx
          exact ev_is_integer (ea_cons (ev_var rfl) ea_nil)
    · exact q
    · exact Ex.refl H
    · rw [all_true (fun _ _ => rfl)]
      simp
theorem ev_is_row {E : XK} {σ : L2.St} {H : Hp} {ta : TA} {p : Addr} {a : List Int} (h : EvA ta σ H [.ref p, .int (a.length : Int)]) (hp : H p = some (.tup (vI a))) (hl : a.length ≤ 1000) : Ev (tCall sp_is_row [] E ta) σ H (.bl true) := ev_callV a h (fun _ e => ⟨p, rfl, e p _ hp, hl⟩) fun _ _ p => p
/-- increasing pipe numbers -/
def LotOk (m : Nat) (l : List Int) : Prop := (∀ (i : Nat) (x : Int), l[i]? = some x → 0 ≤ x ∧ x < m) ∧ ∀ (i : Nat) (x y : Int), l[i]? = some x → l[i + 1]? = some y → x < y
abbrev sp_is_lot : Sp := fsp (fun (a : List Int × Nat) vs H => ∃ p, vs = [.ref p, .int (a.2 : Int)] ∧ H p = some (.tup (vI a.1)) ∧ LotOk a.2 a.1) (fun _ => IsV (.bl true))
theorem has_is_lot (T : Tops K mg C) : Has P w K mg base 3 "is_lot" ["thing", "many"] sp_is_lot := by
  refine T.d_is_lot.has sc_is_lot (fun vs H Q E h => ?_) (fun f cdv A outer s H vs Q E hr h => ?_)
  · obtain ⟨_, ⟨v, rfl, _⟩, _⟩ := h; rfl
  · obtain ⟨⟨ns, m⟩, ⟨p, rfl, hp, hl, hu⟩, q⟩ := h
    refine ⟨_, (pss_cons (ps_if (pt_not (pt_val (pe_callB call_isi (by rfl) T.b_isinstance (by decide +kernel) (pa_cons (pv 0) (pa_cons (pe_bltn (v := .ty "tuple") (by rfl) T.b_tuple (by decide +kernel) rfl) pa_nil)))))
        (pss_one (ps_ret pe_bl))
        pss_nil)
      (pss_cons (ps_set (i := 2) sc_is_lot.nd rfl (.inl rfl) (pe_un un_neg pe_int))
      (pss_cons (ps_for PassesOwn.never rfl (pi_tup (pv 0)) (pg_name (i := 3) sc_is_lot.nd rfl (Or.inl rfl))
        (pss_cons (ps_if (pt_not (pt_val (pe_fn (has_is_between T) (hr.mono (by decide)) (by rfl) (pa_cons (pv 3) (pa_cons (pe_op op_add (pv 2) pe_int) (pa_cons (pe_op op_sub (pv 1) pe_int) pa_nil))))))
          (pss_one (ps_ret pe_bl))
          pss_nil)
        (pss_one (ps_set (i := 2) sc_is_lot.nd rfl (.inl rfl) (pv 3)))))
      (pss_one (ps_ret pe_bl))))), ?_⟩
    simp only at hp hl hu
    refine q_when (b := false) ?_ (fun z => nomatch z) fun _ H1 e1 => ?_
    · apply et_is
      · walk_at "et"
      · rfl
    have hp1 := e1 p _ hp
    refine q_asg (v := .int (-1)) (ev_un ev_c ru_neg) fun H2 e2 => ?_
    refine q_forI (ei_tup (ev_var rfl) (st_of (e2 p _ hp1))) fun H3 e3 => ⟨fun i σ' H' => Ex H3 H' ∧ ∃ (l : Int) (it : Option V), σ' = [some (.ref p), some (.int (m : Int)), some (.int l), it] ∧ (i = 0 → l = -1) ∧ (∀ j, i = j + 1 → ns[j]? = some l), ⟨Ex.refl _, -1, none, rfl, fun _ => rfl, fun j h => by omega⟩, fun i σ' H' h => h.1, ?_, ?_⟩
    · rintro i x σ' H' H'' hi ⟨ex, l, it, rfl, h0, hs⟩ e4 hx
      rw [List.getElem?_map] at hx
      obtain ⟨n, hn, rfl⟩ := Option.map_eq_some_iff.mp hx
      have b1 := hl i n hn
      have b2 : l + 1 ≤ n := by
        cases i with
        | zero =>
          rw [h0 rfl]
          omega
        | succ j => exact hu j l n (hs j rfl) hn
      refine q_when (b := false) ?_ (fun z => nomatch z) fun _ H5 e5 => ?_
      · apply et_is
        · apply et_not
          exact et_B (ev_is_between (i := n) (a := l + 1) (b := m - 1) (by walk_at "ea"))
        · simp
          omega
      · exact s_asg (ev_var rfl) fun H6 e6 => ⟨((ex.trans e4).trans e5).trans e6, n, _, rfl, fun h => by omega, fun j h => by
          have : i = j := by omega
          rw [← this]
          exact hn⟩
    · rintro σ' H' ⟨ex, l, it, rfl, _, _⟩
      apply s_retI
      · exact ev_c
      · exact q
      · exact ((e1.trans e2).trans e3).trans ex
      · rfl
theorem ev_is_lot {E : XK} {σ : L2.St} {H : Hp} {ta : TA} {p : Addr} {a : List Int} {m : Nat} (h : EvA ta σ H [.ref p, .int (m : Int)]) (hp : H p = some (.tup (vI a))) (hl : LotOk m a) : Ev (tCall sp_is_lot [] E ta) σ H (.bl true) := ev_callV (a, m) h (fun _ e => ⟨p, rfl, e p _ hp, hl⟩) fun _ _ p => p
end
end TW
namespace TW
open PySem PySem.Spec PyProof.Rows L2 Evl
/-! ### webs: the numbers -/
abbrev Pipe := Nat × Nat × List (Int × Int)
def wd (ws : List Int) (i : Nat) : Int := ws.getD i 0
def grainsAt (ws : List Int) (p : Pipe) : Int := grainsOf (wd ws p.1) (wd ws p.2.1)
def factorAt (ws : List Int) (p : Pipe) (i : Nat) : Int := if wd ws i = 0 then 0 else grainsAt ws p / wd ws i
def unitsAt (ws : List Int) (p : Pipe) : List Int := p.2.2.map (unitOf (grainsAt ws p))
def dropAt (ws fill : List Int) (p : Pipe) : Int := wd fill p.1 * factorAt ws p p.1 - wd fill p.2.1 * factorAt ws p p.2.1
def absI (n : Int) : Int := if n < 0 then -n else n
def runsAt (units : List Int) (n : Int) : Int := if 0 < n then ((units.filter fun u => decide (u ≤ absI n)).length : Int) else -((units.filter fun u => decide (u ≤ absI n)).length : Int)
def flowAt (ws fill : List Int) (p : Pipe) : Int := runsAt (unitsAt ws p) (dropAt ws fill p)
def flowsAt (ws : List Int) (ps : List Pipe) (fill : List Int) : List Int := ps.map (flowAt ws fill)
def openedAt (ns : List Int) : Option (List Int) → List Int
  | none => ns
  | some o => (List.range ns.length).map fun (i : Nat) => if (i : Int) ∈ o then wd ns i else 0
def addAt (f : List Int) (i : Nat) (d : Int) : List Int := f.set i (wd f i + d)
def netStep (f : List Int) (x : Pipe × Int) : List Int := addAt (addAt f x.1.1 x.2) x.1.2.1 (-x.2)
def netsAt (m : Nat) (ps : List Pipe) (ns : List Int) : List Int := (ps.zip ns).foldl netStep (List.replicate m 0)
def movedAt (ws : List Int) (ps : List Pipe) (fill ns : List Int) : List Int := (List.range ws.length).map fun i => if wd ws i = 0 then 0 else wd fill i - wd (netsAt ws.length ps ns) i
def tickAt (ws : List Int) (ps : List Pipe) (fill : List Int) (o : Option (List Int)) : List Int := movedAt ws ps fill (openedAt (flowsAt ws ps fill) o)
structure WebOk (ws : List Int) (ps : List Pipe) : Prop where
  len : 1 ≤ ws.length ∧ ws.length ≤ 4
  wid : ∀ w ∈ ws, 0 ≤ w ∧ w ≤ 3
  pip : ps.length ≤ 3
  ok : ∀ p ∈ ps, p.1 < p.2.1 ∧ p.2.1 < ws.length ∧ GoodL p.2.2
structure FillOk (ws fill : List Int) : Prop where
  len : fill.length = ws.length
  dry : ∀ i, wd ws i = 0 → wd fill i = 0
theorem wd_get {ws : List Int} {i : Nat} (h : i < ws.length) : ws[i]? = some (wd ws i) := by
  unfold wd
  rw [List.getD_eq_getElem?_getD, List.getElem?_eq_getElem h, Option.getD_some]
theorem wd_of {ws : List Int} {i : Nat} {x : Int} (h : ws[i]? = some x) : wd ws i = x := by
  unfold wd
  rw [List.getD_eq_getElem?_getD, h, Option.getD_some]
theorem vI_get {ws : List Int} {i : Nat} (h : i < ws.length) : (vI ws)[i]? = some (.int (wd ws i)) := by
  rw [List.getElem?_map, wd_get h]
  rfl
theorem WebOk.w {ws : List Int} {ps : List Pipe} (h : WebOk ws ps) (i : Nat) : 0 ≤ wd ws i ∧ wd ws i ≤ 3 := by
  by_cases hi : i < ws.length
  · exact h.wid _ (List.mem_of_getElem? (wd_get hi))
  · unfold wd
    rw [List.getD_eq_getElem?_getD, List.getElem?_eq_none (by omega)]
    simp
theorem grains_bd {a b : Int} (ha : 0 ≤ a ∧ a ≤ 3) (hb : 0 ≤ b ∧ b ≤ 3) : 1 ≤ grainsOf a b ∧ grainsOf a b ≤ 9 := by
  obtain ⟨a0, a1⟩ := ha
  obtain ⟨b0, b1⟩ := hb
  have ha : a = 0 ∨ a = 1 ∨ a = 2 ∨ a = 3 := by omega
  have hb : b = 0 ∨ b = 1 ∨ b = 2 ∨ b = 3 := by omega
  rcases ha with rfl | rfl | rfl | rfl <;> rcases hb with rfl | rfl | rfl | rfl <;> decide
theorem factor_bd {ws : List Int} {ps : List Pipe} (h : WebOk ws ps) (p : Pipe) (i : Nat) : 0 ≤ factorAt ws p i ∧ factorAt ws p i ≤ 9 := by
  have hg := grains_bd (h.w p.1) (h.w p.2.1)
  have hw := h.w i
  unfold factorAt grainsAt
  split
  · omega
  · exact ⟨Int.ediv_nonneg (by omega) (by omega), Int.le_trans (Int.ediv_le_self _ (by omega)) hg.2⟩
theorem addAt_len (f : List Int) (i : Nat) (d : Int) : (addAt f i d).length = f.length := List.length_set
/-! ### what stands at an address -/
def TupI (H : Hp) (v : V) (ns : List Int) : Prop := ∃ p, v = .ref p ∧ H p = some (.tup (vI ns))
def LstI (H : Hp) (v : V) (ns : List Int) : Prop := ∃ p, v = .ref p ∧ H p = some (.lst (vI ns))
def PipeAt (H : Hp) (v : V) (p : Pipe) : Prop := ∃ a sv, v = .ref a ∧ H a = some (.tup [.int (p.1 : Int), .int (p.2.1 : Int), sv]) ∧ StepsAt H sv p.2.2
def PipesAt (H : Hp) (v : V) (ps : List Pipe) : Prop := ∃ a vs, v = .ref a ∧ H a = some (.tup vs) ∧ Paired (PipeAt H) vs ps
def GaugeAt (ws : List Int) (H : Hp) (v : V) (p : Pipe) : Prop := ∃ a u, v = .ref a ∧ H a = some (.tup [.int (p.1 : Int), .int (p.2.1 : Int), .int (factorAt ws p p.1), .int (factorAt ws p p.2.1), .ref u, .int (grainsAt ws p)]) ∧ H u = some (.tup (vI (unitsAt ws p)))
def WebAt (C : Addr) (H : Hp) (v : V) (ws : List Int) (ps : List Pipe) : Prop := ∃ a dx wv pv gl gs, v = .ref a ∧ H a = some (.ins C dx [("widths", wv), ("pipes", pv), ("gauges", .ref gl)]) ∧ TupI H wv ws ∧ PipesAt H pv ps ∧ H gl = some (.lst gs) ∧ Paired (GaugeAt ws H) gs ps
theorem TupI.tex {H H' : Hp} {v : V} {ns : List Int} (e : TEx H H') (h : TupI H v ns) : TupI H' v ns := by
  obtain ⟨p, rfl, h⟩ := h
  exact ⟨p, rfl, e p _ h⟩
theorem TupI.ex {H H' : Hp} {v : V} {ns : List Int} (e : Ex H H') (h : TupI H v ns) : TupI H' v ns := h.tex (tex_of e)
theorem LstI.ex {H H' : Hp} {v : V} {ns : List Int} (e : Ex H H') (h : LstI H v ns) : LstI H' v ns := by
  obtain ⟨p, rfl, h⟩ := h
  exact ⟨p, rfl, e p _ h⟩
theorem PipeAt.tex {H H' : Hp} {v : V} {p : Pipe} (e : TEx H H') (h : PipeAt H v p) : PipeAt H' v p := by
  obtain ⟨a, sv, rfl, h, hs⟩ := h
  exact ⟨a, sv, rfl, e a _ h, hs.ex e⟩
theorem PipesAt.tex {H H' : Hp} {v : V} {ps : List Pipe} (e : TEx H H') (h : PipesAt H v ps) : PipesAt H' v ps := by
  obtain ⟨a, vs, rfl, h, hs⟩ := h
  exact ⟨a, vs, rfl, e a _ h, paired_imp (fun _ _ q => q.tex e) hs⟩
theorem GaugeAt.tex {ws : List Int} {H H' : Hp} {v : V} {p : Pipe} (e : TEx H H') (h : GaugeAt ws H v p) : GaugeAt ws H' v p := by
  obtain ⟨a, u, rfl, h, hs⟩ := h
  exact ⟨a, u, rfl, e a _ h, e u _ hs⟩
theorem WebAt.ex {C : Addr} {H H' : Hp} {v : V} {ws : List Int} {ps : List Pipe} (e : Ex H H') (h : WebAt C H v ws ps) : WebAt C H' v ws ps := by
  obtain ⟨a, dx, wv, pv, gl, gs, rfl, h1, h2, h3, h4, h5⟩ := h
  exact ⟨a, dx, wv, pv, gl, gs, rfl, e a _ h1, h2.ex e, h3.tex (tex_of e), e gl _ h4, paired_imp (fun _ _ q => q.tex (tex_of e)) h5⟩
section
variable {K : PySem.W.Frag} {σ : L2.St} {H : Hp} {te : TE} {v : V}
theorem ev_fld {C a : Addr} {dx : Addr} {fs : List (Str × V)} {f : Str} (h : Ev te σ H (.ref a)) (ha : H a = some (.ins C dx fs)) (c : Cls K C) (n : NoAttr K C f) (hl : fs.lookup f = some v) : Ev (tFld K te f) σ H v := fun H1 e Q q =>
  h H1 e _ fun H2 e2 => ⟨a, C, dx, fs, v, rfl, (e.trans e2) a _ ha, c, n, hl, q H2 e2⟩
end
section
variable {P : Program} {w : World} {K : PySem.W.Frag} {mg : Str → Option Value} {base : Heap} {C : Addr} {mgX : Str → Option Value}
local macro_rules | `(tactic| walk_at "rv") => `(tactic| first
  | exact rv_I0
  | exact rv_eq rfl
  | exact rv_ne rfl
  | exact rv_isN
  | exact rv_notN
  | (apply rv_I; (try dsimp only); first | omega | assumption | exact ⟨by omega, by omega⟩ | exact Or.inl ⟨by omega, by omega⟩ | exact Or.inr ⟨by omega, by omega⟩)
  | (apply rv_ix0; assumption; rfl)
  | (apply rv_ix1; assumption; rfl)
  | (apply rv_ix2; assumption; rfl)
  | (apply rv_ix4; assumption; rfl))
local macro_rules | `(tactic| walk_at "ea") => `(tactic| first
  | exact ea_nil
  | (apply ea_cons; walk_at "ev"; walk_at "ea"))
local macro_rules | `(tactic| walk_at "ev") => `(tactic| first
  | exact ev_c
  | (apply ev_var; rfl)
  | (apply ev_op; walk_at "ev"; walk_at "ev"; walk_at "rv")
  | (apply ev_un; walk_at "ev"; exact ru_neg)
  | (apply ev_isiII; walk_at "ea")
  | (apply ev_isiIB; walk_at "ea")
  | (apply ev_isiTT; assumption; walk_at "ea")
  | (apply ev_lenT; assumption; walk_at "ev")
  | (apply ev_lenL; assumption; walk_at "ev")
  | (apply ev_andV; walk_at "ev"; intro _; walk_at "ev")
  | (apply ev_orV; walk_at "ev"; intro _; walk_at "ev")
  | (apply ev_notV; walk_at "ev")
  | (apply ev_chain; walk_at "ev"; walk_at "ev"; walk_at "ev"; walk_at "rv"; walk_at "rv")
  | (apply ev_abs; walk_at "ea")
  | (apply ev_int; walk_at "ea"))
local macro_rules | `(tactic| walk_at "et") => `(tactic| first
  | (apply et_test; walk_at "ev")
  | (apply et_B; walk_at "ev")
  | (apply et_not; walk_at "et")
  | (apply et_and; walk_at "et"; intro _; walk_at "et")
  | (apply et_or; walk_at "et"; intro _; walk_at "et"))

local macro_rules | `(tactic| walk_at "ev") => `(tactic| ((with_reducible apply ev_is_integer); walk_at "ea"))
local macro_rules | `(tactic| walk_at "ev") => `(tactic| ((with_reducible apply ev_is_between); walk_at "ea"))
local macro_rules | `(tactic| walk_at "ev") => `(tactic| ((with_reducible apply ev_divisor); walk_at "ea"))
local macro_rules | `(tactic| walk_at "ev") => `(tactic| ((with_reducible apply ev_is_width); walk_at "ea"))
section
variable {σ : L2.St} {H : Hp} {te : TE} {v : V} {a dx gl : Addr} {wv pv gv : V}
theorem ev_widths (T : Tops K mg C) (h : Ev te σ H (.ref a)) (ha : H a = some (.ins C dx [("widths", wv), ("pipes", pv), ("gauges", gv)])) : Ev (tFld K te "widths") σ H wv := ev_fld h ha T.web.cls T.web.n_widths rfl
theorem ev_pipes (T : Tops K mg C) (h : Ev te σ H (.ref a)) (ha : H a = some (.ins C dx [("widths", wv), ("pipes", pv), ("gauges", gv)])) : Ev (tFld K te "pipes") σ H pv := ev_fld h ha T.web.cls T.web.n_pipes rfl
theorem ev_gauges (T : Tops K mg C) (h : Ev te σ H (.ref a)) (ha : H a = some (.ins C dx [("widths", wv), ("pipes", pv), ("gauges", gv)])) : Ev (tFld K te "gauges") σ H gv := ev_fld h ha T.web.cls T.web.n_gauges rfl
end
abbrev WPF := List Int × List Pipe × List Int
def PreF (C : Addr) (a : WPF) (wv fv : V) (H : Hp) : Prop := WebAt C H wv a.1 a.2.1 ∧ TupI H fv a.2.2 ∧ WebOk a.1 a.2.1 ∧ FillOk a.1 a.2.2
theorem PreF.ex {C : Addr} {a : WPF} {wv fv : V} {H H' : Hp} (e : Ex H H') (h : PreF C a wv fv H) : PreF C a wv fv H' := ⟨h.1.ex e, h.2.1.ex e, h.2.2⟩
abbrev sp_is_filling (C : Addr) : Sp := fsp (fun (a : WPF) vs H => ∃ wv fv, vs = [wv, fv] ∧ PreF C a wv fv H) (fun _ => IsV (.bl true))
theorem has_is_filling (T : Tops K mg C) : Has P w K mg base 3 "is_filling" ["web", "thing"] (sp_is_filling C) := by
  refine T.d_is_filling.has sc_is_filling (fun vs H Q E h => ?_) (fun f cdv A outer s H vs Q E hr h => ?_)
  · obtain ⟨_, ⟨_, _, rfl, _⟩, _⟩ := h; rfl
  · obtain ⟨⟨ws, ps, fill⟩, ⟨wv, fv, rfl, ⟨a, dx, wt, pt, gl, gs, rfl, ha, ⟨wp, rfl, hw⟩, hp, hgl, hgs⟩, ⟨fp, rfl, hf⟩, hW, hF⟩, q⟩ := h
    refine ⟨_, (pss_cons (ps_if (pt_not (pt_val (pe_fn (has_is_row T) (hr.mono (by decide)) (by rfl) (pa_cons (pv 1) (pa_cons (pe_callB (r := rLenS K) call_len_seq (by rfl) T.b_len (by decide +kernel) (pa_cons (pe_fld (pv 0) rfl) pa_nil)) pa_nil)))))
        (pss_one (ps_ret pe_bl))
        pss_nil)
      (pss_one (ps_ret (pe_callB (cr_all rfl) (by rfl) T.b_all (by decide +kernel) (pa_cons (pe_lc (own := [("water", 2), ("width", 3)]) rfl sc_is_filling.nd (pi_zip2 .t .t (by rfl) T.b_zip (pa_cons (pv 1) (pa_cons (pe_fld (pv 0) rfl) pa_nil))) (blkOk_by (own := [("water", 2), ("width", 3)]) (N := N_is_filling) (sc := defScope s_is_filling) (by decide +kernel)) (fun _ _ _ _ _ => (pg_tupK (n := 2) rfl rfl (pgs_cons (pg_name (i := 2) sc_is_filling.nd rfl (Or.inl rfl)) (pgs_cons (pg_name (i := 3) sc_is_filling.nd rfl (Or.inl rfl)) pgs_nil)))) (fun _ _ _ _ _ => pts_nil) (fun _ _ _ _ _ => (pe_or (pe_cmpR op_eq (pv 2) pe_int (nomark _)) (pe_one (pe_cmpR op_gt (pv 3) pe_int (nomark _)))))) pa_nil))))), ?_⟩
    simp only at ha hw hp hgs hf hW hF
    have hl := hW.len
    have hl2 := hF.len
    refine q_when (b := false) ?_ (fun z => nomatch z) fun _ H1 e1 => ?_
    · apply et_is
      · apply et_not
        apply et_B
        refine ev_is_row (a := fill) (ea_cons (ev_var rfl) (ea_cons (ev_is (ev_lenT hw (ev_widths T (ev_var rfl) ha)) ?_) ea_nil)) hf (by omega)
        rw [List.length_map, hl2]
      · rfl
    apply s_retI
    · refine ev_allN (bs := (List.range fill.length).map fun _ => true) ?_
      rw [List.map_map]
      refine el_lcA _ (ei_zip2 (k1 := .t) (k2 := .t) (xs := vI fill) (ys := vI ws) (ea_cons (ev_var rfl) (ea_cons (ev_widths T (ev_var rfl) (e1 a _ ha)) ea_nil)) (sk_t (e1 fp _ hf)) (sk_t (e1 wp _ hw)) (by simp; omega)) (by omega) fun i x H2 e hi hx => ?_
      obtain ⟨Tz, x1, y1, rfl, hT, hx1, hy1⟩ := hx
      rw [vI_get hi] at hx1
      rw [vI_get (by omega)] at hy1
      cases hx1
      cases hy1
      refine ⟨_, eg_tup2 hT, rfl, ?_⟩
      apply ev_is
      · walk_at "ev"
      · have h1 := hW.w i
        have h2 := hF.dry i
        by_cases hz : wd ws i = 0
        · rw [h2 hz]
          simp
        · simp
          omega
    · exact q
    · exact e1
    · rw [all_true (fun _ _ => rfl)]
theorem ev_is_filling {E : XK} {σ : L2.St} {H : Hp} {ta : TA} {wv fv : V} (a : WPF) (h : EvA ta σ H [wv, fv]) (hp : PreF C a wv fv H) : Ev (tCall (sp_is_filling C) [] E ta) σ H (.bl true) := ev_callV a h (fun _ e => ⟨wv, fv, rfl, hp.ex e⟩) fun _ _ p => p
abbrev sp_check_filling (C : Addr) : Sp := fsp (fun (a : WPF) vs H => ∃ wv fv, vs = [wv, fv] ∧ PreF C a wv fv H) (fun _ => IsV .non)
theorem has_check_filling (T : Tops K mg C) : Has P w K mg base 4 "check_filling" ["web", "thing"] (sp_check_filling C) := by
  refine T.d_check_filling.has sc_check_filling (fun vs H Q E h => ?_) (fun f cdv A outer s H vs Q E hr h => ?_)
  · obtain ⟨_, ⟨_, _, rfl, _⟩, _⟩ := h; rfl
  · obtain ⟨b, ⟨wv, fv, rfl, hP⟩, q⟩ := h
    refine ⟨_, (pss_one (ps_if (pt_not (pt_val (pe_fn (has_is_filling T) (hr.mono (by decide)) (by rfl) (pa_cons (pv 0) (pa_cons (pv 1) pa_nil)))))
        (pss_one ps_never)
        pss_nil)), ?_⟩
    refine s_when (b := false) ?_ (fun z => nomatch z) fun _ H1 e1 => q _ _ e1 rfl
    exact et_not (et_B (ev_is_filling b (by walk_at "ea") hP))
theorem ev_check_filling {E : XK} {σ : L2.St} {H : Hp} {ta : TA} {wv fv : V} (a : WPF) (h : EvA ta σ H [wv, fv]) (hp : PreF C a wv fv H) : Ev (tCall (sp_check_filling C) [] E ta) σ H .non := ev_callV a h (fun _ e => ⟨wv, fv, rfl, hp.ex e⟩) fun _ _ p => p
/-- the opening: none, or a lot -/
def OpenAt (H : Hp) (v : V) (m : Nat) : Option (List Int) → Prop
  | none => v = .non
  | some o => TupI H v o ∧ LotOk m o
theorem OpenAt.ex {H H' : Hp} {v : V} {m : Nat} {o : Option (List Int)} (e : Ex H H') (h : OpenAt H v m o) : OpenAt H' v m o := by
  cases o with
  | none => exact h
  | some o => exact ⟨h.1.ex e, h.2⟩
abbrev sp_check_opening (C : Addr) : Sp := fsp (fun (a : (List Int × List Pipe) × Option (List Int)) vs H => ∃ wv ov, vs = [wv, ov] ∧ WebAt C H wv a.1.1 a.1.2 ∧ OpenAt H ov a.1.2.length a.2) (fun _ => IsV .non)
theorem has_check_opening (T : Tops K mg C) : Has P w K mg base 4 "check_opening" ["web", "thing"] (sp_check_opening C) := by
  refine T.d_check_opening.has sc_check_opening (fun vs H Q E h => ?_) (fun f cdv A outer s H vs Q E hr h => ?_)
  · obtain ⟨_, ⟨_, _, rfl, _⟩, _⟩ := h; rfl
  · obtain ⟨⟨⟨ws, ps⟩, o⟩, ⟨wv, ov, rfl, ⟨a, dx, wt, pt, gl, gs, rfl, ha, hw, ⟨pp, pvs, rfl, hp, hps⟩, hgl, hgs⟩, ho⟩, q⟩ := h
    refine ⟨_, (pss_one (ps_if (PW.pt (pw_and (pt_cmpR op_notN (pv 1) pe_non (nomark _)) (pw_and1 (pt_not (pt_val (pe_fn (has_is_lot T) (hr.mono (by decide)) (by rfl) (pa_cons (pv 1) (pa_cons (pe_callB (r := rLenS K) call_len_seq (by rfl) T.b_len (by decide +kernel) (pa_cons (pe_fld (pv 0) rfl) pa_nil)) pa_nil))))))))
        (pss_one ps_never)
        pss_nil)), ?_⟩
    simp only at ha hp hps ho
    refine s_when (b := false) ?_ (fun z => nomatch z) fun _ H1 e1 => q _ _ e1 rfl
    apply et_is
    · apply et_and
      · walk_at "et"
      · intro hne
        apply et_not
        apply et_B
        cases o with
        | none =>
          cases ho
          simp at hne
        | some o =>
          obtain ⟨⟨op, rfl, hop⟩, hl⟩ := ho
          refine ev_is_lot (a := o) (m := ps.length) (ea_cons (ev_var rfl) (ea_cons (ev_is (ev_lenT hp (ev_pipes T (ev_var rfl) ha)) ?_) ea_nil)) hop hl
          rw [Paired.length hps]
    · simp
theorem ev_check_opening {E : XK} {σ : L2.St} {H : Hp} {ta : TA} {wv ov : V} {ws : List Int} {ps : List Pipe} {o : Option (List Int)} (h : EvA ta σ H [wv, ov]) (hw : WebAt C H wv ws ps) (ho : OpenAt H ov ps.length o) : Ev (tCall (sp_check_opening C) [] E ta) σ H .non :=
  ev_callV ((ws, ps), o) h (fun _ e => ⟨wv, ov, rfl, hw.ex e, ho.ex e⟩) fun _ _ p => p
end
end TW
namespace TW
open PySem PySem.Spec PyProof.Rows L2 Evl
theorem map_getD {α β : Type} (d : α) (g : α → β) (xs : List α) : (List.range xs.length).map (fun i => g (xs.getD i d)) = xs.map g := by
  apply List.ext_getElem
  · simp
  · intro i h1 h2
    simp at h1
    simp [List.getD, List.getElem?_eq_getElem h1]
theorem map_wd (xs : List Int) : (List.range xs.length).map (wd xs) = xs := (map_getD 0 id xs).trans (List.map_id _)
theorem filter_wd (xs : List Int) (g : Int → Bool) : ((List.range xs.length).filter fun i => g (wd xs i)).map (wd xs) = xs.filter g := by
  conv => rhs; rw [← map_wd xs]
  rw [List.filter_map]
  rfl
theorem wipe_get {σ : L2.St} {j : Nat} : ∀ vs : List Nat, (wipe σ vs)[j]? = if j ∈ vs then (if j < σ.length then some none else none) else σ[j]?
  | [] => by simp [wipe]
  | v :: vs => by
    unfold wipe
    rw [List.getElem?_set, wipe_length, wipe_get vs]
    by_cases h : v = j
    · subst h; simp
    · have h2 : ¬ j = v := fun z => h z.symm
      simp [h, h2]
theorem wipe_set {σ : L2.St} {i : Nat} {x : Option V} {vs : List Nat} (h : i ∈ vs) : wipe (σ.set i x) vs = wipe σ vs := by
  apply List.ext_getElem?
  intro j
  rw [wipe_get, wipe_get, List.length_set, List.getElem?_set]
  by_cases hj : j ∈ vs
  · simp [hj]
  · have h2 : ¬ i = j := fun z => hj (by rw [← z]; exact h)
    simp [hj, h2]
theorem wipe_idem {σ : L2.St} {vs : List Nat} : wipe (wipe σ vs) vs = wipe σ vs := by
  apply List.ext_getElem?
  intro j
  rw [wipe_get, wipe_get, wipe_length]
  by_cases hj : j ∈ vs <;> simp [hj]
section
variable {K : PySem.W.Frag} {σ : L2.St} {H H' : Hp} {te tl ta tb : TE} {v : V}
theorem eg_tup6 {i1 i2 i3 i4 i5 i6 : Nat} {p : Addr} {x1 x2 x3 x4 x5 x6 : V} (hp : H p = some (.tup [x1, x2, x3, x4, x5, x6])) :
    EvG (gTup K 6 (gCons (gName i1) (gCons (gName i2) (gCons (gName i3) (gCons (gName i4) (gCons (gName i5) (gCons (gName i6) gNil))))))) (.ref p) σ H ((((((σ.set i1 (some x1)).set i2 (some x2)).set i3 (some x3)).set i4 (some x4)).set i5 (some x5)).set i6 (some x6)) := fun _ q =>
  ⟨p, _, rfl, st_of hp, rfl, x1, _, rfl, x2, _, rfl, x3, _, rfl, x4, _, rfl, x5, _, rfl, x6, [], rfl, rfl, q⟩
theorem inV_int (i : Int) (o : List Int) : inV (.int i) (vI o) = decide (i ∈ o) := by
  unfold inV
  induction o with
  | nil => rfl
  | cons x r ih =>
    show (eqV (.int x) (.int i) || (vI r).any fun y => eqV y (.int i)) = _
    rw [ih]
    show ((x == i) || decide (i ∈ r)) = _
    by_cases h : i = x
    · subst h; simp
    · have h2 : ¬ x = i := fun z => h z.symm
      simp [h, h2]
theorem flat_vI (o : List Int) : (vI o).all flatV = true := by
  simp only [List.all_map, List.all_eq_true]
  intro x _
  rfl
theorem el_rep {x : V} {k : Nat} (ha : EvL ta σ H [x]) (hb : Ev tb σ H (.int (k : Int))) (hk : k ≤ 100000) : EvL (tOp rRep ta tb) σ H (List.replicate k x) := fun H1 e Q q =>
  ha H1 e _ fun p H2 _ e2 hp => hb H2 (e.trans e2) _ fun H3 e3 => ⟨p, (k : Int), [x], rfl, rfl, e3 p _ hp, by omega, by omega, by
    show 1 * _ ≤ _
    rw [Nat.one_mul, Int.toNat_natCast]
    exact sz_of hk, fun l hl => q l _ (fresh_back (e2.trans e3) hl) ((e2.trans e3).trans (Ex.new hl)) (by
      rw [upd_same, Int.toNat_natCast]
      congr 2
      simp)⟩
end
section
variable {P : Program} {w : World} {K : PySem.W.Frag} {mg : Str → Option Value} {base : Heap} {C : Addr} {mgX : Str → Option Value}
local macro_rules | `(tactic| walk_at "rv") => `(tactic| first
  | exact rv_I0
  | exact rv_eq rfl
  | exact rv_ne rfl
  | exact rv_isN
  | exact rv_notN
  | (apply rv_I; (try dsimp only); first | omega | assumption | exact ⟨by omega, by omega⟩ | exact Or.inl ⟨by omega, by omega⟩ | exact Or.inr ⟨by omega, by omega⟩)
  | (apply rv_ix0; assumption; rfl)
  | (apply rv_ix1; assumption; rfl)
  | (apply rv_ix2; assumption; rfl)
  | (apply rv_ix4; assumption; rfl))
local macro_rules | `(tactic| walk_at "ea") => `(tactic| first
  | exact ea_nil
  | (apply ea_cons; walk_at "ev"; walk_at "ea"))
local macro_rules | `(tactic| walk_at "ev") => `(tactic| first
  | exact ev_c
  | (apply ev_var; rfl)
  | (apply ev_op; walk_at "ev"; walk_at "ev"; walk_at "rv")
  | (apply ev_un; walk_at "ev"; exact ru_neg)
  | (apply ev_isiII; walk_at "ea")
  | (apply ev_isiIB; walk_at "ea")
  | (apply ev_isiTT; assumption; walk_at "ea")
  | (apply ev_lenT; assumption; walk_at "ev")
  | (apply ev_lenL; assumption; walk_at "ev")
  | (apply ev_andV; walk_at "ev"; intro _; walk_at "ev")
  | (apply ev_orV; walk_at "ev"; intro _; walk_at "ev")
  | (apply ev_notV; walk_at "ev")
  | (apply ev_chain; walk_at "ev"; walk_at "ev"; walk_at "ev"; walk_at "rv"; walk_at "rv")
  | (apply ev_abs; walk_at "ea")
  | (apply ev_int; walk_at "ea"))
local macro_rules | `(tactic| walk_at "et") => `(tactic| first
  | (apply et_test; walk_at "ev")
  | (apply et_B; walk_at "ev")
  | (apply et_not; walk_at "et")
  | (apply et_and; walk_at "et"; intro _; walk_at "et")
  | (apply et_or; walk_at "et"; intro _; walk_at "et"))

local macro_rules | `(tactic| walk_at "ev") => `(tactic| ((with_reducible apply ev_is_integer); walk_at "ea"))
local macro_rules | `(tactic| walk_at "ev") => `(tactic| ((with_reducible apply ev_is_between); walk_at "ea"))
local macro_rules | `(tactic| walk_at "ev") => `(tactic| ((with_reducible apply ev_divisor); walk_at "ea"))
local macro_rules | `(tactic| walk_at "ev") => `(tactic| ((with_reducible apply ev_is_width); walk_at "ea"))
abbrev sp_drops_in_grains (C : Addr) : Sp := fsp (fun (a : WPF) vs H => ∃ wv fv, vs = [wv, fv] ∧ PreF C a wv fv H) (fun a => NewL (vI (a.2.1.map (dropAt a.1 a.2.2))))
theorem has_drops_in_grains (T : Tops K mg C) : Has P w K mg base 1 "drops_in_grains" ["web", "filling"] (sp_drops_in_grains C) := by
  refine T.d_drops_in_grains.has sc_drops_in_grains (fun vs H Q E h => ?_) (fun f cdv A outer s H vs Q E hr h => ?_)
  · obtain ⟨_, ⟨_, _, rfl, _⟩, _⟩ := h; rfl
  · obtain ⟨⟨ws, ps, fill⟩, ⟨wv, fv, rfl, ⟨a, dx, wt, pt, gl, gs, rfl, ha, ⟨wp, rfl, hw⟩, hp, hgl, hgs⟩, ⟨fp, rfl, hf⟩, hW, hF⟩, q⟩ := h
    refine ⟨_, (pss_one (ps_ret (pe_lc (own := [("one", 2), ("other", 3), ("here", 4), ("there", 5), ("units", 6), ("grains", 7)]) rfl sc_drops_in_grains.nd (pi_list (pe_fld (pv 0) rfl)) (blkOk_by (own := [("one", 2), ("other", 3), ("here", 4), ("there", 5), ("units", 6), ("grains", 7)]) (N := N_drops_in_grains) (sc := defScope s_drops_in_grains) (by decide +kernel)) (fun _ _ _ _ _ => (pg_tupK (n := 6) rfl rfl (pgs_cons (pg_name (i := 2) sc_drops_in_grains.nd rfl (Or.inl rfl)) (pgs_cons (pg_name (i := 3) sc_drops_in_grains.nd rfl (Or.inl rfl)) (pgs_cons (pg_name (i := 4) sc_drops_in_grains.nd rfl (Or.inl rfl)) (pgs_cons (pg_name (i := 5) sc_drops_in_grains.nd rfl (Or.inl rfl)) (pgs_cons (pg_name (i := 6) sc_drops_in_grains.nd rfl (Or.inl rfl)) (pgs_cons (pg_name (i := 7) sc_drops_in_grains.nd rfl (Or.inl rfl)) pgs_nil)))))))) (fun _ _ _ _ _ => pts_nil) (fun _ _ _ _ _ => (pe_op op_sub (pe_op op_mul (pe_ix (r := rIxT K) ix_tup (pv 1) (pv 2) (fun _ _ => rfl)) (pv 4)) (pe_op op_mul (pe_ix (r := rIxT K) ix_tup (pv 1) (pv 3) (fun _ _ => rfl)) (pv 5))))))), ?_⟩
    simp only at ha hw hp hgs hf hW hF
    have hl := hW.len
    have hl2 := hF.len
    have hl3 := hW.pip
    have hl4 := Paired.length hgs
    refine s_retL (xs := (List.range gs.length).map fun i => V.int (dropAt ws fill (ps.getD i (0, 0, [])))) (el_lcA _ (ei_list (ev_gauges T (ev_var rfl) ha) (sq_of hgl)) (by omega) fun i x H1 e hi hx => ?_) fun l H1 _ e h1 => q _ _ e ⟨l, rfl, by
      rw [h1, hl4]
      congr 2
      exact (map_getD (0, 0, []) (fun p => V.int (dropAt ws fill p)) ps).trans (List.map_map).symm⟩
    obtain ⟨p, hpi, ga, ua, rfl, hg1, hg2⟩ := paired_get' hgs hx
    have hpo := hW.ok p (List.mem_of_getElem? hpi)
    refine ⟨_, eg_tup6 (e ga _ hg1), by rw [wipe_set (by decide), wipe_set (by decide), wipe_set (by decide), wipe_set (by decide), wipe_set (by decide), wipe_set (by decide), wipe_idem], ?_⟩
    have eq : ps.getD i (0, 0, []) = p := by rw [List.getD_eq_getElem?_getD, hpi]; rfl
    have f1 := factor_bd hW p p.1
    have f2 := factor_bd hW p p.2.1
    rw [eq]
    have hf := e fp _ hf
    exact ev_op (ev_op (ev_op (ev_var rfl) (ev_var rfl) (rv_ixTt hf (vI_get (by omega)))) (ev_var rfl) (rv_I (.inr ⟨by omega, by omega⟩)))
      (ev_op (ev_op (ev_var rfl) (ev_var rfl) (rv_ixTt hf (vI_get (by omega)))) (ev_var rfl) (rv_I (.inr ⟨by omega, by omega⟩))) rv_I0
theorem ep_drops {E : XK} {σ : L2.St} {H : Hp} {ta : TA} {wv fv : V} (a : WPF) (h : EvA ta σ H [wv, fv]) (hp : PreF C a wv fv H) : EvP (tCall (sp_drops_in_grains C) [] E ta) σ H (NewL (vI (a.2.1.map (dropAt a.1 a.2.2)))) := ep_call a h fun _ e => ⟨wv, fv, rfl, hp.ex e⟩
abbrev sp_runs_at : Sp := fsp (fun (a : List Int × Int) vs H => ∃ uv, vs = [uv, .int a.2] ∧ TupI H uv a.1 ∧ a.1.length ≤ 1000) (fun a => IsV (.int (runsAt a.1 a.2)))
theorem has_runs_at (T : Tops K mg C) : Has P w K mg base 1 "runs_at" ["units", "number"] sp_runs_at := by
  refine T.d_runs_at.has sc_runs_at (fun vs H Q E h => ?_) (fun f cdv A outer s H vs Q E hr h => ?_)
  · obtain ⟨_, ⟨_, rfl, _⟩, _⟩ := h; rfl
  · obtain ⟨⟨us, n⟩, ⟨uv, rfl, ⟨p, rfl, hp⟩, hl⟩, q⟩ := h
    refine ⟨_, (pss_cons (ps_set (i := 2) sc_runs_at.nd rfl (.inl rfl) (pe_callB (r := rLenS K) call_len_seq (by rfl) T.b_len (by decide +kernel) (pa_cons (pe_lc (own := [("unit", 3)]) rfl sc_runs_at.nd (pi_tup (pv 0)) (blkOk_by (own := [("unit", 3)]) (N := N_runs_at) (sc := defScope s_runs_at) (by decide +kernel)) (fun _ _ _ _ _ => (pg_name (i := 3) sc_runs_at.nd rfl (Or.inl rfl))) (fun _ _ _ _ _ => (pts_one (pt_cmpR op_le (pv 3) (pe_callB call_abs (by rfl) T.b_abs (by decide +kernel) (pa_cons (pv 1) pa_nil)) (nomark _)))) (fun _ _ _ _ _ => (pv 3))) pa_nil)))
      (pss_one (ps_ret (pe_ifExp (pt_cmpR op_gt (pv 1) pe_int (nomark _)) (pv 2) (pe_un un_neg (pv 2)))))), ?_⟩
    simp only at hp hl
    refine q_asg (v := .int ((us.filter fun u => decide (u ≤ absI n)).length : Int)) (ev_is (ev_lenN (el_lcI (fun i => decide (wd us i ≤ absI n)) (fun i => V.int (wd us i)) (ei_tup (ev_var rfl) (st_of hp)) (by simp; omega) fun i x H1 e hi hx => ?_)) ?_) fun H1 e1 => ?_
    · rw [List.length_map] at hi
      rw [vI_get hi] at hx
      cases hx
      refine ⟨_, eg_name, rfl, ?_, fun _ => ev_var rfl⟩
      exact et_test (ev_op (ev_var rfl) (ev_abs (by walk_at "ea")) rv_I0)
    · rw [List.length_map, List.length_map]
      congr 2
      rw [← filter_wd us, List.length_map]
    · apply s_retI
      · exact ev_if (v := .int (runsAt us n)) (b := decide (0 < n)) (et_test (ev_op (ev_var rfl) ev_c rv_I0)) (fun hb => ev_is (ev_var rfl) (by
          unfold runsAt
          rw [if_pos (of_decide_eq_true hb)])) (fun hb => ev_is (ev_un (ev_var rfl) ru_neg) (by
          unfold runsAt
          rw [if_neg (of_decide_eq_false hb)]))
      · exact q
      · exact e1
      · rfl
theorem ev_runs_at {E : XK} {σ : L2.St} {H : Hp} {ta : TA} {uv : V} {us : List Int} {n : Int} (h : EvA ta σ H [uv, .int n]) (hu : TupI H uv us) (hl : us.length ≤ 1000) : Ev (tCall sp_runs_at [] E ta) σ H (.int (runsAt us n)) := ev_callV (us, n) h (fun _ e => ⟨uv, rfl, hu.ex e, hl⟩) fun _ _ p => p
abbrev sp_flows_of (C : Addr) : Sp := fsp (fun (a : WPF) vs H => ∃ wv fv, vs = [wv, fv] ∧ PreF C a wv fv H) (fun a => NewL (vI (flowsAt a.1 a.2.1 a.2.2)))
theorem has_flows_of (T : Tops K mg C) : Has P w K mg base 2 "flows_of" ["web", "filling"] (sp_flows_of C) := by
  refine T.d_flows_of.has sc_flows_of (fun vs H Q E h => ?_) (fun f cdv A outer s H vs Q E hr h => ?_)
  · obtain ⟨_, ⟨_, _, rfl, _⟩, _⟩ := h; rfl
  · obtain ⟨⟨ws, ps, fill⟩, ⟨wv, fv, rfl, hP⟩, q⟩ := h
    refine ⟨_, (pss_one (ps_ret (pe_lc (own := [("line", 2), ("number", 3)]) rfl sc_flows_of.nd (pi_zip2 .l .l (by rfl) T.b_zip (pa_cons (pe_fld (pv 0) rfl) (pa_cons (pe_fn (has_drops_in_grains T) (hr.mono (by decide)) (by rfl) (pa_cons (pv 0) (pa_cons (pv 1) pa_nil))) pa_nil))) (blkOk_by (own := [("line", 2), ("number", 3)]) (N := N_flows_of) (sc := defScope s_flows_of) (by decide +kernel)) (fun _ _ _ _ _ => (pg_tupK (n := 2) rfl rfl (pgs_cons (pg_name (i := 2) sc_flows_of.nd rfl (Or.inl rfl)) (pgs_cons (pg_name (i := 3) sc_flows_of.nd rfl (Or.inl rfl)) pgs_nil)))) (fun _ _ _ _ _ => pts_nil) (fun _ _ _ _ _ => (pe_fn (has_runs_at T) (hr.mono (by decide)) (by rfl) (pa_cons (pe_ix (r := rIxT K) ix_tup (pv 2) pe_int (fun _ _ => rfl)) (pa_cons (pv 3) pa_nil))))))), ?_⟩
    obtain ⟨⟨a, dx, wt, pt, gl, gs, rfl, ha, ⟨wp, rfl, hw⟩, hp, hgl, hgs⟩, ⟨fp, rfl, hf⟩, hW, hF⟩ := id hP
    simp only at ha hw hp hgs hf hW hF
    have hl := hW.len
    have hl3 := hW.pip
    have hl4 := Paired.length hgs
    refine s_retL (xs := (List.range ps.length).map fun i => V.int (flowAt ws fill (ps.getD i (0, 0, [])))) (el_lcA _ (ei_zip2Q (k1 := .l) (k2 := .l) (Pn := fun xs ys _ => xs = gs ∧ ys = vI (ps.map (dropAt ws fill)))
        ((eq_ev (ev_gauges T (ev_var rfl) ha) (eq_one (ep_drops (ws, ps, fill) (by walk_at "ea") hP))).imp fun vs H1 e1 hv => ?_) fun _ _ _ _ _ h => h) (by omega) fun i x H1 e hi hx => ?_) fun l H1 _ e h1 => q _ _ e ⟨l, rfl, by
      rw [h1]
      congr 2
      exact (map_getD (0, 0, []) (fun p => V.int (flowAt ws fill p)) ps).trans (List.map_map).symm⟩
    · obtain ⟨r, rfl, z, rfl, b, rfl, hb⟩ := hv
      exact ⟨gl, b, gs, _, rfl, sk_l (e1 gl _ hgl), sk_l hb, by simp; omega, rfl, rfl⟩
    · obtain ⟨Tz, x1, y1, xs, ys, rfl, hT, hx1, hy1, rfl, rfl⟩ := hx
      refine ⟨_, eg_tup2 hT, rfl, ?_⟩
      obtain ⟨p, hpi, ga, ua, rfl, hg1, hg2⟩ := paired_get' hgs hx1
      have hpo := hW.ok p (List.mem_of_getElem? hpi)
      have eq : ps.getD i (0, 0, []) = p := by rw [List.getD_eq_getElem?_getD, hpi]; rfl
      rw [List.getElem?_map, List.getElem?_map, hpi] at hy1
      cases hy1
      rw [eq]
      refine ev_runs_at (us := unitsAt ws p) (ea_cons (ev_op (ev_var rfl) ev_c (rv_ix4 (e ga _ hg1) rfl)) (ea_cons (ev_var rfl) ea_nil)) ⟨ua, rfl, e ua _ hg2⟩ ?_
      have := hpo.2.2.2.2.1
      show (List.map _ _).length ≤ _
      rw [List.length_map]
      omega
theorem ep_flows_of {E : XK} {σ : L2.St} {H : Hp} {ta : TA} {wv fv : V} (a : WPF) (h : EvA ta σ H [wv, fv]) (hp : PreF C a wv fv H) : EvP (tCall (sp_flows_of C) [] E ta) σ H (NewL (vI (flowsAt a.1 a.2.1 a.2.2))) := ep_call a h fun _ e => ⟨wv, fv, rfl, hp.ex e⟩
abbrev sp_opened : Sp := fsp (fun (a : List Int × Option (List Int)) vs H => ∃ nv ov, vs = [nv, ov] ∧ LstI H nv a.1 ∧ a.1.length ≤ 1000 ∧ (match a.2 with | none => ov = .non | some o => TupI H ov o)) (fun a => NewL (vI (openedAt a.1 a.2)))
theorem has_opened (T : Tops K mg C) : Has P w K mg base 1 "opened" ["numbers", "opening"] sp_opened := by
  refine T.d_opened.has sc_opened (fun vs H Q E h => ?_) (fun f cdv A outer s H vs Q E hr h => ?_)
  · obtain ⟨_, ⟨_, _, rfl, _⟩, _⟩ := h; rfl
  · obtain ⟨⟨ns, o⟩, ⟨nv, ov, rfl, ⟨p, rfl, hp⟩, hl, ho⟩, q⟩ := h
    refine ⟨_, (pss_cons (ps_if (pt_cmpR op_isN (pv 1) pe_non (nomark _))
        (pss_one (ps_ret (pe_callTy call_list_of (by rfl) T.b_list (by decide +kernel) (pa_cons (pv 0) pa_nil))))
        pss_nil)
      (pss_one (ps_ret (pe_lc (own := [("pipe", 2), ("number", 3)]) rfl sc_opened.nd (pi_enum (by rfl) T.b_enumerate (pa_cons (pv 0) pa_nil)) (blkOk_by (own := [("pipe", 2), ("number", 3)]) (N := N_opened) (sc := defScope s_opened) (by decide +kernel)) (fun _ _ _ _ _ => (pg_tupK (n := 2) rfl rfl (pgs_cons (pg_name (i := 2) sc_opened.nd rfl (Or.inl rfl)) (pgs_cons (pg_name (i := 3) sc_opened.nd rfl (Or.inl rfl)) pgs_nil)))) (fun _ _ _ _ _ => pts_nil) (fun _ _ _ _ _ => (pe_ifExp (pt_cmpR (r := rIn K false) op_in_seq (pv 2) (pv 1) (by rfl)) (pv 3) pe_int)))))), ?_⟩
    simp only at hp hl ho
    cases o with
    | none =>
      subst ho
      refine q_when (b := true) (et_test (ev_op (ev_var rfl) ev_c rv_isN)) (fun _ H1 e1 => ?_) fun z => nomatch z
      exact s_retL (xs := vI ns) (el_list (K := K) (ev_var rfl) (sq_of (e1 p _ hp))) fun l H2 _ e2 h2 => q _ _ (e1.trans e2) ⟨l, rfl, h2⟩
    | some o =>
      obtain ⟨op, rfl, hop⟩ := ho
      refine q_when (b := false) (et_test (ev_op (ev_var rfl) ev_c rv_isN)) (fun z => nomatch z) fun _ H1 e1 => ?_
      refine s_retL (xs := (List.range (vI ns).length).map fun (i : Nat) => V.int (if (i : Int) ∈ o then wd ns i else 0)) (el_lcA _ (ei_enum (ea_cons (ev_var rfl) ea_nil) (sq_of (e1 p _ hp))) (by simp; omega) fun i x H2 e hi hx => ?_) fun l H2 _ e h1 => q _ _ (e1.trans e) ⟨l, rfl, by
        rw [h1, List.length_map]
        unfold openedAt
        rw [vI, List.map_map]
        rfl⟩
      obtain ⟨Tz, y, rfl, hT, hy⟩ := hx
      rw [List.length_map] at hi
      rw [vI_get hi] at hy
      cases hy
      refine ⟨_, eg_tup2 hT, rfl, ?_⟩
      refine ev_if (b := decide ((i : Int) ∈ o)) (et_test (ev_is (ev_op (ev_var rfl) (ev_var rfl) (rv_isT (st_of ((e1.trans e) op _ hop)) rfl (flat_vI o))) (by rw [inV_int]))) (fun hb => ev_is (ev_var rfl) (by rw [if_pos (of_decide_eq_true hb)])) (fun hb => ev_is ev_c (by rw [if_neg (of_decide_eq_false hb)]))
theorem eqOpen {H : Hp} {ov : V} {m : Nat} {o : Option (List Int)} (h : OpenAt H ov m o) : (match o with | none => ov = .non | some o => TupI H ov o) := by
  cases o with
  | none => exact h
  | some o => exact h.1
abbrev sp_nets_of (C : Addr) : Sp := fsp (fun (a : (List Int × List Pipe) × List Int) vs H => ∃ wv nv, vs = [wv, nv] ∧ WebAt C H wv a.1.1 a.1.2 ∧ WebOk a.1.1 a.1.2 ∧ LstI H nv a.2 ∧ a.2.length = a.1.2.length) (fun a => NewL (vI (netsAt a.1.1.length a.1.2 a.2)))
theorem foldl_take_succ {α β : Type} (g : β → α → β) (b : β) (xs : List α) (i : Nat) (x : α) (h : xs[i]? = some x) : (xs.take (i + 1)).foldl g b = g ((xs.take i).foldl g b) x := by
  rw [List.take_add_one, h, Option.toList_some, List.foldl_append]
  rfl
theorem nets_len (m : Nat) (xs : List (Pipe × Int)) (f : List Int) (h : f.length = m) : (xs.foldl netStep f).length = m := by
  induction xs generalizing f with
  | nil => exact h
  | cons x r ih => exact ih _ (by unfold netStep; rw [addAt_len, addAt_len, h])
theorem vI_add (f : List Int) (i : Nat) (d : Int) : (vI f).set i (.int (wd f i + d)) = vI (addAt f i d) := by
  unfold addAt vI
  rw [List.map_set]
theorem has_nets_of (T : Tops K mg C) : Has P w K mg base 1 "nets_of" ["web", "numbers"] (sp_nets_of C) := by
  refine T.d_nets_of.has sc_nets_of (fun vs H Q E h => ?_) (fun f cdv A outer s H vs Q E hr h => ?_)
  · obtain ⟨_, ⟨_, _, rfl, _⟩, _⟩ := h; rfl
  · obtain ⟨⟨⟨ws, ps⟩, ns⟩, ⟨wv, nv, rfl, ⟨a, dx, wt, pt, gl, gs, rfl, ha, ⟨wp, rfl, hw⟩, ⟨pp, pvs, rfl, hp, hps⟩, hgl, hgs⟩, hW, ⟨np, rfl, hn⟩, hnl⟩, q⟩ := h
    refine ⟨_, (pss_cons (ps_set (i := 2) sc_nets_of.nd rfl (.inl rfl) (pe_op op_rep (pe_lst (pa_cons pe_int pa_nil)) (pe_callB (r := rLenS K) call_len_seq (by rfl) T.b_len (by decide +kernel) (pa_cons (pe_fld (pv 0) rfl) pa_nil))))
      (pss_cons (ps_for PassesOwn.never rfl (pi_zip2 .t .l (by rfl) T.b_zip (pa_cons (pe_fld (pv 0) rfl) (pa_cons (pv 1) pa_nil))) (pg_tupK (n := 2) rfl rfl (pgs_cons (pg_tupK (n := 3) rfl rfl (pgs_cons (pg_name (i := 3) sc_nets_of.nd rfl (Or.inl rfl)) (pgs_cons (pg_name (i := 4) sc_nets_of.nd rfl (Or.inl rfl)) (pgs_cons (pg_name (i := 5) sc_nets_of.nd rfl (Or.inl rfl)) pgs_nil)))) (pgs_cons (pg_name (i := 6) sc_nets_of.nd rfl (Or.inl rfl)) pgs_nil)))
        (pss_cons (ps_augS (pv 2) (pv 3) get_list (pv 6) ip_add set_list)
        (pss_one (ps_augS (pv 2) (pv 4) get_list (pv 6) ip_sub set_list))))
      (pss_one (ps_ret (pv 2))))), ?_⟩
    simp only at ha hw hp hps hgs hW hn hnl
    have hl := hW.len
    have hl3 := hW.pip
    have hl4 := Paired.length hps
    refine q_asgL (xs := List.replicate ws.length (.int 0)) (el_rep (el_lst (ea_cons ev_c ea_nil) (by decide)) (ev_is (ev_lenT hw (ev_widths T (ev_var rfl) ha)) (by rw [List.length_map])) (by omega)) fun D H1 hD e1 h1 => ?_
    have nD : ∀ {b o}, H b = some o → b ≠ D := fun {b o} hb z => by rw [z, hD] at hb; cases hb
    refine q_forJ (S := (· = D)) (ej_zip2 (k1 := .t) (k2 := .l) (n := ps.length) (ea_cons (ev_pipes T (ev_var rfl) (e1 a _ ha)) (ea_cons (ev_var rfl) ea_nil)) (xs := pvs) (ys := vI ns) (e1 pp _ hp) (e1 np _ hn) (nD hp) (nD hn) (by simp; omega)) fun H2 e2 =>
      ⟨fun i σ' H' => ExS (· = D) H2 H' ∧ (∃ x3 x4 x5 x6, σ' = [some (.ref a), some (.ref np), some (.ref D), x3, x4, x5, x6]) ∧ H' D = some (.lst (vI (((ps.zip ns).take i).foldl netStep (List.replicate ws.length 0)))),
        ⟨ExS.refl _, ⟨_, _, _, _, rfl⟩, by rw [e2 D _ h1]; simp [vI]⟩, fun i σ' H' h => h.1, ?_, ?_⟩
    · rintro i x σ' H' H'' hi ⟨ex, ⟨x3, x4, x5, x6, rfl⟩, hL⟩ e3 ⟨Tz, y1, y2, rfl, hT, hy1, hy2⟩
      obtain ⟨p, hpi, pa, sv, rfl, hpa, hsv⟩ := paired_get' hps hy1
      rw [vI_get (by omega)] at hy2
      cases hy2
      have hz : (ps.zip ns)[i]? = some (p, wd ns i) := by
        rw [List.getElem?_zip_eq_some]
        exact ⟨hpi, wd_get (by omega)⟩
      have hpo := hW.ok p (List.mem_of_getElem? hpi)
      have hpa := e3 pa _ (ex pa _ (nD hpa) (e2 pa _ (e1 pa _ hpa)))
      have hL3 := e3 D _ hL
      generalize hF : ((ps.zip ns).take i).foldl netStep (List.replicate ws.length 0) = F at hL hL3
      have hFl : F.length = ws.length := by rw [← hF]; exact nets_len _ _ _ (by simp)
      refine ⟨Tz, _, rfl, st_of hT, rfl, .ref pa, _, rfl, ⟨pa, _, rfl, st_of hpa, rfl, _, _, rfl, _, _, rfl, _, _, rfl, rfl, _, _, rfl, rfl, ?_⟩⟩
      refine q_augL (j := p.1) (a := wd F p.1) (b := wd ns i) (ev_var rfl) (ev_var rfl) (ev_var rfl) hL3 (vI_get (by omega)) fun H4 e4 => ?_
      have u1 : (upd H4 D (.lst ((vI F).set p.1 (.int (wd F p.1 + wd ns i))))) D = some (.lst (vI (addAt F p.1 (wd ns i)))) := by rw [upd_same, vI_add]
      refine s_augL (j := p.2.1) (a := wd (addAt F p.1 (wd ns i)) p.2.1) (b := wd ns i) (ev_var rfl) (ev_var rfl) (ev_var rfl) u1 (vI_get (by rw [addAt_len]; omega)) fun H5 e5 => ⟨?_, ⟨_, _, _, _, rfl⟩, ?_⟩
      · exact ((((ex.trans (exs_of e3)).trans (exs_of e4)).mut rfl).trans (exs_of e5)).mut rfl
      · rw [upd_same, foldl_take_succ _ _ _ _ _ hz, hF]
        congr 2
        exact vI_add (addAt F p.1 (wd ns i)) p.2.1 (-(wd ns i))
    · rintro σ' H' ⟨ex, ⟨x3, x4, x5, x6, rfl⟩, hL⟩
      refine s_ret (v := .ref D) (ev_var rfl) fun H3 e3 => q _ _ ?_ ⟨D, rfl, ?_⟩
      · exact (ExS.ex (S := (· = D)) (((exs_of (e1.trans e2)).trans ex).trans (exs_of e3)) (fun a h => by rw [h]; exact hD))
      · rw [e3 D _ hL, List.take_of_length_le (by simp; omega)]
        rfl
end
end TW
/-! The plain law of flows: the law's count and the program's. -/
namespace TW
open PySem PySem.Spec PyProof.Rows L2 Evl
theorem unit_le {g n : Int} {f : Int × Int} (hf : Good f) (hg : 0 < g) : unitOf g f ≤ n ↔ f.1 * g ≤ n * f.2 := by
  obtain ⟨g1, g2, g3, g4, g5⟩ := hf
  have d0 : 0 < gcdI (f.1 * g) f.2 := gcdI_pos (by omega)
  have d1 : gcdI (f.1 * g) f.2 ∣ f.1 * g := Int.gcd_dvd_left _ _
  have d2 : gcdI (f.1 * g) f.2 ∣ f.2 := Int.gcd_dvd_right _ _
  unfold unitOf
  generalize gcdI (f.1 * g) f.2 = d at d0 d1 d2
  obtain ⟨A, hA⟩ := d1
  obtain ⟨B, hB⟩ := d2
  rw [hA, hB, Int.mul_ediv_cancel_left _ (by omega), Int.mul_ediv_cancel_left _ (by omega)]
  have hB0 : 0 < B := by
    rcases Int.lt_or_le 0 B with h | h
    · exact h
    · have := Int.mul_nonpos_of_nonneg_of_nonpos (Int.le_of_lt d0) h
      omega
  have h1 : -(-A / B) ≤ n ↔ -n ≤ -A / B := by omega
  rw [h1, Int.le_ediv_iff_mul_le hB0, show n * (d * B) = d * (n * B) by rw [Int.mul_left_comm], Int.neg_mul]
  have h2 : -(n * B) ≤ -A ↔ A ≤ n * B := by omega
  rw [h2]
  exact (Int.mul_le_mul_left d0).symm
def letHigh (a wb : Int) : Int := a * max 1 wb
def letScale (wa wb : Int) : Int := max 1 wa * max 1 wb
def letCount (fs : List (Int × Int)) (s d : Int) : Nat := (fs.filter fun f => decide (f.1 * s ≤ d * f.2)).length
def letAt (fs : List (Int × Int)) (a wa b wb : Int) : Int :=
  if letHigh b wa < letHigh a wb then (letCount fs (letScale wa wb) (absI (letHigh a wb - letHigh b wa)) : Int) else -(letCount fs (letScale wa wb) (absI (letHigh a wb - letHigh b wa)) : Int)
theorem let_core {a wa b wb : Int} (ha : 0 ≤ wa ∧ wa ≤ 3) (hb : 0 ≤ wb ∧ wb ≤ 3) (za : wa = 0 → a = 0) (zb : wb = 0 → b = 0) :
    ∃ c : Int, 0 < c ∧ letScale wa wb = c * grainsOf wa wb ∧ letHigh a wb - letHigh b wa = c * (a * (if wa = 0 then 0 else grainsOf wa wb / wa) - b * (if wb = 0 then 0 else grainsOf wa wb / wb)) := by
  obtain ⟨a0, a1⟩ := ha
  obtain ⟨b0, b1⟩ := hb
  have ha : wa = 0 ∨ wa = 1 ∨ wa = 2 ∨ wa = 3 := by omega
  have hb : wb = 0 ∨ wb = 1 ∨ wb = 2 ∨ wb = 3 := by omega
  unfold letScale letHigh
  have g00 : grainsOf 0 0 = 1 := by decide
  have g01 : grainsOf 0 1 = 1 := by decide
  have g02 : grainsOf 0 2 = 2 := by decide
  have g03 : grainsOf 0 3 = 3 := by decide
  have g10 : grainsOf 1 0 = 1 := by decide
  have g11 : grainsOf 1 1 = 1 := by decide
  have g12 : grainsOf 1 2 = 2 := by decide
  have g13 : grainsOf 1 3 = 3 := by decide
  have g20 : grainsOf 2 0 = 2 := by decide
  have g21 : grainsOf 2 1 = 2 := by decide
  have g22 : grainsOf 2 2 = 2 := by decide
  have g23 : grainsOf 2 3 = 6 := by decide
  have g30 : grainsOf 3 0 = 3 := by decide
  have g31 : grainsOf 3 1 = 3 := by decide
  have g32 : grainsOf 3 2 = 6 := by decide
  have g33 : grainsOf 3 3 = 3 := by decide
  have m0 : max (1 : Int) 0 = 1 := by decide
  have m1 : max (1 : Int) 1 = 1 := by decide
  have m2 : max (1 : Int) 2 = 2 := by decide
  have m3 : max (1 : Int) 3 = 3 := by decide
  rcases ha with rfl | rfl | rfl | rfl <;> rcases hb with rfl | rfl | rfl | rfl <;> simp only [g00, g01, g02, g03, g10, g11, g12, g13, g20, g21, g22, g23, g30, g31, g32, g33, m0, m1, m2, m3, if_true] <;> first
    | exact ⟨1, by decide, by decide, by (try simp only [reduceIte, Int.reduceEq, Int.reduceDiv]); omega⟩
    | exact ⟨2, by decide, by decide, by (try simp only [reduceIte, Int.reduceEq, Int.reduceDiv]); omega⟩
    | exact ⟨3, by decide, by decide, by (try simp only [reduceIte, Int.reduceEq, Int.reduceDiv]); omega⟩
theorem abs_mul {c d : Int} (hc : 0 < c) : absI (c * d) = c * absI d := by
  unfold absI
  by_cases h : d < 0
  · have : c * d < 0 := Int.mul_neg_of_pos_of_neg hc h
    rw [if_pos h, if_pos this, Int.mul_neg]
  · have : ¬ c * d < 0 := by
      have := Int.mul_nonneg (Int.le_of_lt hc) (show 0 ≤ d by omega)
      omega
    rw [if_neg h, if_neg this]
theorem let_flow {ws fill : List Int} {ps : List Pipe} {p : Pipe} (hW : WebOk ws ps) (hF : FillOk ws fill) (hG : GoodL p.2.2) : letAt p.2.2 (wd fill p.1) (wd ws p.1) (wd fill p.2.1) (wd ws p.2.1) = flowAt ws fill p := by
  obtain ⟨c, hc, hs, hd⟩ := let_core (a := wd fill p.1) (b := wd fill p.2.1) (hW.w p.1) (hW.w p.2.1) (hF.dry _) (hF.dry _)
  have hg := grains_bd (hW.w p.1) (hW.w p.2.1)
  have hdr : dropAt ws fill p = wd fill p.1 * (if wd ws p.1 = 0 then 0 else grainsOf (wd ws p.1) (wd ws p.2.1) / wd ws p.1) - wd fill p.2.1 * (if wd ws p.2.1 = 0 then 0 else grainsOf (wd ws p.1) (wd ws p.2.1) / wd ws p.2.1) := rfl
  rw [← hdr] at hd
  have hcount : letCount p.2.2 (letScale (wd ws p.1) (wd ws p.2.1)) (absI (letHigh (wd fill p.1) (wd ws p.2.1) - letHigh (wd fill p.2.1) (wd ws p.1))) = ((unitsAt ws p).filter fun u => decide (u ≤ absI (dropAt ws fill p))).length := by
    unfold letCount unitsAt
    rw [List.filter_map, List.length_map]
    congr 1
    apply List.filter_congr
    intro f hf
    rw [hd, hs, abs_mul hc]
    have hu := unit_le (n := absI (dropAt ws fill p)) (hG.1 f hf) (show 0 < grainsAt ws p by unfold grainsAt; omega)
    show decide _ = decide (unitOf (grainsAt ws p) f ≤ _)
    apply decide_eq_decide.mpr
    rw [hu]
    show f.1 * (c * grainsAt ws p) ≤ c * absI (dropAt ws fill p) * f.2 ↔ _
    rw [show f.1 * (c * grainsAt ws p) = c * (f.1 * grainsAt ws p) by rw [Int.mul_left_comm], Int.mul_assoc]
    exact Int.mul_le_mul_left hc
  unfold letAt flowAt runsAt
  rw [hcount]
  have hsg : letHigh (wd fill p.2.1) (wd ws p.1) < letHigh (wd fill p.1) (wd ws p.2.1) ↔ 0 < dropAt ws fill p := by
    constructor
    · intro h
      rcases Int.lt_or_le 0 (dropAt ws fill p) with h2 | h2
      · exact h2
      · have := Int.mul_nonpos_of_nonneg_of_nonpos (Int.le_of_lt hc) h2
        omega
    · intro h
      have := Int.mul_pos hc h
      omega
  by_cases h : 0 < dropAt ws fill p
  · rw [if_pos h, if_pos (hsg.mpr h)]
  · rw [if_neg h, if_neg (fun z => h (hsg.mp z))]
/-! ### moves -/
theorem wd_add {f : List Int} {i j : Nat} {d : Int} : wd (addAt f i d) j = wd f j + (if i = j ∧ i < f.length then d else 0) := by
  unfold addAt wd
  rw [List.getD_eq_getElem?_getD, List.getD_eq_getElem?_getD, List.getElem?_set]
  by_cases h : i = j
  · subst h
    by_cases hi : i < f.length
    · simp [hi, List.getElem?_eq_getElem hi, wd]
    · simp [hi, List.getElem?_eq_none (by omega : f.length ≤ i)]
  · simp [h]
def movStep (f : List Int) (x : Pipe × Int) : List Int := addAt (addAt f x.1.1 (-x.2)) x.1.2.1 x.2
def movFold (fill : List Int) (ps : List Pipe) (ns : List Int) : List Int := (ps.zip ns).foldl movStep fill
theorem mov_net (fill : List Int) : ∀ (xs : List (Pipe × Int)) (f nets : List Int), f.length = nets.length → (∀ j, wd f j = wd fill j - wd nets j) → (∀ j, wd (xs.foldl movStep f) j = wd fill j - wd (xs.foldl netStep nets) j) ∧ (xs.foldl movStep f).length = f.length
  | [], f, nets, _, h => ⟨h, rfl⟩
  | x :: xs, f, nets, hl, h => by
    have k := mov_net fill xs (movStep f x) (netStep nets x) (by unfold movStep netStep; rw [addAt_len, addAt_len, addAt_len, addAt_len, hl]) fun j => by
      unfold movStep netStep
      rw [wd_add, wd_add, wd_add, wd_add, addAt_len, addAt_len, h j, hl]
      split <;> split <;> omega
    refine ⟨k.1, k.2.trans ?_⟩
    unfold movStep
    rw [addAt_len, addAt_len]
theorem mov_moved {ws fill : List Int} {ps : List Pipe} {ns : List Int} (hW : WebOk ws ps) (hF : FillOk ws fill) : (List.range ws.length).map (fun i => if 0 < wd ws i then wd (movFold fill ps ns) i else 0) = movedAt ws ps fill ns := by
  unfold movedAt
  apply List.map_congr_left
  intro i hi
  have k := (mov_net fill (ps.zip ns) fill (List.replicate ws.length 0) (by rw [hF.len]; simp) fun j => by
    have : wd (List.replicate ws.length 0) j = 0 := by
      unfold wd
      rw [List.getD_eq_getElem?_getD, List.getElem?_replicate]
      split <;> rfl
    omega).1 i
  have hw := hW.w i
  unfold movFold netsAt
  rw [k]
  split <;> split <;> first | rfl | omega
theorem moved_ok {ws fill : List Int} {ps : List Pipe} {ns : List Int} : FillOk ws (movedAt ws ps fill ns) := by
  refine ⟨by simp [movedAt], fun i hi => ?_⟩
  unfold movedAt wd
  rw [List.getD_eq_getElem?_getD, List.getElem?_map]
  by_cases h : i < ws.length
  · rw [List.getElem?_range h]
    show (if wd ws i = 0 then (0 : Int) else _) = 0
    rw [if_pos hi]
  · rw [List.getElem?_eq_none (by simp; omega)]
    rfl
end TW
namespace TW
open PySem PySem.Spec PyProof.Rows L2 Evl
section
variable {P : Program} {w : World} {K : PySem.W.Frag} {mg : Str → Option Value} {base : Heap} {C : Addr} {mgX : Str → Option Value}
local macro_rules | `(tactic| walk_at "rv") => `(tactic| first
  | exact rv_I0
  | exact rv_eq rfl
  | exact rv_ne rfl
  | exact rv_isN
  | exact rv_notN
  | (apply rv_I; (try dsimp only); first | omega | assumption | exact ⟨by omega, by omega⟩ | exact Or.inl ⟨by omega, by omega⟩ | exact Or.inr ⟨by omega, by omega⟩)
  | (apply rv_ix0; assumption; rfl)
  | (apply rv_ix1; assumption; rfl)
  | (apply rv_ix2; assumption; rfl)
  | (apply rv_ix4; assumption; rfl))
local macro_rules | `(tactic| walk_at "ea") => `(tactic| first
  | exact ea_nil
  | (apply ea_cons; walk_at "ev"; walk_at "ea"))
local macro_rules | `(tactic| walk_at "ev") => `(tactic| first
  | exact ev_c
  | (apply ev_var; rfl)
  | (apply ev_op; walk_at "ev"; walk_at "ev"; walk_at "rv")
  | (apply ev_un; walk_at "ev"; exact ru_neg)
  | (apply ev_isiII; walk_at "ea")
  | (apply ev_isiIB; walk_at "ea")
  | (apply ev_isiTT; assumption; walk_at "ea")
  | (apply ev_lenT; assumption; walk_at "ev")
  | (apply ev_lenL; assumption; walk_at "ev")
  | (apply ev_andV; walk_at "ev"; intro _; walk_at "ev")
  | (apply ev_orV; walk_at "ev"; intro _; walk_at "ev")
  | (apply ev_notV; walk_at "ev")
  | (apply ev_chain; walk_at "ev"; walk_at "ev"; walk_at "ev"; walk_at "rv"; walk_at "rv")
  | (apply ev_abs; walk_at "ea")
  | (apply ev_int; walk_at "ea"))
local macro_rules | `(tactic| walk_at "et") => `(tactic| first
  | (apply et_test; walk_at "ev")
  | (apply et_B; walk_at "ev")
  | (apply et_not; walk_at "et")
  | (apply et_and; walk_at "et"; intro _; walk_at "et")
  | (apply et_or; walk_at "et"; intro _; walk_at "et"))

local macro_rules | `(tactic| walk_at "ev") => `(tactic| ((with_reducible apply ev_is_integer); walk_at "ea"))
local macro_rules | `(tactic| walk_at "ev") => `(tactic| ((with_reducible apply ev_is_between); walk_at "ea"))
local macro_rules | `(tactic| walk_at "ev") => `(tactic| ((with_reducible apply ev_divisor); walk_at "ea"))
local macro_rules | `(tactic| walk_at "ev") => `(tactic| ((with_reducible apply ev_is_width); walk_at "ea"))
theorem ep_opened {E : XK} {σ : L2.St} {H : Hp} {ta : TA} {nv ov : V} {ns : List Int} {o : Option (List Int)} (h : EvA ta σ H [nv, ov]) (hn : LstI H nv ns) (hl : ns.length ≤ 1000) (ho : match o with | none => ov = .non | some o => TupI H ov o) : EvP (tCall sp_opened [] E ta) σ H (NewL (vI (openedAt ns o))) :=
  ep_call (ns, o) h fun H1 e => ⟨nv, ov, rfl, hn.ex e, hl, by
    cases o with
    | none => exact ho
    | some o => exact TupI.ex e ho⟩
theorem ep_nets {E : XK} {σ : L2.St} {H : Hp} {ta : TA} {wv nv : V} {ws : List Int} {ps : List Pipe} {ns : List Int} (h : EvA ta σ H [wv, nv]) (hw : WebAt C H wv ws ps) (hW : WebOk ws ps) (hn : LstI H nv ns) (hl : ns.length = ps.length) : EvP (tCall (sp_nets_of C) [] E ta) σ H (NewL (vI (netsAt ws.length ps ns))) :=
  ep_call ((ws, ps), ns) h fun H1 e => ⟨wv, nv, rfl, hw.ex e, hW, hn.ex e, hl⟩
theorem opened_len (ns : List Int) (o : Option (List Int)) : (openedAt ns o).length = ns.length := by
  cases o with
  | none => rfl
  | some o => simp [openedAt]
theorem flows_len (ws : List Int) (ps : List Pipe) (fill : List Int) : (flowsAt ws ps fill).length = ps.length := by simp [flowsAt]
theorem netsAt_len (m : Nat) (ps : List Pipe) (ns : List Int) : (netsAt m ps ns).length = m := nets_len _ _ _ (by simp)
abbrev sp_moved (C : Addr) : Sp := fsp (fun (a : WPF × List Int) vs H => ∃ wv fv nv, vs = [wv, fv, nv] ∧ PreF C a.1 wv fv H ∧ LstI H nv a.2 ∧ a.2.length = a.1.2.1.length) (fun a v H => TupI H v (movedAt a.1.1 a.1.2.1 a.1.2.2 a.2))
theorem has_moved (T : Tops K mg C) : Has P w K mg base 2 "moved" ["web", "filling", "numbers"] (sp_moved C) := by
  refine T.d_moved.has sc_moved (fun vs H Q E h => ?_) (fun f cdv A outer s H vs Q E hr h => ?_)
  · obtain ⟨_, ⟨_, _, _, rfl, _⟩, _⟩ := h; rfl
  · obtain ⟨⟨⟨ws, ps, fill⟩, ns⟩, ⟨wv, fv, nv, rfl, ⟨hWA, ⟨fp, rfl, hf⟩, hW, hF⟩, hn, hnl⟩, q⟩ := h
    refine ⟨_, (pss_cons (ps_set (i := 3) sc_moved.nd rfl (.inl rfl) (pe_fn (has_nets_of T) (hr.mono (by decide)) (by rfl) (pa_cons (pv 0) (pa_cons (pv 2) pa_nil))))
      (pss_one (ps_ret (pe_callTy call_tuple_of (by rfl) T.b_tuple (by decide +kernel) (pa_cons (pe_lc (own := [("width", 4), ("water", 5), ("net", 6)]) rfl sc_moved.nd (pi_zip3 .t .t .l (by rfl) T.b_zip (pa_cons (pe_fld (pv 0) rfl) (pa_cons (pv 1) (pa_cons (pv 3) pa_nil)))) (blkOk_by (own := [("width", 4), ("water", 5), ("net", 6)]) (N := N_moved) (sc := defScope s_moved) (by decide +kernel)) (fun _ _ _ _ _ => (pg_tupK (n := 3) rfl rfl (pgs_cons (pg_name (i := 4) sc_moved.nd rfl (Or.inl rfl)) (pgs_cons (pg_name (i := 5) sc_moved.nd rfl (Or.inl rfl)) (pgs_cons (pg_name (i := 6) sc_moved.nd rfl (Or.inl rfl)) pgs_nil))))) (fun _ _ _ _ _ => pts_nil) (fun _ _ _ _ _ => (pe_ifExp (pt_cmpR op_eq (pv 4) pe_int (nomark _)) pe_int (pe_op op_sub (pv 5) (pv 6))))) pa_nil))))), ?_⟩
    simp only at hWA hf hW hF hn hnl
    refine p_asg (ep_nets (by walk_at "ea") hWA hW hn hnl) fun v H1 e1 hv => ?_
    obtain ⟨np, rfl, hnp⟩ := hv
    obtain ⟨a, dx, wt, pt, gl, gs, rfl, ha, ⟨wp, rfl, hw⟩, hp, hgl, hgs⟩ := hWA.ex e1
    have hl := hW.len
    have hl2 := hF.len
    have hl5 := netsAt_len ws.length ps ns
    refine s_retU (eu_tupleN (el_lcA (fun i => V.int (if wd ws i = 0 then 0 else wd fill i - wd (netsAt ws.length ps ns) i)) (ei_zip3 (k1 := .t) (k2 := .t) (k3 := .l) (xs := vI ws) (ys := vI fill) (zs := vI (netsAt ws.length ps ns)) (n := ws.length)
      (ea_cons (ev_widths T (ev_var rfl) ha) (ea_cons (ev_var rfl) (ea_cons (ev_var rfl) ea_nil))) (sk_t hw) (sk_t (e1 fp _ hf)) (sk_l hnp) (by simp; omega)) (by omega) fun i x H2 e hi hx => ?_)) fun l H2 _ e h2 => q _ _ (e1.trans e) ⟨l, rfl, ?_⟩
    · obtain ⟨Tz, y1, y2, y3, rfl, hT, h1, h2, h3⟩ := hx
      rw [vI_get (by omega)] at h1 h2 h3
      cases h1
      cases h2
      cases h3
      refine ⟨_, eg_tup3 hT, by rw [wipe_set (by decide), wipe_set (by decide), wipe_set (by decide), wipe_idem], ?_⟩
      refine ev_if (b := decide (wd ws i = 0)) (et_is (by walk_at "et") (by simp)) (fun hb => ev_is ev_c (by rw [if_pos (of_decide_eq_true hb)])) (fun hb => ev_is (ev_op (ev_var rfl) (ev_var rfl) rv_I0) (by rw [if_neg (of_decide_eq_false hb)]))
    · rw [h2]
      unfold movedAt
      rw [vI, List.map_map]
      rfl
theorem ep_moved {E : XK} {σ : L2.St} {H : Hp} {ta : TA} {wv fv : V} {ns : List Int} (a : WPF) (h : EvQ ta σ H (fun vs H1 => ∃ nv, vs = [wv, fv, nv] ∧ LstI H1 nv ns)) (hp : PreF C a wv fv H) (hl : ns.length = a.2.1.length) : EvP (tCall (sp_moved C) [] E ta) σ H (fun v H1 => TupI H1 v (movedAt a.1 a.2.1 a.2.2 ns)) :=
  ep_callQ (a, ns) h fun vs H1 e ⟨nv, ev, hn⟩ => ⟨wv, fv, nv, ev, hp.ex e, hn, hl⟩
abbrev sp_running (C : Addr) : Sp := fsp (fun (a : WPF × Option (List Int)) vs H => ∃ wv fv ov, vs = [wv, fv, ov] ∧ PreF C a.1 wv fv H ∧ OpenAt H ov a.1.2.1.length a.2) (fun a => NewL (vI (openedAt (flowsAt a.1.1 a.1.2.1 a.1.2.2) a.2)))
theorem has_running (T : Tops K mg C) : Has P w K mg base 5 "running" ["web", "filling", "opening"] (sp_running C) := by
  refine T.d_running.has sc_running (fun vs H Q E h => ?_) (fun f cdv A outer s H vs Q E hr h => ?_)
  · obtain ⟨_, ⟨_, _, _, rfl, _⟩, _⟩ := h; rfl
  · obtain ⟨⟨⟨ws, ps, fill⟩, o⟩, ⟨wv, fv, ov, rfl, hP, ho⟩, q⟩ := h
    refine ⟨_, (pss_cons (ps_expr (pe_fn (has_check_filling T) (hr.mono (by decide)) (by rfl) (pa_cons (pv 0) (pa_cons (pv 1) pa_nil))))
      (pss_cons (ps_expr (pe_fn (has_check_opening T) (hr.mono (by decide)) (by rfl) (pa_cons (pv 0) (pa_cons (pv 2) pa_nil))))
      (pss_one (ps_ret (pe_fn (has_opened T) (hr.mono (by decide)) (by rfl) (pa_cons (pe_fn (has_flows_of T) (hr.mono (by decide)) (by rfl) (pa_cons (pv 0) (pa_cons (pv 1) pa_nil))) (pa_cons (pv 2) pa_nil))))))), ?_⟩
    simp only at hP ho
    refine q_drop (ev_check_filling (ws, ps, fill) (by walk_at "ea") hP) fun H1 e1 => ?_
    refine q_drop (ev_check_opening (ws := ws) (ps := ps) (o := o) (by walk_at "ea") (hP.1.ex e1) (ho.ex e1)) fun H2 e2 => ?_
    have e12 := e1.trans e2
    have h3 := hP.2.2.1.pip
    refine p_ret (ep_callQ (flowsAt ws ps fill, o) ((eq_cons (ep_flows_of (ws, ps, fill) (by walk_at "ea") (hP.ex e12)) (Pr := fun nv r H3 => LstI H3 nv (flowsAt ws ps fill) ∧ r = [ov]) fun x H3 e3 hx => ?_)) fun vs H3 e3 hv => ?_) fun v H3 e3 hv => q _ _ (e12.trans e3) hv
    · obtain ⟨p, rfl, hp⟩ := hx
      exact (ea_p (by walk_at "ea" : EvA _ _ H3 [ov])).imp fun vs H4 e4 h4 => ⟨⟨p, rfl, e4 p _ hp⟩, h4⟩
    · obtain ⟨nv, r, rfl, hn, rfl⟩ := hv
      exact ⟨nv, ov, rfl, hn, by rw [flows_len]; exact Nat.le_trans h3 (by decide), by
        have h := ho.ex (e12.trans e3)
        cases o with
        | none => exact h
        | some o => exact h.1⟩
theorem ep_running {E : XK} {σ : L2.St} {H : Hp} {ta : TA} {wv fv ov : V} {o : Option (List Int)} (a : WPF) (h : EvA ta σ H [wv, fv, ov]) (hp : PreF C a wv fv H) (ho : OpenAt H ov a.2.1.length o) : EvP (tCall (sp_running C) [] E ta) σ H (NewL (vI (openedAt (flowsAt a.1 a.2.1 a.2.2) o))) :=
  ep_call (a, o) h fun H1 e => ⟨wv, fv, ov, rfl, hp.ex e, ho.ex e⟩
abbrev sp_tick (C : Addr) : Sp := fsp (fun (a : WPF × Option (List Int)) vs H => ∃ wv fv ov, vs = [wv, fv, ov] ∧ PreF C a.1 wv fv H ∧ OpenAt H ov a.1.2.1.length a.2) (fun a v H => TupI H v (tickAt a.1.1 a.1.2.1 a.1.2.2 a.2))
theorem has_tick (T : Tops K mg C) : Has P w K mg base 6 "tick" ["web", "filling", "opening"] (sp_tick C) := by
  refine T.d_tick.has sc_tick (fun vs H Q E h => ?_) (fun f cdv A outer s H vs Q E hr h => ?_)
  · obtain ⟨_, ⟨_, _, _, rfl, _⟩, _⟩ := h; rfl
  · obtain ⟨⟨⟨ws, ps, fill⟩, o⟩, ⟨wv, fv, ov, rfl, hP, ho⟩, q⟩ := h
    refine ⟨_, (pss_one (ps_ret (pe_fn (has_moved T) (hr.mono (by decide)) (by rfl) (pa_cons (pv 0) (pa_cons (pv 1) (pa_cons (pe_fn (has_running T) (hr.mono (by decide)) (by rfl) (pa_cons (pv 0) (pa_cons (pv 1) (pa_cons (pv 2) pa_nil)))) pa_nil)))))), ?_⟩
    simp only at hP ho
    refine p_ret (ep_moved (ws, ps, fill) ((eq_ev (ev_var rfl) (eq_ev (ev_var rfl) (eq_one (ep_running (ws, ps, fill) (o := o) (by walk_at "ea") hP ho)))).imp fun vs H1 e1 hv => ?_) hP (by rw [opened_len, flows_len])) fun v H1 e1 hv => q _ _ e1 hv
    obtain ⟨r, rfl, r2, rfl, z, rfl, b, rfl, hb⟩ := hv
    exact ⟨_, rfl, b, rfl, hb⟩
theorem ep_tick {E : XK} {σ : L2.St} {H : Hp} {ta : TA} {wv fv ov : V} {o : Option (List Int)} (a : WPF) (h : EvA ta σ H [wv, fv, ov]) (hp : PreF C a wv fv H) (ho : OpenAt H ov a.2.1.length o) : EvP (tCall (sp_tick C) [] E ta) σ H (fun v H1 => TupI H1 v (tickAt a.1 a.2.1 a.2.2 o)) :=
  ep_call (a, o) h fun H1 e => ⟨wv, fv, ov, rfl, hp.ex e, ho.ex e⟩
end
end TW
namespace TW
open PySem PySem.Spec PyProof.Rows L2 Evl
section
variable {K : PySem.W.Frag} {σ σ2 : L2.St} {H H' : Hp} {te tl ta tb : TE} {v : V} {g : TG} {D : Ends} {tz : TS}
theorem q_asgT (h : Ev te σ H v) (hg : ∀ H1, Ex H H1 → EvG g v σ H1 σ2) (k : ∀ H1, Ex H H1 → tz D σ2 H1) : tSeq (tAsg te g) tz D σ H := h H (Ex.refl H) _ fun H1 e => hg H1 e _ (k H1 e)
theorem s_fldN {f : Str} {P : Addr → Hp → Prop} (h : EvN tb σ H P) (k : ∀ l H1, H l = none → Ex H H1 → P l H1 → ta σ H1 fun x H2 => ∃ a C dx fs, x = .ref a ∧ H2 a = some (.ins C dx fs) ∧ Cls K C ∧ NoAttr K C f ∧ fs.length < 1000 ∧ D.nx σ (upd H2 a (.ins C dx (putF f (.ref l) fs)))) : sFld K ta tb f D σ H := h H (Ex.refl H) _ k
theorem ei_newT {xs : List V} (h : EvU tl σ H xs) : EvI (iTup K tl) σ H xs.length (fun i x _ => xs[i]? = some x) := fun H1 e R k =>
  h H1 e _ fun a H2 _ e2 hx => ⟨a, rfl, ⟨xs, st_of hx⟩, k _ H2 e2 (fun i H3 hi e3 => ⟨xs, xs[i], st_of (e3 a _ hx), List.getElem?_eq_getElem hi⟩) (fun H3 e3 => ⟨xs, st_of (e3 a _ hx), Nat.le_refl _⟩)
    fun i H3 x H4 hi e3 y => by
      obtain ⟨e4, y⟩ := y
      rw [e4]
      exact ⟨Ex.refl _, y xs (st_of (e3 a _ hx))⟩⟩
theorem en_tup {ta : TA} {Pa : List V → Hp → Prop} (h : EvQ ta σ H Pa) (hl : ∀ vs H1, Pa vs H1 → vs.length ≤ 100000) (hP : ∀ vs H1 H2, Ex H1 H2 → Pa vs H1 → Pa vs H2) : EvN (tTup ta) σ H (fun p H' => ∃ vs, H' p = some (.tup vs) ∧ Pa vs H') := fun H1 e Q q =>
  h H1 e _ fun vs H2 e2 pa => ⟨sz_of (hl vs H2 pa), fun p hp => q p _ (fresh_back e2 hp) (e2.trans (Ex.new hp)) ⟨vs, upd_same, hP _ _ _ (Ex.new hp) pa⟩⟩
end
section
variable {P : Program} {w : World} {K : PySem.W.Frag} {mg : Str → Option Value} {base : Heap} {C : Addr} {mgX : Str → Option Value}
local macro_rules | `(tactic| walk_at "rv") => `(tactic| first
  | exact rv_I0
  | exact rv_eq rfl
  | exact rv_ne rfl
  | exact rv_isN
  | exact rv_notN
  | (apply rv_I; (try dsimp only); first | omega | assumption | exact ⟨by omega, by omega⟩ | exact Or.inl ⟨by omega, by omega⟩ | exact Or.inr ⟨by omega, by omega⟩)
  | (apply rv_ix0; assumption; rfl)
  | (apply rv_ix1; assumption; rfl)
  | (apply rv_ix2; assumption; rfl)
  | (apply rv_ix4; assumption; rfl))
local macro_rules | `(tactic| walk_at "ea") => `(tactic| first
  | exact ea_nil
  | (apply ea_cons; walk_at "ev"; walk_at "ea"))
local macro_rules | `(tactic| walk_at "ev") => `(tactic| first
  | exact ev_c
  | (apply ev_var; rfl)
  | (apply ev_op; walk_at "ev"; walk_at "ev"; walk_at "rv")
  | (apply ev_un; walk_at "ev"; exact ru_neg)
  | (apply ev_isiII; walk_at "ea")
  | (apply ev_isiIB; walk_at "ea")
  | (apply ev_isiTT; assumption; walk_at "ea")
  | (apply ev_lenT; assumption; walk_at "ev")
  | (apply ev_lenL; assumption; walk_at "ev")
  | (apply ev_andV; walk_at "ev"; intro _; walk_at "ev")
  | (apply ev_orV; walk_at "ev"; intro _; walk_at "ev")
  | (apply ev_notV; walk_at "ev")
  | (apply ev_chain; walk_at "ev"; walk_at "ev"; walk_at "ev"; walk_at "rv"; walk_at "rv")
  | (apply ev_abs; walk_at "ea")
  | (apply ev_int; walk_at "ea"))
local macro_rules | `(tactic| walk_at "et") => `(tactic| first
  | (apply et_test; walk_at "ev")
  | (apply et_B; walk_at "ev")
  | (apply et_not; walk_at "et")
  | (apply et_and; walk_at "et"; intro _; walk_at "et")
  | (apply et_or; walk_at "et"; intro _; walk_at "et"))

local macro_rules | `(tactic| walk_at "ev") => `(tactic| ((with_reducible apply ev_is_integer); walk_at "ea"))
local macro_rules | `(tactic| walk_at "ev") => `(tactic| ((with_reducible apply ev_is_between); walk_at "ea"))
local macro_rules | `(tactic| walk_at "ev") => `(tactic| ((with_reducible apply ev_divisor); walk_at "ea"))
local macro_rules | `(tactic| walk_at "ev") => `(tactic| ((with_reducible apply ev_is_width); walk_at "ea"))
abbrev sp_are_widths : Sp := fsp (fun (ws : List Int) vs H => ∃ v, vs = [v] ∧ TupI H v ws ∧ 1 ≤ ws.length ∧ ws.length ≤ 4 ∧ ∀ x ∈ ws, 0 ≤ x ∧ x ≤ 3) (fun _ => IsV (.bl true))
theorem has_are_widths (T : Tops K mg C) : Has P w K mg base 4 "are_widths" ["thing"] sp_are_widths := by
  refine T.d_are_widths.has sc_are_widths (fun vs H Q E h => ?_) (fun f cdv A outer s H vs Q E hr h => ?_)
  · obtain ⟨_, ⟨_, rfl, _⟩, _⟩ := h; rfl
  · obtain ⟨ws, ⟨v, rfl, ⟨p, rfl, hp⟩, l1, l2, hw⟩, q⟩ := h
    refine ⟨_, (pss_cons (ps_if (PW.pt (pw_or (pt_not (pt_val (pe_callB call_isi (by rfl) T.b_isinstance (by decide +kernel) (pa_cons (pv 0) (pa_cons (pe_bltn (v := .ty "tuple") (by rfl) T.b_tuple (by decide +kernel) rfl) pa_nil))))) (pw_or1 (pt_not (pt_chain op_le op_le pe_int (pe_callB (r := rLenS K) call_len_seq (by rfl) T.b_len (by decide +kernel) (pa_cons (pv 0) pa_nil)) (pe_gint T.g_MOST_VESSELS (by rfl)))))))
        (pss_one (ps_ret pe_bl))
        pss_nil)
      (pss_one (ps_ret (pe_callB (cr_all rfl) (by rfl) T.b_all (by decide +kernel) (pa_cons (pe_lc (own := [("item", 1)]) rfl sc_are_widths.nd (pi_tup (pv 0)) (blkOk_by (own := [("item", 1)]) (N := N_are_widths) (sc := defScope s_are_widths) (by decide +kernel)) (fun _ _ _ _ _ => (pg_name (i := 1) sc_are_widths.nd rfl (Or.inl rfl))) (fun _ _ _ _ _ => pts_nil) (fun _ _ _ _ _ => (pe_fn (has_is_width T) (hr.mono (by decide)) (by rfl) (pa_cons (pv 1) pa_nil)))) pa_nil))))), ?_⟩
    refine q_when (b := false) ?_ (fun z => nomatch z) fun _ H1 e1 => ?_
    · apply et_is
      · walk_at "et"
      · simp
        omega
    · apply s_retI
      · refine ev_allN (bs := (List.range (vI ws).length).map fun _ => true) ?_
        rw [List.map_map]
        refine el_lcA _ (ei_tup (ev_var rfl) (st_of (e1 p _ hp))) (by simp; omega) fun i x H2 e hi hx => ⟨_, eg_name, rfl, ?_⟩
        rw [List.length_map] at hi
        rw [vI_get hi] at hx
        cases hx
        have h := hw _ (List.mem_of_getElem? (wd_get hi))
        exact ev_is (ev_is_width (i := wd ws i) (by walk_at "ea")) (by simp; omega)
      · exact q
      · exact e1
      · rw [all_true (fun _ _ => rfl)]
theorem ev_are_widths {E : XK} {σ : L2.St} {H : Hp} {ta : TA} {v : V} {ws : List Int} {ps : List Pipe} (h : EvA ta σ H [v]) (hv : TupI H v ws) (hW : WebOk ws ps) : Ev (tCall sp_are_widths [] E ta) σ H (.bl true) := ev_callV ws h (fun _ e => ⟨v, rfl, hv.ex e, hW.len.1, hW.len.2, hW.wid⟩) fun _ _ p => p
def PipeOk (m : Nat) (p : Pipe) : Prop := p.1 < p.2.1 ∧ p.2.1 < m ∧ GoodL p.2.2
abbrev sp_is_pipe : Sp := fsp (fun (a : Pipe × Nat) vs H => ∃ v, vs = [v, .int (a.2 : Int)] ∧ PipeAt H v a.1 ∧ PipeOk a.2 a.1) (fun _ => IsV (.bl true))
theorem has_is_pipe (T : Tops K mg C) : Has P w K mg base 5 "is_pipe" ["thing", "many"] sp_is_pipe := by
  refine T.d_is_pipe.has sc_is_pipe (fun vs H Q E h => ?_) (fun f cdv A outer s H vs Q E hr h => ?_)
  · obtain ⟨_, ⟨_, rfl, _⟩, _⟩ := h; rfl
  · obtain ⟨⟨⟨one, other, fs⟩, m⟩, ⟨v, rfl, ⟨p, sv, rfl, hp, hs⟩, h1, h2, hG⟩, q⟩ := h
    refine ⟨_, (pss_cons (ps_if (PW.pt (pw_or (pt_not (pt_val (pe_fn (has_is_triple T) (hr.mono (by decide)) (by rfl) (pa_cons (pv 0) pa_nil)))) (pw_or1 (pt_not (pt_val (pe_fn (has_is_between T) (hr.mono (by decide)) (by rfl) (pa_cons (pe_ix (r := rIxT K) ix_tup (pv 0) pe_int (fun _ _ => rfl)) (pa_cons pe_int (pa_cons (pe_op op_sub (pv 1) pe_int) pa_nil)))))))))
        (pss_one (ps_ret pe_bl))
        pss_nil)
      (pss_one (ps_ret (pe_and (pe_fn (has_is_between T) (hr.mono (by decide)) (by rfl) (pa_cons (pe_ix (r := rIxT K) ix_tup (pv 0) pe_int (fun _ _ => rfl)) (pa_cons (pe_op op_add (pe_ix (r := rIxT K) ix_tup (pv 0) pe_int (fun _ _ => rfl)) pe_int) (pa_cons (pe_op op_sub (pv 1) pe_int) pa_nil)))) (pe_one (pe_fn (has_is_list T) (hr.mono (by decide)) (by rfl) (pa_cons (pe_ix (r := rIxT K) ix_tup (pv 0) pe_int (fun _ _ => rfl)) pa_nil))))))), ?_⟩
    simp only at hp hs h1 h2 hG
    refine q_when (b := false) ?_ (fun z => nomatch z) fun _ H1 e1 => ?_
    · apply et_is
      · apply et_or
        · apply et_not
          exact et_B (ev_is_triple hp (by walk_at "ea"))
        · intro _
          apply et_not
          exact et_B (ev_is_between (i := (one : Int)) (a := 0) (b := (m : Int) - 1) (ea_cons (ev_op (ev_var rfl) ev_c (rv_ix0 hp rfl)) (ea_cons ev_c (ea_cons (ev_op (ev_var rfl) ev_c rv_I0) ea_nil))))
      · simp
        omega
    · have hp1 := e1 p _ hp
      apply s_retI
      · apply ev_andV
        · exact ev_is_between (i := (other : Int)) (a := (one : Int) + 1) (b := (m : Int) - 1) (ea_cons (ev_op (ev_var rfl) ev_c (rv_ix1 hp1 rfl)) (ea_cons (ev_op (ev_op (ev_var rfl) ev_c (rv_ix0 hp1 rfl)) ev_c rv_I0) (ea_cons (ev_op (ev_var rfl) ev_c rv_I0) ea_nil)))
        · intro _
          exact ev_is_list (v := sv) (ea_cons (ev_op (ev_var rfl) ev_c (rv_ix2 hp1 rfl)) ea_nil) (hs.ex (tex_of e1)) hG
      · exact q
      · exact e1
      · simp
        omega
theorem ev_is_pipe {E : XK} {σ : L2.St} {H : Hp} {ta : TA} {v : V} {p : Pipe} {m : Nat} (h : EvA ta σ H [v, .int (m : Int)]) (hv : PipeAt H v p) (hp : PipeOk m p) : Ev (tCall sp_is_pipe [] E ta) σ H (.bl true) := ev_callV (p, m) h (fun _ e => ⟨v, rfl, hv.tex (tex_of e), hp⟩) fun _ _ p => p
abbrev sp_gauge : Sp := fsp (fun (a : List Int × List Pipe × Pipe) vs H => ∃ wv pv, vs = [wv, pv] ∧ TupI H wv a.1 ∧ PipeAt H pv a.2.2 ∧ WebOk a.1 a.2.1 ∧ PipeOk a.1.length a.2.2) (fun a v H => GaugeAt a.1 H v a.2.2)
theorem unit_factor {ws : List Int} {ps : List Pipe} (hW : WebOk ws ps) (p : Pipe) (i : Nat) (h : ¬ wd ws i = 0) : CDiv (grainsAt ws p) (wd ws i) := by
  have := hW.w i
  exact ⟨by omega, by omega⟩
theorem has_gauge (T : Tops K mg C) : Has P w K mg base 4 "gauge" ["widths", "pipe"] sp_gauge := by
  refine T.d_gauge.has sc_gauge (fun vs H Q E h => ?_) (fun f cdv A outer s H vs Q E hr h => ?_)
  · obtain ⟨_, ⟨_, _, rfl, _⟩, _⟩ := h; rfl
  · obtain ⟨⟨ws, ps, p⟩, ⟨wv, pv, rfl, ⟨wp, rfl, hw⟩, ⟨pa, sv, rfl, hp, hs⟩, hW, h1, h2, hG⟩, q⟩ := h
    refine ⟨_, (pss_cons (ps_asg (pv 1) (pg_tupK (n := 3) rfl rfl (pgs_cons (pg_name (i := 2) sc_gauge.nd rfl (Or.inl rfl)) (pgs_cons (pg_name (i := 3) sc_gauge.nd rfl (Or.inl rfl)) (pgs_cons (pg_name (i := 4) sc_gauge.nd rfl (Or.inl rfl)) pgs_nil)))))
      (pss_cons (ps_set (i := 5) sc_gauge.nd rfl (.inr rfl) (pe_fn (has_parts_of_grain T) (hr.mono (by decide)) (by rfl) (pa_cons (pe_ix (r := rIxT K) ix_tup (pv 0) (pv 2) (fun _ _ => rfl)) (pa_cons (pe_ix (r := rIxT K) ix_tup (pv 0) (pv 3) (fun _ _ => rfl)) pa_nil))))
      (pss_cons (ps_setLc (i := 6) (own := [("end", 7)]) rfl sc_gauge.nd rfl rfl (sw_true rfl rfl rfl (by decide +kernel)) (pi_tup (pe_tup (pa_cons (pv 2) (pa_cons (pv 3) pa_nil)))) (blkOk_by (own := [("end", 7)]) (N := N_gauge) (sc := defScope s_gauge) (by decide +kernel)) (fun _ _ _ _ _ => (pg_name (i := 7) sc_gauge.nd rfl (Or.inl rfl))) (fun _ _ _ _ _ => pts_nil) (fun _ _ _ _ _ => (pe_ifExp (pt_cmpR op_eq (pe_ix (r := rIxT K) ix_tup (pv 0) (pv 7) (fun _ _ => rfl)) pe_int (nomark _)) pe_int (pe_op op_fdiv (pv 5) (pe_ix (r := rIxT K) ix_tup (pv 0) (pv 7) (fun _ _ => rfl))))))
      (pss_one (ps_ret (pe_tup (pa_cons (pv 2) (pa_cons (pv 3) (pa_cons (pe_ix (r := rIxL K) ix_list (pv 6) pe_int (fun _ _ => rfl)) (pa_cons (pe_ix (r := rIxL K) ix_list (pv 6) pe_int (fun _ _ => rfl)) (pa_cons (pe_fn (has_in_grains T) (hr.mono (by decide)) (by rfl) (pa_cons (pv 4) (pa_cons (pv 5) pa_nil))) (pa_cons (pv 5) pa_nil)))))))))))), ?_⟩
    simp only at hw hp hs hW h1 h2 hG
    have gb := grains_bd (hW.w p.1) (hW.w p.2.1)
    refine q_asgT (v := .ref pa) (ev_var rfl) (fun H1 e1 => eg_tup3 (e1 pa _ hp)) fun H1 e1 => ?_
    have w1 := hW.w p.1
    have w2 := hW.w p.2.1
    refine q_asg (v := .int (grainsAt ws p)) (ev_parts_of_grain (a := wd ws p.1) (b := wd ws p.2.1) (ea_cons (ev_op (ev_var rfl) (ev_var rfl) (rv_ixTt (e1 wp _ hw) (vI_get (by omega)))) (ea_cons (ev_op (ev_var rfl) (ev_var rfl) (rv_ixTt (e1 wp _ hw) (vI_get h2))) ea_nil)) ⟨by omega, by omega, by omega, by omega⟩) fun H2 e2 => ?_
    have e12 := e1.trans e2
    refine q_asgL (xs := (List.range 2).map fun i => V.int (factorAt ws p (if i = 0 then p.1 else p.2.1))) (el_lcA _ (ei_newT (xs := [.int (p.1 : Int), .int (p.2.1 : Int)]) (eu_tup (ea_cons (ev_var rfl) (ea_cons (ev_var rfl) ea_nil)) (by show 2 ≤ 100000; decide))) (by decide) fun i x H3 e3 hi hx => ⟨_, eg_name, rfl, ?_⟩) fun D H3 hD e3 hL => ?_
    · have e123 := e12.trans e3
      have hx : x = .int ((if i = 0 then p.1 else p.2.1 : Nat) : Int) := by
        have hi : i < 2 := hi
        have : i = 0 ∨ i = 1 := by omega
        rcases this with rfl | rfl
        · exact (Option.some.inj hx).symm
        · exact (Option.some.inj hx).symm
      subst hx
      generalize hj : (if i = 0 then p.1 else p.2.1 : Nat) = j
      have hjl : j < ws.length := by
        rw [← hj]
        split <;> omega
      have ix := rv_ixTt (K := K) (j := j) (e123 wp _ hw) (vI_get hjl)
      refine ev_if (b := decide (wd ws j = 0)) (et_is (et_test (ev_op (ev_op (ev_var rfl) (ev_var rfl) ix) ev_c (rv_eq rfl))) (by simp)) (fun hb => ev_is ev_c ?_) (fun hb => ev_is (ev_op (ev_var rfl) (ev_op (ev_var rfl) (ev_var rfl) ix) (rv_I (unit_factor hW p j (of_decide_eq_false hb)))) ?_)
      · unfold factorAt
        rw [if_pos (of_decide_eq_true hb)]
      · unfold factorAt
        rw [if_neg (of_decide_eq_false hb)]
    · have e123 := e12.trans e3
      refine p_ret (ep_n (en_tup (Pa := fun vs H' => ∃ u, vs = [.int (p.1 : Int), .int (p.2.1 : Int), .int (factorAt ws p p.1), .int (factorAt ws p p.2.1), .ref u, .int (grainsAt ws p)] ∧ H' u = some (.tup (vI (unitsAt ws p)))) ?_ (fun vs H4 ⟨u, ev, _⟩ => by rw [ev]; show 6 ≤ 100000; decide) (fun vs H4 H5 e ⟨u, ev, h⟩ => ⟨u, ev, e u _ h⟩))) fun v H4 e4 hv => q _ _ (e123.trans e4) ?_
      · refine (eq_ev (ev_var rfl) (eq_ev (ev_var rfl) (eq_ev (ev_op (ev_var rfl) ev_c (rv_ixLl (j := 0) hL rfl)) (eq_ev (ev_op (ev_var rfl) ev_c (rv_ixLl (j := 1) hL rfl)) (eq_cons (Pr := fun z r H4 => r = [.int (grainsAt ws p)] ∧ ∃ u, z = .ref u ∧ H4 u = some (.tup (vI (unitsAt ws p)))) (eu_in_grains (fs := p.2.2) (g := grainsAt ws p) (v := sv) (by walk_at "ea") (hs.ex (tex_of e123)) hG.1 hG.2.2.1) fun z H4 e4 hz => ?_))))).imp fun vs H4 e4 hv => ?_
        · obtain ⟨u, rfl, hu⟩ := hz
          exact (ea_p (by walk_at "ea" : EvA _ _ H4 [.int (grainsAt ws p)])).imp fun vs H5 e5 h5 => ⟨h5, u, rfl, e5 u _ hu⟩
        · obtain ⟨r, rfl, r1, rfl, r2, rfl, r3, rfl, z, r4, rfl, rfl, u, rfl, hu⟩ := hv
          exact ⟨u, rfl, hu⟩
      · obtain ⟨a, rfl, vs, ha, u, rfl, hu⟩ := hv
        exact ⟨a, u, rfl, ha, hu⟩
theorem ep_gauge {E : XK} {σ : L2.St} {H : Hp} {ta : TA} {wv pv : V} {ws : List Int} {ps : List Pipe} {p : Pipe} (h : EvA ta σ H [wv, pv]) (hw : TupI H wv ws) (hp : PipeAt H pv p) (hW : WebOk ws ps) (hO : PipeOk ws.length p) : EvP (tCall sp_gauge [] E ta) σ H (fun v H1 => GaugeAt ws H1 v p) :=
  ep_call (ws, ps, p) h fun H1 e => ⟨wv, pv, rfl, hw.ex e, hp.tex (tex_of e), hW, hO⟩
/-! ### Web -/
def sp_w_begin (C : Addr) : Sp := fun vs H Q _ => ∃ x dx wv pv ws ps, vs = [.ref x, wv, pv] ∧ H x = some (.ins C dx []) ∧ TupI H wv ws ∧ PipesAt H pv ps ∧ WebOk ws ps ∧ ∀ H', ExB x H H' → WebAt C H' (.ref x) ws ps → Q .non H'
theorem paired_get2 {α β : Type} {F : α → β → Prop} : ∀ {xs : List α} {ys : List β}, xs.length = ys.length → (∀ (i : Nat) x y, xs[i]? = some x → ys[i]? = some y → F x y) → Paired F xs ys
  | [], [], _, _ => .nil
  | [], _ :: _, h, _ => nomatch h
  | _ :: _, [], h, _ => nomatch h
  | x :: xs, y :: ys, h, k => .cons (k 0 x y rfl rfl) (paired_get2 (Nat.succ.inj h) fun i a b ha hb => k (i + 1) a b ha hb)
theorem paired_range {β : Type} {F : Nat → β → Prop} {n : Nat} {ys : List β} (h : Paired F ((List.range n).filter fun _ => true) ys) : ys.length = n ∧ ∀ (i : Nat) y, ys[i]? = some y → F i y := by
  rw [List.filter_eq_self.mpr (fun _ _ => rfl)] at h
  have hl := Paired.length h
  rw [List.length_range] at hl
  refine ⟨hl.symm, fun i y hy => ?_⟩
  obtain ⟨x, hx, hf⟩ := paired_at h hy
  rw [List.getElem?_range (by rw [hl]; exact (List.getElem?_eq_some_iff.mp hy).1)] at hx
  cases hx
  exact hf
theorem beg_ok (T : Tops K mg C) : ∃ f fd, Meth K C "begin" f ∧ Binds K fd ["self", "widths", "pipes"] [] ∧ FnOk P w K mg base CX0 5 f fd ["self", "widths", "pipes"] (sp_w_begin C) := by
  obtain ⟨f, fd, hm, hF, hb⟩ := T.web.beg
  refine ⟨f, fd, hm, hb, hF.ok sc_w_begin (fun vs H Q E h => ?_) fun cdv A outer s H vs Q E hr h => ?_⟩
  · obtain ⟨x, dx, wv, pq, ws, ps, rfl, _⟩ := h; rfl
  · obtain ⟨x, dx, wv, pq, ws, ps, rfl, hx, hwv, hpv, hW, q⟩ := h
    refine ⟨_, (pss_cons (ps_fld (pv 0) (pv 1) rfl)
      (pss_cons (ps_fld (pv 0) (pv 2) rfl)
      (pss_one (ps_fld (pv 0) (pe_lc (own := [("pipe", 3)]) rfl sc_w_begin.nd (pi_tup (pv 2)) (blkOk_by (own := [("pipe", 3)]) (N := N_w_begin) (sc := defScope s_w_begin) (by decide +kernel)) (fun _ _ _ _ _ => (pg_name (i := 3) sc_w_begin.nd rfl (Or.inl rfl))) (fun _ _ _ _ _ => pts_nil) (fun _ _ _ _ _ => (pe_fn (has_gauge T) (hr.mono (by decide)) (by rfl) (pa_cons (pv 1) (pa_cons (pv 3) pa_nil))))) rfl)))), ?_⟩
    refine ⟨wv, rfl, .ref x, rfl, x, C, dx, [], rfl, hx, T.web.cls, T.web.n_widths, by decide, ?_⟩
    refine ⟨pq, rfl, .ref x, rfl, x, C, dx, _, rfl, upd_same, T.web.cls, T.web.n_pipes, by show 1 < 1000; decide, ?_⟩
    generalize hH1 : upd (upd H x (.ins C dx (putF "widths" wv []))) x (.ins C dx (putF "pipes" pq (putF "widths" wv []))) = H1
    have b1 : ExB x H H1 := by
      rw [← hH1]
      exact (exb_upd).mut
    have t1 : TEx H H1 := fun a xs h => b1 a _ (fun z => by rw [z, hx] at h; cases h) h
    have hx1 : H1 x = some (.ins C dx [("widths", wv), ("pipes", pq)]) := by
      rw [← hH1, upd_same]
      rfl
    obtain ⟨pp, pvs, rfl, hp, hps⟩ := hpv.tex t1
    have hwv1 := hwv.tex t1
    have hl4 := Paired.length hps
    have hl3 := hW.pip
    refine s_fldN (en_lc (fun _ => true) (fun i v H' => ∀ p, ps[i]? = some p → GaugeAt ws H' v p) (ei_tup (ev_var rfl) (st_of hp)) (by omega) (fun i v H3 H4 e h p hp => (h p hp).tex e) (fun i y H2 e hi hy => ⟨_, eg_name, rfl, fun H3 _ Q q => q H3 (Ex.refl H3), fun _ => ?_⟩)) fun l H2 hl e2 ⟨gs, hgs, hP⟩ => ?_
    · obtain ⟨p, hpi, hpa⟩ := paired_get' hps hy
      have hpo := hW.ok p (List.mem_of_getElem? hpi)
      refine (ep_gauge (ps := ps) (p := p) (by walk_at "ea") (hwv1.ex e) (hpa.tex (tex_of e)) hW hpo).imp fun v H3 e3 hv p' hp' => ?_
      rw [hpi] at hp'
      cases hp'
      exact hv
    · refine ⟨.ref x, rfl, x, C, dx, _, rfl, e2 x _ hx1, T.web.cls, T.web.n_gauges, by show 2 < 1000; decide, ?_⟩
      obtain ⟨gl1, gl2⟩ := paired_range hP
      have lx : l ≠ x := fun z => by
        rw [z, hx1] at hl
        cases hl
      have t3 : TEx H2 (upd H2 x (.ins C dx (putF "gauges" (.ref l) [("widths", wv), ("pipes", .ref pp)]))) := tex_upd (e2 x _ hx1) (fun _ z => nomatch z)
      refine q _ ((b1.trans (exb_of e2)).mut) ⟨x, dx, wv, .ref pp, l, gs, rfl, upd_same, (hwv1.ex e2).tex t3, ⟨pp, pvs, rfl, t3 pp _ (e2 pp _ hp), paired_imp (fun _ _ q => (q.tex (tex_of e2)).tex t3) hps⟩, ?_, ?_⟩
      · rw [upd_ne lx]
        exact hgs
      · exact paired_get2 (by omega) fun i v p hv hp => (gl2 i v hv p hp).tex t3
end
section
variable {X : Cx} {o e : Expr} {es : List Expr} {C : Addr} {to : TE} {ta : TA} {pos apos p : Pos}
theorem pe_begin (T : Tops X.K X.mg C) (hr : Room 5 X.A) (ho : PE X o to) (ha : PA X (e :: es) ta)
    (hst : starEach (e :: es) X.env = (false, eval e X.env) :: starEach es X.env := by rfl) (hpl : (backTo pos (starEach es X.env)).any (·.1) = false := by rfl) {pl : Sem Bool}
    (ht : eval (.Call (.Attribute o "begin" apos) (e :: es) [] pos) X.env = (do
      let ov ← eval o X.env
      standAt apos.atName
      let (f, first) ← holding [ov] (getMethod ov "begin" pl)
      callWith pos f first (backTo pos (starEach (e :: es) X.env)) (backToKw pos (keywordEach [] X.env))) := by rfl) : PE X (.Call (.Attribute o "begin" apos) (e :: es) [] pos) (tMeth C "begin" (sp_w_begin C) [] E0 to ta) := by
  obtain ⟨f, fd, hm, hb, F⟩ := beg_ok (P := X.prog) (w := X.w) (base := X.base) T
  exact pe_meth (pl := pl) ho T.web.cls hm F hr hb .nil pass0 ha hst hpl ht
end
section
variable {P : Program} {w : World} {K : PySem.W.Frag} {mg : Str → Option Value} {base : Heap} {C : Addr} {mgX : Str → Option Value}
local macro_rules | `(tactic| walk_at "rv") => `(tactic| first
  | exact rv_I0
  | exact rv_eq rfl
  | exact rv_ne rfl
  | exact rv_isN
  | exact rv_notN
  | (apply rv_I; (try dsimp only); first | omega | assumption | exact ⟨by omega, by omega⟩ | exact Or.inl ⟨by omega, by omega⟩ | exact Or.inr ⟨by omega, by omega⟩)
  | (apply rv_ix0; assumption; rfl)
  | (apply rv_ix1; assumption; rfl)
  | (apply rv_ix2; assumption; rfl)
  | (apply rv_ix4; assumption; rfl))
local macro_rules | `(tactic| walk_at "ea") => `(tactic| first
  | exact ea_nil
  | (apply ea_cons; walk_at "ev"; walk_at "ea"))
local macro_rules | `(tactic| walk_at "ev") => `(tactic| first
  | exact ev_c
  | (apply ev_var; rfl)
  | (apply ev_op; walk_at "ev"; walk_at "ev"; walk_at "rv")
  | (apply ev_un; walk_at "ev"; exact ru_neg)
  | (apply ev_isiII; walk_at "ea")
  | (apply ev_isiIB; walk_at "ea")
  | (apply ev_isiTT; assumption; walk_at "ea")
  | (apply ev_lenT; assumption; walk_at "ev")
  | (apply ev_lenL; assumption; walk_at "ev")
  | (apply ev_andV; walk_at "ev"; intro _; walk_at "ev")
  | (apply ev_orV; walk_at "ev"; intro _; walk_at "ev")
  | (apply ev_notV; walk_at "ev")
  | (apply ev_chain; walk_at "ev"; walk_at "ev"; walk_at "ev"; walk_at "rv"; walk_at "rv")
  | (apply ev_abs; walk_at "ea")
  | (apply ev_int; walk_at "ea"))
local macro_rules | `(tactic| walk_at "et") => `(tactic| first
  | (apply et_test; walk_at "ev")
  | (apply et_B; walk_at "ev")
  | (apply et_not; walk_at "et")
  | (apply et_and; walk_at "et"; intro _; walk_at "et")
  | (apply et_or; walk_at "et"; intro _; walk_at "et"))

local macro_rules | `(tactic| walk_at "ev") => `(tactic| ((with_reducible apply ev_is_integer); walk_at "ea"))
local macro_rules | `(tactic| walk_at "ev") => `(tactic| ((with_reducible apply ev_is_between); walk_at "ea"))
local macro_rules | `(tactic| walk_at "ev") => `(tactic| ((with_reducible apply ev_divisor); walk_at "ea"))
local macro_rules | `(tactic| walk_at "ev") => `(tactic| ((with_reducible apply ev_is_width); walk_at "ea"))
theorem init_ok (T : Tops K mg C) : ∃ f fd, Mk K C f ∧ Binds K fd ["self", "widths", "pipes"] [] ∧ FnOk P w K mg base CX0 6 f fd ["self", "widths", "pipes"] (sp_w_begin C) := by
  obtain ⟨f, fd, hm, hF, hb⟩ := T.web.ini
  refine ⟨f, fd, hm, hb, hF.ok sc_w_init (fun vs H Q E h => ?_) fun cdv A outer s H vs Q E hr h => ?_⟩
  · obtain ⟨x, dx, wv, pq, ws, ps, rfl, _⟩ := h; rfl
  · obtain ⟨x, dx, wv, pq, ws, ps, rfl, hx, hwv, hpv, hW, q⟩ := h
    refine ⟨_, (pss_cons (ps_if (pt_not (pt_val (pe_fn (has_are_widths T) (hr.mono (by decide)) (by rfl) (pa_cons (pv 1) pa_nil))))
        (pss_one ps_never)
        pss_nil)
      (pss_cons (ps_if (PW.pt (pw_or (pt_not (pt_val (pe_callB call_isi (by rfl) T.b_isinstance (by decide +kernel) (pa_cons (pv 2) (pa_cons (pe_bltn (v := .ty "tuple") (by rfl) T.b_tuple (by decide +kernel) rfl) pa_nil))))) (pw_or1 (pt_cmpR op_gt (pe_callB (r := rLenS K) call_len_seq (by rfl) T.b_len (by decide +kernel) (pa_cons (pv 2) pa_nil)) (pe_gint T.g_MOST_PIPES (by rfl)) (nomark _)))))
        (pss_one ps_never)
        pss_nil)
      (pss_cons (ps_for PassesOwn.never rfl (pi_enumT (by rfl) T.b_enumerate (pa_cons (pv 2) pa_nil)) (pg_tupK (n := 2) rfl rfl (pgs_cons (pg_name (i := 3) sc_w_init.nd rfl (Or.inl rfl)) (pgs_cons (pg_name (i := 4) sc_w_init.nd rfl (Or.inl rfl)) pgs_nil)))
        (pss_one (ps_if (pt_not (pt_val (pe_fn (has_is_pipe T) (hr.mono (by decide)) (by rfl) (pa_cons (pv 4) (pa_cons (pe_callB (r := rLenS K) call_len_seq (by rfl) T.b_len (by decide +kernel) (pa_cons (pv 1) pa_nil)) pa_nil)))))
          (pss_one ps_never)
          pss_nil)))
      (pss_one (ps_expr (pe_begin T (hr.mono (by decide)) (pv 0) (pa_cons (pv 1) (pa_cons (pv 2) pa_nil)))))))), ?_⟩
    obtain ⟨pp, pvs, rfl, hp, hps⟩ := id hpv
    have hl4 := Paired.length hps
    have hl3 := hW.pip
    refine q_when (b := false) (et_not (et_B (ev_are_widths (ps := ps) (by walk_at "ea") hwv hW))) (fun z => nomatch z) fun _ H1 e1 => ?_
    have hp1 := e1 pp _ hp
    refine q_when (b := false) ?_ (fun z => nomatch z) fun _ H2 e2 => ?_
    · apply et_is
      · walk_at "et"
      · simp
        omega
    have e12 := e1.trans e2
    obtain ⟨wp, rfl, hw⟩ := hwv
    refine q_forI (ei_enumT (ea_cons (ev_var rfl) ea_nil) (st_of (e12 pp _ hp))) fun H3 e3 => ⟨fun i σ' H' => Ex H3 H' ∧ ∃ x3 x4, σ' = [some (.ref x), some (.ref wp), some (.ref pp), x3, x4], ⟨Ex.refl _, _, _, rfl⟩, fun i σ' H' h => h.1, ?_, ?_⟩
    · rintro i y σ' H' H'' hi ⟨ex, x3, x4, rfl⟩ e4 ⟨Tz, z, rfl, hT, hz⟩
      obtain ⟨p, hpi, hpa⟩ := paired_get' hps hz
      have hpo := hW.ok p (List.mem_of_getElem? hpi)
      have ea := ((e12.trans e3).trans ex).trans e4
      refine eg_tup2 hT _ ?_
      refine s_when (b := false) (et_not (et_B (ev_is_pipe (p := p) (m := ws.length) (ea_cons (ev_var rfl) (ea_cons (ev_is (ev_lenT (ea wp _ hw) (ev_var rfl)) (by rw [List.length_map])) ea_nil)) (hpa.tex (tex_of ea)) hpo))) (fun z => nomatch z) fun _ H5 e5 => ⟨(ex.trans e4).trans e5, _, _, rfl⟩
    · rintro σ' H' ⟨ex, x3, x4, rfl⟩
      have ea := (e12.trans e3).trans ex
      refine ⟨_, rfl, x, dx, [], rfl, ea x _ hx, rfl, _, rfl, _, rfl, ?_⟩
      refine ⟨x, dx, .ref wp, .ref pp, ws, ps, rfl, ea x _ hx, ⟨wp, rfl, ea wp _ hw⟩, ⟨pp, pvs, rfl, ea pp _ hp, paired_imp (fun _ _ q => q.tex (tex_of ea)) hps⟩, hW, fun H5 b5 w5 => q H5 ((exb_of ea).trans b5) w5⟩
theorem ep_web {E : XK} {σ : L2.St} {H : Hp} {ta : TA} {wv pv : V} {ws : List Int} {ps : List Pipe} (h : EvA ta σ H [wv, pv]) (hw : TupI H wv ws) (hp : PipesAt H pv ps) (hW : WebOk ws ps) : EvP (tMake C (sp_w_begin C) [] E ta) σ H (fun v H1 => WebAt C H1 v ws ps) := fun H1 e Q q =>
  h H1 e _ fun H2 e2 x dx hx hdx hne => by
    have e3 : Ex H2 (upd (upd H2 dx (.own x)) x (.ins C dx [])) := (Ex.new hdx).mut hx
    refine ⟨x, dx, wv, pv, ws, ps, rfl, upd_same, hw.ex ((e.trans e2).trans e3), hp.tex (tex_of ((e.trans e2).trans e3)), hW, fun H' b w' => ⟨rfl, q _ _ (e2.trans fun a o ha => b a o (fun z => by rw [z, hx] at ha; cases ha) (e3 a o ha)) w'⟩⟩
end
section
variable {X : Cx} {o e : Expr} {es : List Expr} {C : Addr} {to : TE} {ta : TA} {pos apos p : Pos}
theorem pe_web (T : Tops X.K X.mg C) (hr : Room (6 + 1) X.A) (hg : Gl X "Web") (ha : PA X (e :: es) ta)
    (he : starEach (e :: es) X.env = (false, eval e X.env) :: starEach es X.env := by rfl) (hpl : (backTo pos (starEach es X.env)).any (·.1) = false := by rfl) : PE X (.Call (.Name "Web" p) (e :: es) [] pos) (tMake C (sp_w_begin C) [] E0 ta) := by
  obtain ⟨f, fd, hm, hb, F⟩ := init_ok (P := X.prog) (w := X.w) (base := X.base) T
  exact pe_make hm F hr hg T.web.gC hb .nil pass0 ha (by decide) he hpl
end
end TW
namespace TW
open PySem PySem.Spec PyProof.Rows L2 Evl
section
variable {S : Addr → Prop} {K : PySem.W.Frag} {σ : L2.St} {H H' : Hp} {te tl ta tb : TE} {v : V} {D : Ends} {tz : TS}
theorem ej_tup {a : Addr} {xs : List V} (h : Ev tl σ H (.ref a)) (hx : H a = some (.tup xs)) (na : ¬ S a) : EvJ S (iTup K tl) σ H xs.length (fun i x _ => xs[i]? = some x) := fun H1 e R k =>
  h H1 e _ fun H2 e2 => by
    have hx2 := (e.trans e2) a _ hx
    refine ⟨a, rfl, ⟨xs, st_of hx2⟩, k _ H2 e2 (fun i H3 hi e3 => ⟨xs, xs[i], st_of (e3 a _ na hx2), List.getElem?_eq_getElem hi⟩) (fun H3 e3 => ⟨xs, st_of (e3 a _ na hx2), Nat.le_refl _⟩)
      fun i H3 x H4 hi e3 y => ?_⟩
    obtain ⟨e4, y⟩ := y
    rw [e4]
    exact ⟨Ex.refl _, y xs (st_of (e3 a _ na hx2))⟩
theorem ep_catA {a : Addr} {xs ys : List V} (ha : Ev ta σ H (.ref a)) (hx : H a = some (.tup xs)) (hb : EvU tb σ H ys) (hl : xs.length + ys.length ≤ 100000) (hy : ys ≠ []) : EvP (tOp (rCatA K) ta tb) σ H (fun v H1 => ∃ p, v = .ref p ∧ H1 p = some (.tup (xs ++ ys))) := fun H1 e Q q =>
  ha H1 e _ fun H2 e2 => hb H2 (e.trans e2) _ fun b H3 _ e3 hb3 => ⟨a, b, xs, ys, rfl, rfl, st_of (((e.trans e2).trans e3) a _ hx), st_of hb3, sz_of hl, fun hz => q _ H3 (e2.trans e3) ⟨b, rfl, by
    rw [hz]
    exact hb3⟩, fun _ z => absurd z hy, fun _ _ p hp => q _ _ ((e2.trans e3).trans (Ex.new hp)) ⟨p, rfl, upd_same⟩⟩
theorem en_cat {a : Addr} {xs : List V} {P : List V → Hp → Prop} (ha : Ev ta σ H (.ref a)) (hx : H a = some (.lst xs)) (hb : EvN tb σ H (fun p H' => ∃ ys, H' p = some (.lst ys) ∧ P ys H')) (hl : ∀ ys H', P ys H' → xs.length + ys.length ≤ 100000) (hP : ∀ ys H1 H2, Ex H1 H2 → P ys H1 → P ys H2) :
    EvN (tOp rCat ta tb) σ H (fun p H' => ∃ ys, H' p = some (.lst (xs ++ ys)) ∧ P ys H') := fun H1 e Q q =>
  ha H1 e _ fun H2 e2 => hb H2 (e.trans e2) _ fun b H3 _ e3 ⟨ys, hb3, hp3⟩ => ⟨a, b, xs, ys, rfl, rfl, ((e.trans e2).trans e3) a _ hx, hb3, sz_of (hl ys H3 hp3), fun p hp => q p _ (fresh_back (e2.trans e3) hp) ((e2.trans e3).trans (Ex.new hp)) ⟨ys, upd_same, hP _ _ _ (Ex.new hp) hp3⟩⟩
theorem eu_eu {p : Addr} (h : EvN te σ H (fun p H' => H' p = some (.tup []))) : EvU te σ H [] := h
end
/-! ### which pipes are let run -/
def subsStep (acc : List (List Int)) (k : Int) : List (List Int) := acc ++ acc.map (· ++ [k])
def subsOf (ks : List Int) : List (List Int) := ks.foldl subsStep [[]]
theorem subs_len (ks : List Int) : ∀ acc : List (List Int), (ks.foldl subsStep acc).length = acc.length * 2 ^ ks.length := by
  induction ks with
  | nil => intro acc; simp
  | cons k r ih =>
    intro acc
    rw [List.foldl_cons, ih, List.length_cons, Nat.pow_succ]
    unfold subsStep
    rw [List.length_append, List.length_map, ← Nat.mul_two, Nat.mul_assoc, Nat.mul_comm 2]
theorem paired_append {α β : Type} {F : α → β → Prop} : ∀ {xs xs' : List α} {ys ys' : List β}, Paired F xs ys → Paired F xs' ys' → Paired F (xs ++ xs') (ys ++ ys')
  | _, _, _, _, .nil, h => h
  | _, _, _, _, .cons r s, h => .cons r (paired_append s h)
section
variable {P : Program} {w : World} {K : PySem.W.Frag} {mg : Str → Option Value} {base : Heap} {C : Addr} {mgX : Str → Option Value}
local macro_rules | `(tactic| walk_at "rv") => `(tactic| first
  | exact rv_I0
  | exact rv_eq rfl
  | exact rv_ne rfl
  | exact rv_isN
  | exact rv_notN
  | (apply rv_I; (try dsimp only); first | omega | assumption | exact ⟨by omega, by omega⟩ | exact Or.inl ⟨by omega, by omega⟩ | exact Or.inr ⟨by omega, by omega⟩)
  | (apply rv_ix0; assumption; rfl)
  | (apply rv_ix1; assumption; rfl)
  | (apply rv_ix2; assumption; rfl)
  | (apply rv_ix4; assumption; rfl))
local macro_rules | `(tactic| walk_at "ea") => `(tactic| first
  | exact ea_nil
  | (apply ea_cons; walk_at "ev"; walk_at "ea"))
local macro_rules | `(tactic| walk_at "ev") => `(tactic| first
  | exact ev_c
  | (apply ev_var; rfl)
  | (apply ev_op; walk_at "ev"; walk_at "ev"; walk_at "rv")
  | (apply ev_un; walk_at "ev"; exact ru_neg)
  | (apply ev_isiII; walk_at "ea")
  | (apply ev_isiIB; walk_at "ea")
  | (apply ev_isiTT; assumption; walk_at "ea")
  | (apply ev_lenT; assumption; walk_at "ev")
  | (apply ev_lenL; assumption; walk_at "ev")
  | (apply ev_andV; walk_at "ev"; intro _; walk_at "ev")
  | (apply ev_orV; walk_at "ev"; intro _; walk_at "ev")
  | (apply ev_notV; walk_at "ev")
  | (apply ev_chain; walk_at "ev"; walk_at "ev"; walk_at "ev"; walk_at "rv"; walk_at "rv")
  | (apply ev_abs; walk_at "ea")
  | (apply ev_int; walk_at "ea"))
local macro_rules | `(tactic| walk_at "et") => `(tactic| first
  | (apply et_test; walk_at "ev")
  | (apply et_B; walk_at "ev")
  | (apply et_not; walk_at "et")
  | (apply et_and; walk_at "et"; intro _; walk_at "et")
  | (apply et_or; walk_at "et"; intro _; walk_at "et"))

local macro_rules | `(tactic| walk_at "ev") => `(tactic| ((with_reducible apply ev_is_integer); walk_at "ea"))
local macro_rules | `(tactic| walk_at "ev") => `(tactic| ((with_reducible apply ev_is_between); walk_at "ea"))
local macro_rules | `(tactic| walk_at "ev") => `(tactic| ((with_reducible apply ev_divisor); walk_at "ea"))
local macro_rules | `(tactic| walk_at "ev") => `(tactic| ((with_reducible apply ev_is_width); walk_at "ea"))
abbrev sp_l_divisor : Sp := fsp (fun (a : Int × Int) vs _ => vs = [.int a.1, .int a.2] ∧ 0 ≤ a.1 ∧ 0 ≤ a.2) (fun a => IsV (.int (gcdI a.1 a.2)))
theorem has_l_divisor (T : Tops K mg C) : Has P w K mg base 1 "_law_divisor" ["_law_one", "_law_other"] sp_l_divisor := by
  refine T.d_l_divisor.has sc_l_divisor (fun vs H Q E h => ?_) (fun f cdv A outer s H vs Q E hr h => ?_)
  · obtain ⟨i, ⟨rfl, _⟩, _⟩ := h; rfl
  · obtain ⟨⟨a, b⟩, ⟨rfl, ha, hb⟩, q⟩ := h
    refine ⟨_, (pss_cons (ps_while PassesOwn.never (pt_cmpR op_gt (pv 1) pe_int (nomark _))
        (pss_one (ps_par (i := 0) (j := 1) rfl sc_l_divisor.nd rfl rfl (by decide) rfl rfl (pa_cons (pv 1) (pa_cons (pe_op op_mod (pe_callTy call_int1 (by rfl) T.b_int (by decide +kernel) (pa_cons (pv 0) pa_nil)) (pv 1)) pa_nil)) (by rfl))))
      (pss_one (ps_ret (pv 0)))), ?_⟩
    simp only at ha hb
    refine q_while (fun m σ' H' => ∃ x y : Int, σ' = [some (.int x), some (.int y)] ∧ 0 ≤ x ∧ 0 ≤ y ∧ Int.gcd x y = Int.gcd a b ∧ m = y.toNat ∧ Ex H H') _ ⟨_, _, rfl, ha, hb, rfl, rfl, Ex.refl H⟩ ?_
    rintro m σ' H' ⟨x, y, rfl, hx, hy, hg, rfl, e2⟩
    refine ⟨decide (0 < y), by walk_at "et", fun hb H2 e3 => ?_, fun hb H2 e3 => ?_⟩
    · have hy0 : 0 < y := of_decide_eq_true hb
      refine ⟨fun σ' H' => ∃ x' y' : Int, σ' = [some (.int x'), some (.int y')] ∧ 0 ≤ x' ∧ 0 ≤ y' ∧ Int.gcd x' y' = Int.gcd a b ∧ y' < y ∧ Ex H H', ?_, ?_⟩
      · rintro σ2 H2 ⟨x', y', rfl, h1, h2, h3, h4, h5⟩
        exact ⟨y'.toNat, by omega, x', y', rfl, h1, h2, h3, rfl, h5⟩
      · refine s_par (v := .int y) (x := .int (x % y)) (by walk_at "ea") fun H3 e4 => ⟨y, x % y, rfl, hy, Int.emod_nonneg _ (by omega), (gcd_step x y).trans hg, Int.emod_lt_of_pos _ hy0, (e2.trans e3).trans e4⟩
    · have hy0 : y = 0 := by
        have := of_decide_eq_false hb
        omega
      subst hy0
      apply s_retI
      · walk_at "ev"
      · exact q
      · exact (e2.trans e3)
      · rw [Int.gcd_zero] at hg
        show V.int x = V.int (Int.gcd a b : Int)
        rw [← hg]
        congr 1
        omega
theorem ev_l_divisor {E : XK} {σ : L2.St} {H : Hp} {ta : TA} {a b : Int} (h : EvA ta σ H [.int a, .int b]) (ha : 0 ≤ a ∧ 0 ≤ b) : Ev (tCall sp_l_divisor [] E ta) σ H (.int (gcdI a b)) := ev_callV (a, b) h (fun _ _ => ⟨rfl, ha⟩) fun _ _ p => p
abbrev sp_l_made : Sp := fsp (fun (a : Int × Int) vs _ => vs = [.int a.1, .int a.2] ∧ 0 < a.1 ∧ 0 < a.2 ∧ a.2 ≤ 100000) (fun a v H => FrAt H v (lowest a.1 a.2))
theorem has_l_made (T : Tops K mg C) : Has P w K mg base 2 "_law_made" ["_law_top", "_law_bottom"] sp_l_made := by
  refine T.d_l_made.has sc_l_made (fun vs H Q E h => ?_) (fun f cdv A outer s H vs Q E hr h => ?_)
  · obtain ⟨i, ⟨rfl, _⟩, _⟩ := h; rfl
  · obtain ⟨⟨a, b⟩, ⟨rfl, ha, hb, hb'⟩, q⟩ := h
    refine ⟨_, (pss_cons (ps_set (i := 2) sc_l_made.nd rfl (.inl rfl) (pe_fn (has_l_divisor T) (hr.mono (by decide)) (by rfl) (pa_cons (pe_callB call_abs (by rfl) T.b_abs (by decide +kernel) (pa_cons (pv 0) pa_nil)) (pa_cons (pv 1) pa_nil))))
      (pss_one (ps_ret (pe_tup (pa_cons (pe_op op_fdiv (pv 0) (pv 2)) (pa_cons (pe_op op_fdiv (pv 1) (pv 2)) pa_nil)))))), ?_⟩
    have g0 := gcdI_pos (a := a) hb
    have g1 := gcdI_le (a := a) hb
    simp only at ha hb hb' g0 g1
    refine q_asg (v := .int (gcdI a b)) (ev_l_divisor (ea_cons (ev_is (ev_abs (by walk_at "ea")) (by rw [if_neg (by omega)])) (by walk_at "ea")) ⟨by omega, by omega⟩) fun H1 e1 => ?_
    refine s_retU (xs := [.int (a / gcdI a b), .int (b / gcdI a b)]) (eu_tup (ea_cons ?_ (ea_cons ?_ ea_nil)) (by show 2 ≤ 100000; decide)) fun p H2 hp e2 h2 => q _ _ (e1.trans e2) ⟨p, rfl, h2⟩
    · exact ev_op (by walk_at "ev") (by walk_at "ev") (rv_I (show CDiv a (gcdI a b) from ⟨g0, by omega⟩))
    · exact ev_op (by walk_at "ev") (by walk_at "ev") (rv_I (show CDiv b (gcdI a b) from ⟨g0, by omega⟩))
theorem ep_l_made {E : XK} {σ : L2.St} {H : Hp} {ta : TA} {a b : Int} (h : EvA ta σ H [.int a, .int b]) (hb : 0 < a ∧ 0 < b ∧ b ≤ 100000) : EvP (tCall sp_l_made [] E ta) σ H (fun v H1 => FrAt H1 v (lowest a b)) := ep_call (a, b) h (fun _ _ => ⟨rfl, hb⟩)
abbrev sp_l_below : Sp := fsp (fun (a : (Int × Int) × (Int × Int)) vs H => ∃ v u, vs = [v, u] ∧ FrAt H v a.1 ∧ FrAt H u a.2 ∧ (-1000000000 < a.1.1 ∧ a.1.1 < 1000000000) ∧ (-1000000000 < a.2.1 ∧ a.2.1 < 1000000000)) (fun a => IsV (.bl (decide (a.1.1 * a.2.2 < a.2.1 * a.1.2))))
theorem has_l_below (T : Tops K mg C) : Has P w K mg base 1 "_law_below" ["_law_one", "_law_other"] sp_l_below := by
  refine T.d_l_below.has sc_l_below (fun vs H Q E h => ?_) (fun f cdv A outer s H vs Q E hr h => ?_)
  · obtain ⟨_, ⟨v, u, rfl, _⟩, _⟩ := h; rfl
  · obtain ⟨⟨⟨a, b⟩, ⟨c, d⟩⟩, ⟨v, u, rfl, ⟨p, rfl, hp⟩, ⟨p', rfl, hp'⟩, h1, h2⟩, q⟩ := h
    refine ⟨_, (pss_one (ps_ret (pe_cmpR op_lt (pe_op op_mul (pe_ix (r := rIxT K) ix_tup (pv 0) pe_int (fun _ _ => rfl)) (pe_ix (r := rIxT K) ix_tup (pv 1) pe_int (fun _ _ => rfl))) (pe_op op_mul (pe_ix (r := rIxT K) ix_tup (pv 1) pe_int (fun _ _ => rfl)) (pe_ix (r := rIxT K) ix_tup (pv 0) pe_int (fun _ _ => rfl))) (nomark _)))), ?_⟩
    simp only at hp hp' h1 h2
    have i0 : ∀ j v, ([.int a, .int b] : List V)[j]? = some v → RV (rIxT K) (.ref p) (.int ((j : Nat) : Int)) H v := fun j v e => rv_ixTt hp e
    have j0 : ∀ j v, ([.int c, .int d] : List V)[j]? = some v → RV (rIxT K) (.ref p') (.int ((j : Nat) : Int)) H v := fun j v e => rv_ixTt hp' e
    apply s_retI
    · apply ev_op
      · exact ev_op (ev_op (ev_var rfl) ev_c (i0 0 _ rfl)) (ev_op (ev_var rfl) ev_c (j0 1 _ rfl)) (rv_I (show CMul a d from .inl ⟨by omega, by omega⟩))
      · exact ev_op (ev_op (ev_var rfl) ev_c (j0 0 _ rfl)) (ev_op (ev_var rfl) ev_c (i0 1 _ rfl)) (rv_I (show CMul c b from .inl ⟨by omega, by omega⟩))
      · exact rv_I0
    · exact q
    · exact Ex.refl H
    · rfl
theorem ev_l_below {E : XK} {σ : L2.St} {H : Hp} {ta : TA} {v u : V} {f g : Int × Int} (h : EvA ta σ H [v, u]) (hf : FrAt H v f) (hg : FrAt H u g) (h1 : -1000000000 < f.1 ∧ f.1 < 1000000000) (h2 : -1000000000 < g.1 ∧ g.1 < 1000000000) : Ev (tCall sp_l_below [] E ta) σ H (.bl (decide (f.1 * g.2 < g.1 * f.2))) :=
  ev_callV (f, g) h (fun _ e => ⟨v, u, rfl, hf.ex (tex_of e), hg.ex (tex_of e), h1, h2⟩) fun _ _ p => p
theorem max1 (i : Int) : (if i > 1 then i else 1) = max 1 i := by omega
abbrev LetA := List (Int × Int) × (Int × Int) × (Int × Int)
abbrev sp_l_let : Sp := fsp (fun (a : LetA) vs H => ∃ sv u v, vs = [sv, u, v] ∧ StepsAt H sv a.1 ∧ (∀ f ∈ a.1, Good f) ∧ a.1.length ≤ 6 ∧ FrAt H u a.2.1 ∧ FrAt H v a.2.2 ∧ (0 ≤ a.2.1.2 ∧ a.2.1.2 ≤ 3) ∧ (0 ≤ a.2.2.2 ∧ a.2.2.2 ≤ 3)) (fun a => IsV (.int (letAt a.1 a.2.1.1 a.2.1.2 a.2.2.1 a.2.2.2)))
theorem has_l_let (T : Tops K mg C) : Has P w K mg base 1 "_law_let" ["_law_steps", "_law_one", "_law_other"] sp_l_let := by
  refine T.d_l_let.has sc_l_let (fun vs H Q E h => ?_) (fun f cdv A outer s H vs Q E hr h => ?_)
  · obtain ⟨_, ⟨_, _, _, rfl, _⟩, _⟩ := h; rfl
  · obtain ⟨⟨fs, ⟨a, wa⟩, ⟨b, wb⟩⟩, ⟨sv, u, v, rfl, ⟨sp, svs, rfl, hs, hP⟩, hG, hl, ⟨p1, rfl, h1⟩, ⟨p2, rfl, h2⟩, hwa, hwb⟩, q⟩ := h
    refine ⟨_, (pss_cons (ps_par (i := 3) (j := 4) rfl sc_l_let.nd rfl rfl (by decide) rfl rfl (pa_cons (pe_op op_mul (pe_ix (r := rIxT K) ix_tup (pv 1) pe_int (fun _ _ => rfl)) (pe_callB (call_max2 rfl) (by rfl) T.b_max (by decide +kernel) (pa_cons pe_int (pa_cons (pe_ix (r := rIxT K) ix_tup (pv 2) pe_int (fun _ _ => rfl)) pa_nil)))) (pa_cons (pe_op op_mul (pe_ix (r := rIxT K) ix_tup (pv 2) pe_int (fun _ _ => rfl)) (pe_callB (call_max2 rfl) (by rfl) T.b_max (by decide +kernel) (pa_cons pe_int (pa_cons (pe_ix (r := rIxT K) ix_tup (pv 1) pe_int (fun _ _ => rfl)) pa_nil)))) pa_nil)) (by rfl))
      (pss_cons (ps_set (i := 5) sc_l_let.nd rfl (.inl rfl) (pe_op op_mul (pe_callB (call_max2 rfl) (by rfl) T.b_max (by decide +kernel) (pa_cons pe_int (pa_cons (pe_ix (r := rIxT K) ix_tup (pv 1) pe_int (fun _ _ => rfl)) pa_nil))) (pe_callB (call_max2 rfl) (by rfl) T.b_max (by decide +kernel) (pa_cons pe_int (pa_cons (pe_ix (r := rIxT K) ix_tup (pv 2) pe_int (fun _ _ => rfl)) pa_nil)))))
      (pss_cons (ps_set (i := 6) sc_l_let.nd rfl (.inl rfl) pe_int)
      (pss_cons (ps_for PassesOwn.never rfl (pi_tup (pv 0)) (pg_tupK (n := 2) rfl rfl (pgs_cons (pg_name (i := 7) sc_l_let.nd rfl (Or.inl rfl)) (pgs_cons (pg_name (i := 8) sc_l_let.nd rfl (Or.inl rfl)) pgs_nil)))
        (pss_one (ps_if (pt_cmpR op_le (pe_op op_mul (pv 7) (pv 5)) (pe_op op_mul (pe_callB call_abs (by rfl) T.b_abs (by decide +kernel) (pa_cons (pe_op op_sub (pv 3) (pv 4)) pa_nil)) (pv 8)) (nomark _))
          (pss_one (ps_set (i := 6) sc_l_let.nd rfl (.inl rfl) (pe_op op_add (pv 6) pe_int)))
          pss_nil)))
      (pss_one (ps_ret (pe_ifExp (pt_cmpR op_gt (pv 3) (pv 4) (nomark _)) (pv 6) (pe_un un_neg (pv 6))))))))), ?_⟩
    simp only at hs hP hG hl h1 h2 hwa hwb
    have m1 : 1 ≤ max 1 wa ∧ max 1 wa ≤ 3 := by omega
    have m2 : 1 ≤ max 1 wb ∧ max 1 wb ≤ 3 := by omega
    refine q_par (v := .int (letHigh a wb)) (x := .int (letHigh b wa)) (ea_cons (ev_op (z := .int (letHigh a wb)) (x := .int a) (y := .int (max 1 wb)) (ev_op (ev_var rfl) ev_c (rv_ix0 h1 rfl)) (ev_is (ev_max2 ev_c (ev_op (ev_var rfl) ev_c (rv_ix1 h2 rfl))) (by rw [max1])) (rv_I (.inr ⟨by omega, by omega⟩)))
      (ea_cons (ev_op (z := .int (letHigh b wa)) (x := .int b) (y := .int (max 1 wa)) (ev_op (ev_var rfl) ev_c (rv_ix0 h2 rfl)) (ev_is (ev_max2 ev_c (ev_op (ev_var rfl) ev_c (rv_ix1 h1 rfl))) (by rw [max1])) (rv_I (.inr ⟨by omega, by omega⟩))) ea_nil)) fun H1 e1 => ?_
    refine q_asg (v := .int (letScale wa wb)) (ev_op (x := .int (max 1 wa)) (y := .int (max 1 wb)) (ev_is (ev_max2 ev_c (ev_op (ev_var rfl) ev_c (rv_ix1 (e1 _ _ h1) rfl))) (by rw [max1])) (ev_is (ev_max2 ev_c (ev_op (ev_var rfl) ev_c (rv_ix1 (e1 _ _ h2) rfl))) (by rw [max1])) (rv_I (.inr ⟨by omega, by omega⟩))) fun H2 e2 => ?_
    refine q_asg (v := .int 0) ev_c fun H3 e3 => ?_
    have e13 := (e1.trans e2).trans e3
    have hs3 := e13 sp _ hs
    have hlen := Paired.length hP
    have sc1 : 1 ≤ letScale wa wb ∧ letScale wa wb ≤ 9 := by
      unfold letScale
      have h1 : max 1 wa = 1 ∨ max 1 wa = 2 ∨ max 1 wa = 3 := by omega
      have h2 : max 1 wb = 1 ∨ max 1 wb = 2 ∨ max 1 wb = 3 := by omega
      rcases h1 with h1 | h1 | h1 <;> rcases h2 with h2 | h2 | h2 <;> rw [h1, h2] <;> decide
    refine q_forI (ei_tup (ev_var rfl) (st_of hs3)) fun H4 e4 => ⟨fun i σ' H' => Ex H4 H' ∧ ∃ x7 x8, σ' = [some (.ref sp), some (.ref p1), some (.ref p2), some (.int (letHigh a wb)), some (.int (letHigh b wa)), some (.int (letScale wa wb)), some (.int (letCount (fs.take i) (letScale wa wb) (absI (letHigh a wb - letHigh b wa)) : Int)), x7, x8],
      ⟨Ex.refl _, _, _, rfl⟩, fun i σ' H' h => h.1, ?_, ?_⟩
    · rintro i x σ' H' H'' hi ⟨ex, x7, x8, rfl⟩ e5 hx
      obtain ⟨f, hf, fa, rfl, hfa⟩ := paired_get' hP hx
      have hGf := hG f (List.mem_of_getElem? hf)
      have e := ((e13.trans e4).trans ex).trans e5
      refine eg_tup2 (e fa _ hfa) _ ?_
      have hc : letCount (fs.take (i + 1)) (letScale wa wb) (absI (letHigh a wb - letHigh b wa)) = letCount (fs.take i) (letScale wa wb) (absI (letHigh a wb - letHigh b wa)) + if f.1 * letScale wa wb ≤ absI (letHigh a wb - letHigh b wa) * f.2 then 1 else 0 := by
        unfold letCount
        rw [List.take_add_one, hf, Option.toList_some, List.filter_append, List.length_append, List.filter_cons, List.filter_nil]
        simp only [decide_eq_true_eq]
        split <;> rfl
      have g1 := hGf.1
      have g2 := hGf.2.1
      have g3 := hGf.2.2.1
      have g4 := hGf.2.2.2.1
      refine s_when (b := decide (f.1 * letScale wa wb ≤ absI (letHigh a wb - letHigh b wa) * f.2)) (et_test (ev_op (ev_op (x := .int f.1) (y := .int (letScale wa wb)) (ev_var rfl) (ev_var rfl) (rv_I (.inr ⟨by omega, by omega⟩))) (ev_op (x := .int (absI (letHigh a wb - letHigh b wa))) (y := .int f.2) (ev_abs (i := letHigh a wb - letHigh b wa) (ea_cons (ev_op (ev_var rfl) (ev_var rfl) rv_I0) ea_nil)) (ev_var rfl) (rv_I (.inr ⟨by omega, by omega⟩))) rv_I0)) (fun hb H5 e5' => ?_) (fun hb H5 e5' => ?_)
      · refine s_asg (ev_op (ev_var rfl) ev_c rv_I0) fun H6 e6 => ⟨((ex.trans e5).trans e5').trans e6, some (.int f.1), some (.int f.2), ?_⟩
        rw [hc, if_pos (of_decide_eq_true hb)]
        rfl
      · refine ⟨(ex.trans e5).trans e5', some (.int f.1), some (.int f.2), ?_⟩
        rw [hc, if_neg (of_decide_eq_false hb)]
        rfl
    · rintro σ' H' ⟨ex, x7, x8, rfl⟩
      rw [List.take_of_length_le (by omega)]
      apply s_retI
      · exact ev_if (v := .int (letAt fs a wa b wb)) (b := decide (letHigh b wa < letHigh a wb)) (et_test (ev_op (ev_var rfl) (ev_var rfl) rv_I0)) (fun hb => ev_is (ev_var rfl) (by
          unfold letAt
          rw [if_pos (of_decide_eq_true hb)])) (fun hb => ev_is (ev_un (ev_var rfl) ru_neg) (by
          unfold letAt
          rw [if_neg (of_decide_eq_false hb)]))
      · exact q
      · exact (e13.trans e4).trans ex
      · rfl
end
end TW
namespace TW
open PySem PySem.Spec PyProof.Rows L2 Evl
def PreL (a : WPF) (wv pv fv : V) (H : Hp) : Prop := TupI H wv a.1 ∧ PipesAt H pv a.2.1 ∧ TupI H fv a.2.2 ∧ WebOk a.1 a.2.1 ∧ FillOk a.1 a.2.2
theorem PreL.tex {a : WPF} {wv pv fv : V} {H H' : Hp} (e : TEx H H') (h : PreL a wv pv fv H) : PreL a wv pv fv H' := ⟨h.1.tex e, h.2.1.tex e, h.2.2.1.tex e, h.2.2.2⟩
theorem PreL.ex {a : WPF} {wv pv fv : V} {H H' : Hp} (e : Ex H H') (h : PreL a wv pv fv H) : PreL a wv pv fv H' := h.tex (tex_of e)
theorem int_cut {ps : List Pipe} {i : Nat} {p : Pipe} (h : ps[i]? = some p) {ws fill : List Int} : flowsAt ws (ps.take (i + 1)) fill = flowsAt ws (ps.take i) fill ++ [flowAt ws fill p] := by
  unfold flowsAt
  rw [List.take_add_one, h, Option.toList_some, List.map_append]
  rfl
section
variable {P : Program} {w : World} {K : PySem.W.Frag} {mg : Str → Option Value} {base : Heap} {C : Addr} {mgX : Str → Option Value}
local macro_rules | `(tactic| walk_at "rv") => `(tactic| first
  | exact rv_I0
  | exact rv_eq rfl
  | exact rv_ne rfl
  | exact rv_isN
  | exact rv_notN
  | (apply rv_I; (try dsimp only); first | omega | assumption | exact ⟨by omega, by omega⟩ | exact Or.inl ⟨by omega, by omega⟩ | exact Or.inr ⟨by omega, by omega⟩)
  | (apply rv_ix0; assumption; rfl)
  | (apply rv_ix1; assumption; rfl)
  | (apply rv_ix2; assumption; rfl)
  | (apply rv_ix4; assumption; rfl))
local macro_rules | `(tactic| walk_at "ea") => `(tactic| first
  | exact ea_nil
  | (apply ea_cons; walk_at "ev"; walk_at "ea"))
local macro_rules | `(tactic| walk_at "ev") => `(tactic| first
  | exact ev_c
  | (apply ev_var; rfl)
  | (apply ev_op; walk_at "ev"; walk_at "ev"; walk_at "rv")
  | (apply ev_un; walk_at "ev"; exact ru_neg)
  | (apply ev_isiII; walk_at "ea")
  | (apply ev_isiIB; walk_at "ea")
  | (apply ev_isiTT; assumption; walk_at "ea")
  | (apply ev_lenT; assumption; walk_at "ev")
  | (apply ev_lenL; assumption; walk_at "ev")
  | (apply ev_andV; walk_at "ev"; intro _; walk_at "ev")
  | (apply ev_orV; walk_at "ev"; intro _; walk_at "ev")
  | (apply ev_notV; walk_at "ev")
  | (apply ev_chain; walk_at "ev"; walk_at "ev"; walk_at "ev"; walk_at "rv"; walk_at "rv")
  | (apply ev_abs; walk_at "ea")
  | (apply ev_int; walk_at "ea"))
local macro_rules | `(tactic| walk_at "et") => `(tactic| first
  | (apply et_test; walk_at "ev")
  | (apply et_B; walk_at "ev")
  | (apply et_not; walk_at "et")
  | (apply et_and; walk_at "et"; intro _; walk_at "et")
  | (apply et_or; walk_at "et"; intro _; walk_at "et"))

local macro_rules | `(tactic| walk_at "ev") => `(tactic| ((with_reducible apply ev_is_integer); walk_at "ea"))
local macro_rules | `(tactic| walk_at "ev") => `(tactic| ((with_reducible apply ev_is_between); walk_at "ea"))
local macro_rules | `(tactic| walk_at "ev") => `(tactic| ((with_reducible apply ev_divisor); walk_at "ea"))
local macro_rules | `(tactic| walk_at "ev") => `(tactic| ((with_reducible apply ev_is_width); walk_at "ea"))
abbrev sp_l_flows : Sp := fsp (fun (a : WPF) vs H => ∃ wv pq fv, vs = [wv, pq, fv] ∧ PreL a wv pq fv H) (fun a => NewL (vI (flowsAt a.1 a.2.1 a.2.2)))
theorem has_l_flows (T : Tops K mg C) : Has P w K mg base 2 "_law_flows" ["_law_widths", "_law_pipes", "_law_filling_here"] sp_l_flows := by
  refine T.d_l_flows.has sc_l_flows (fun vs H Q E h => ?_) (fun f cdv A outer s H vs Q E hr h => ?_)
  · obtain ⟨_, ⟨_, _, _, rfl, _⟩, _⟩ := h; rfl
  · obtain ⟨⟨ws, ps, fill⟩, ⟨wv, pq, fv, rfl, ⟨wp, rfl, hw⟩, ⟨pp, pvs, rfl, hp, hps⟩, ⟨fp, rfl, hf⟩, hW, hF⟩, q⟩ := h
    refine ⟨_, (pss_cons (ps_set (i := 3) sc_l_flows.nd rfl (.inl rfl) (pe_lst pa_nil))
      (pss_cons (ps_for PassesOwn.never rfl (pi_tup (pv 1)) (pg_tupK (n := 3) rfl rfl (pgs_cons (pg_name (i := 4) sc_l_flows.nd rfl (Or.inl rfl)) (pgs_cons (pg_name (i := 5) sc_l_flows.nd rfl (Or.inl rfl)) (pgs_cons (pg_name (i := 6) sc_l_flows.nd rfl (Or.inl rfl)) pgs_nil))))
        (pss_one (ps_expr (pe_bm PySem.F.plainAttrs_list PySem.F.slot_list_append PySem.F.type_list_append mt_append (pv 3) (pa_cons (pe_fn (has_l_let T) (hr.mono (by decide)) (by rfl) (pa_cons (pv 6) (pa_cons (pe_tup (pa_cons (pe_ix (r := rIxT K) ix_tup (pv 2) (pv 4) (fun _ _ => rfl)) (pa_cons (pe_ix (r := rIxT K) ix_tup (pv 0) (pv 4) (fun _ _ => rfl)) pa_nil))) (pa_cons (pe_tup (pa_cons (pe_ix (r := rIxT K) ix_tup (pv 2) (pv 5) (fun _ _ => rfl)) (pa_cons (pe_ix (r := rIxT K) ix_tup (pv 0) (pv 5) (fun _ _ => rfl)) pa_nil))) pa_nil)))) pa_nil)))))
      (pss_one (ps_ret (pv 3))))), ?_⟩
    simp only at hw hp hps hf hW hF
    have hl := hW.len
    have hl2 := hF.len
    have hl3 := hW.pip
    have hl4 := Paired.length hps
    refine q_asgL (xs := []) (el_lst ea_nil (by show 0 ≤ 100000; decide)) fun D H1 hD e1 h1 => ?_
    have nD : ∀ {b o}, H b = some o → b ≠ D := fun {b o} hb z => by rw [z, hD] at hb; cases hb
    refine q_forJ (S := (· = D)) (ej_tup (ev_var rfl) (e1 pp _ hp) (nD hp)) fun H2 e2 =>
      ⟨fun i σ' H' => ExS (· = D) H2 H' ∧ (∃ x4 x5 x6, σ' = [some (.ref wp), some (.ref pp), some (.ref fp), some (.ref D), x4, x5, x6]) ∧ H' D = some (.lst (vI (flowsAt ws (ps.take i) fill))), ⟨ExS.refl _, ⟨_, _, _, rfl⟩, e2 D _ h1⟩, fun i σ' H' h => h.1, ?_, ?_⟩
    · rintro i x σ' H' H'' hi ⟨ex, ⟨x4, x5, x6, rfl⟩, hL⟩ e3 hx
      obtain ⟨p, hpi, pa, sv, rfl, hpa, hsv⟩ := paired_get' hps hx
      have hpo := hW.ok p (List.mem_of_getElem? hpi)
      have ea : ∀ b o, H b = some o → H'' b = some o := fun b o hb => e3 b _ (ex b _ (nD hb) (e2 b _ (e1 b _ hb)))
      have ea : Ex H H'' := ea
      refine eg_tup3 (ea pa _ hpa) _ ?_
      have hwi := ea wp _ hw
      have hfi := ea fp _ hf
      have hw1 := hW.w p.1
      have hw2 := hW.w p.2.1
      refine s_app (xs := vI (flowsAt ws (ps.take i) fill)) (v := .int (flowAt ws fill p)) (e3 D _ hL) (ev_var rfl) (ev_is (ev_callQ (p.2.2, (wd fill p.1, wd ws p.1), (wd fill p.2.1, wd ws p.2.1)) (eq_ev (x := sv) (ev_var rfl) (eq_cons (Pr := fun u r H4 => ∃ v, r = [v] ∧ FrAt H4 u (wd fill p.1, wd ws p.1) ∧ FrAt H4 v (wd fill p.2.1, wd ws p.2.1)) (epU_of (eu_tup (vs := [.int (wd fill p.1), .int (wd ws p.1)]) (ea_cons (ev_op (ev_var rfl) (ev_var rfl) (rv_ixTt hfi (vI_get (by omega)))) (ea_cons (ev_op (ev_var rfl) (ev_var rfl) (rv_ixTt hwi (vI_get (by omega)))) ea_nil)) (by show 2 ≤ 100000; decide))) fun u H4 e4 hu => ?_)) (fun vs H4 e4 hv => ?_) fun _ _ hz => hz) ?_) ?_ fun H4 e4 => ⟨?_, ⟨_, _, _, rfl⟩, ?_⟩
      · obtain ⟨u1, rfl, hu1⟩ := hu
        refine (eq_one (epU_of (eu_tup (vs := [.int (wd fill p.2.1), .int (wd ws p.2.1)]) (ea_cons (ev_op (ev_var rfl) (ev_var rfl) (rv_ixTt (e4 fp _ hfi) (vI_get (by omega)))) (ea_cons (ev_op (ev_var rfl) (ev_var rfl) (rv_ixTt (e4 wp _ hwi) (vI_get (by omega)))) ea_nil)) (by show 2 ≤ 100000; decide)))).imp fun vs H5 e5 h5 => ?_
        obtain ⟨y, rfl, u2, rfl, hu2⟩ := h5
        exact ⟨_, rfl, ⟨u1, rfl, e5 u1 _ hu1⟩, ⟨u2, rfl, hu2⟩⟩
      · obtain ⟨r, rfl, u, r2, rfl, v, rfl, h1, h2⟩ := hv
        exact ⟨sv, u, v, rfl, hsv.ex (tex_of (ea.trans e4)), hpo.2.2.1, hpo.2.2.2.2.1, h1, h2, hw1, hw2⟩
      · exact congrArg V.int (let_flow hW hF hpo.2.2)
      · have hti : (ps.take i).length ≤ 3 := by
          rw [List.length_take]
          omega
        have := flows_len ws (ps.take i) fill
        rw [List.length_map]
        omega
      · exact ((ex.trans (exs_of e3)).trans (exs_of e4)).mut rfl
      · rw [upd_same, int_cut hpi]
        simp [vI]
    · rintro σ' H' ⟨ex, ⟨x4, x5, x6, rfl⟩, hL⟩
      refine s_ret (v := .ref D) (ev_var rfl) fun H3 e3 => q _ _ ?_ ⟨D, rfl, ?_⟩
      · exact (ExS.ex (S := (· = D)) (((exs_of (e1.trans e2)).trans ex).trans (exs_of e3)) (fun a h => by rw [h]; exact hD))
      · rw [e3 D _ hL, List.take_of_length_le (by omega)]
theorem ep_l_flows {E : XK} {σ : L2.St} {H : Hp} {ta : TA} {wv pq fv : V} (a : WPF) (h : EvA ta σ H [wv, pq, fv]) (hp : PreL a wv pq fv H) : EvP (tCall sp_l_flows [] E ta) σ H (NewL (vI (flowsAt a.1 a.2.1 a.2.2))) := ep_call a h fun _ e => ⟨wv, pq, fv, rfl, hp.ex e⟩
theorem mov_len (xs : List (Pipe × Int)) (f : List Int) : (xs.foldl movStep f).length = f.length := by
  induction xs generalizing f with
  | nil => rfl
  | cons x r ih => rw [List.foldl_cons, ih]; unfold movStep; rw [addAt_len, addAt_len]
abbrev sp_l_moved : Sp := fsp (fun (a : WPF × List Int) vs H => ∃ wv pq fv nv, vs = [wv, pq, fv, nv] ∧ PreL a.1 wv pq fv H ∧ LstI H nv a.2 ∧ a.2.length = a.1.2.1.length) (fun a v H => TupI H v (movedAt a.1.1 a.1.2.1 a.1.2.2 a.2))
theorem has_l_moved (T : Tops K mg C) : Has P w K mg base 1 "_law_moved" ["_law_widths", "_law_pipes", "_law_filling_here", "_law_numbers"] sp_l_moved := by
  refine T.d_l_moved.has sc_l_moved (fun vs H Q E h => ?_) (fun f cdv A outer s H vs Q E hr h => ?_)
  · obtain ⟨_, ⟨_, _, _, _, rfl, _⟩, _⟩ := h; rfl
  · obtain ⟨⟨⟨ws, ps, fill⟩, ns⟩, ⟨wv, pq, fv, nv, rfl, ⟨⟨wp, rfl, hw⟩, ⟨pp, pvs, rfl, hp, hps⟩, ⟨fp, rfl, hf⟩, hW, hF⟩, ⟨np, rfl, hn⟩, hnl⟩, q⟩ := h
    refine ⟨_, (pss_cons (ps_set (i := 4) sc_l_moved.nd rfl (.inl rfl) (pe_callTy call_list_of (by rfl) T.b_list (by decide +kernel) (pa_cons (pv 2) pa_nil)))
      (pss_cons (ps_for PassesOwn.never rfl (pi_zip2 .t .l (by rfl) T.b_zip (pa_cons (pv 1) (pa_cons (pv 3) pa_nil))) (pg_tupK (n := 2) rfl rfl (pgs_cons (pg_name (i := 5) sc_l_moved.nd rfl (Or.inl rfl)) (pgs_cons (pg_name (i := 6) sc_l_moved.nd rfl (Or.inl rfl)) pgs_nil)))
        (pss_cons (ps_asg (pe_op op_sub (pe_ix (r := rIxL K) ix_list (pv 4) (pe_ix (r := rIxT K) ix_tup (pv 5) pe_int (fun _ _ => rfl)) (fun _ _ => rfl)) (pv 6)) (pg_sub (pv 4) (pe_ix (r := rIxT K) ix_tup (pv 5) pe_int (fun _ _ => rfl)) set_list))
        (pss_one (ps_asg (pe_op op_add (pe_ix (r := rIxL K) ix_list (pv 4) (pe_ix (r := rIxT K) ix_tup (pv 5) pe_int (fun _ _ => rfl)) (fun _ _ => rfl)) (pv 6)) (pg_sub (pv 4) (pe_ix (r := rIxT K) ix_tup (pv 5) pe_int (fun _ _ => rfl)) set_list)))))
      (pss_one (ps_ret (pe_callTy call_tuple_of (by rfl) T.b_tuple (by decide +kernel) (pa_cons (pe_lc (own := [("_law_water", 7), ("_law_width", 8)]) rfl sc_l_moved.nd (pi_zip2 .l .t (by rfl) T.b_zip (pa_cons (pv 4) (pa_cons (pv 0) pa_nil))) (blkOk_by (own := [("_law_water", 7), ("_law_width", 8)]) (N := N_l_moved) (sc := defScope s_l_moved) (by decide +kernel)) (fun _ _ _ _ _ => (pg_tupK (n := 2) rfl rfl (pgs_cons (pg_name (i := 7) sc_l_moved.nd rfl (Or.inl rfl)) (pgs_cons (pg_name (i := 8) sc_l_moved.nd rfl (Or.inl rfl)) pgs_nil)))) (fun _ _ _ _ _ => pts_nil) (fun _ _ _ _ _ => (pe_ifExp (pt_cmpR op_gt (pv 8) pe_int (nomark _)) (pv 7) pe_int))) pa_nil)))))), ?_⟩
    simp only at hw hp hps hf hW hF hn hnl
    have hl := hW.len
    have hl2 := hF.len
    have hl3 := hW.pip
    have hl4 := Paired.length hps
    have elT : EvL (tCB (rListS K) (tCons (tVar 2) tNil)) [some (.ref wp), some (.ref pp), some (.ref fp), some (.ref np), none, none, none, none, none] H (vI fill) := fun H1 e Q q => ⟨_, rfl, fp, vI fill, rfl, Or.inr (st_of (e fp _ hf)), fun l hl => q l _ hl (Ex.new hl) upd_same⟩
    refine q_asgL (xs := vI fill) elT fun D H1 hD e1 h1 => ?_
    have nD : ∀ {b o}, H b = some o → b ≠ D := fun {b o} hb z => by rw [z, hD] at hb; cases hb
    refine q_forJ (S := (· = D)) (ej_zip2 (k1 := .t) (k2 := .l) (n := ps.length) (ea_cons (ev_var rfl) (ea_cons (ev_var rfl) ea_nil)) (xs := pvs) (ys := vI ns) (e1 pp _ hp) (e1 np _ hn) (nD hp) (nD hn) (by simp; omega)) fun H2 e2 =>
      ⟨fun i σ' H' => ExS (· = D) H2 H' ∧ (∃ x5 x6 x7 x8, σ' = [some (.ref wp), some (.ref pp), some (.ref fp), some (.ref np), some (.ref D), x5, x6, x7, x8]) ∧ H' D = some (.lst (vI (((ps.zip ns).take i).foldl movStep fill))),
        ⟨ExS.refl _, ⟨_, _, _, _, rfl⟩, by rw [e2 D _ h1]; simp⟩, fun i σ' H' h => h.1, ?_, ?_⟩
    · rintro i x σ' H' H'' hi ⟨ex, ⟨x5, x6, x7, x8, rfl⟩, hL⟩ e3 ⟨Tz, y1, y2, rfl, hT, hy1, hy2⟩
      obtain ⟨p, hpi, pa, sv, rfl, hpa, hsv⟩ := paired_get' hps hy1
      rw [vI_get (by omega)] at hy2
      cases hy2
      have hz : (ps.zip ns)[i]? = some (p, wd ns i) := by
        rw [List.getElem?_zip_eq_some]
        exact ⟨hpi, wd_get (by omega)⟩
      have hpo := hW.ok p (List.mem_of_getElem? hpi)
      have hpa := e3 pa _ (ex pa _ (nD hpa) (e2 pa _ (e1 pa _ hpa)))
      have hL3 := e3 D _ hL
      generalize hF' : ((ps.zip ns).take i).foldl movStep fill = F at hL hL3
      have hFl : F.length = ws.length := by rw [← hF', mov_len]; omega
      refine eg_tup2 hT _ ?_
      refine q_setL (j := p.1) (v := .int (wd F p.1 - wd ns i)) hL3 (ev_op (ev_op (ev_var rfl) (ev_op (ev_var rfl) ev_c (rv_ix0 hpa rfl)) (rv_ixLl hL3 (vI_get (by omega)))) (ev_var rfl) rv_I0) (ev_var rfl) (ev_op (ev_var rfl) ev_c (rv_ix0 hpa rfl)) (by rw [List.length_map]; omega) fun H4 e4 => ?_
      have u1 : (upd H4 D (.lst ((vI F).set p.1 (.int (wd F p.1 - wd ns i))))) D = some (.lst (vI (addAt F p.1 (-(wd ns i))))) := by
        rw [upd_same, ← vI_add]
        rfl
      have paD : pa ≠ D := fun z => by
        rw [z, hL3] at hpa
        cases hpa
      have hpa5 : (upd H4 D (.lst ((vI F).set p.1 (.int (wd F p.1 - wd ns i))))) pa = some (.tup [.int (p.1 : Int), .int (p.2.1 : Int), sv]) := by
        rw [upd_ne paD]
        exact e4 pa _ hpa
      refine s_setL (j := p.2.1) (v := .int (wd (addAt F p.1 (-(wd ns i))) p.2.1 + wd ns i)) u1 (ev_op (ev_op (ev_var rfl) (ev_op (ev_var rfl) ev_c (rv_ix1 hpa5 rfl)) (rv_ixLl u1 (vI_get (by rw [addAt_len]; omega)))) (ev_var rfl) rv_I0) (ev_var rfl) (ev_op (ev_var rfl) ev_c (rv_ix1 hpa5 rfl)) (by rw [List.length_map, addAt_len]; omega) fun H5 e5 => ⟨?_, ⟨_, _, _, _, rfl⟩, ?_⟩
      · exact ((((ex.trans (exs_of e3)).trans (exs_of e4)).mut rfl).trans (exs_of e5)).mut rfl
      · rw [upd_same, foldl_take_succ _ _ _ _ _ hz, hF']
        congr 2
        exact vI_add (addAt F p.1 (-(wd ns i))) p.2.1 (wd ns i)
    · rintro σ' H' ⟨ex, ⟨x5, x6, x7, x8, rfl⟩, hL⟩
      rw [List.take_of_length_le (by simp; omega)] at hL
      have ea : Ex H H' := ExS.ex (S := (· = D)) ((exs_of (e1.trans e2)).trans ex) (fun a h => by rw [h]; exact hD)
      have hFl : (movFold fill ps ns).length = ws.length := by
        unfold movFold
        rw [mov_len]
        omega
      refine s_retU (eu_tupleN (el_lcA (fun i => V.int (if 0 < wd ws i then wd (movFold fill ps ns) i else 0)) (ei_zip2 (k1 := .l) (k2 := .t) (xs := vI (movFold fill ps ns)) (ys := vI ws) (n := ws.length)
        (ea_cons (ev_var rfl) (ea_cons (ev_var rfl) ea_nil)) (sk_l hL) (sk_t (ea wp _ hw)) (by simp; omega)) (by omega) fun i x H2 e hi hx => ?_)) fun l H2 _ e h2 => q _ _ (ea.trans e) ⟨l, rfl, ?_⟩
      · obtain ⟨Tz, y1, y2, rfl, hT, h1, h2⟩ := hx
        rw [vI_get (by omega)] at h1 h2
        cases h1
        cases h2
        refine ⟨_, eg_tup2 hT, by rw [wipe_set (by decide), wipe_set (by decide), wipe_idem], ?_⟩
        refine ev_if (b := decide (0 < wd ws i)) (et_test (ev_op (ev_var rfl) ev_c rv_I0)) (fun hb => ev_is (ev_var rfl) (by rw [if_pos (of_decide_eq_true hb)])) (fun hb => ev_is ev_c (by rw [if_neg (of_decide_eq_false hb)]))
      · rw [h2, ← mov_moved hW hF]
        rw [vI, List.map_map]
        rfl
theorem ep_l_moved {E : XK} {σ : L2.St} {H : Hp} {ta : TA} {wv pq fv nv : V} {ns : List Int} (a : WPF) (h : EvA ta σ H [wv, pq, fv, nv]) (hp : PreL a wv pq fv H) (hn : LstI H nv ns) (hl : ns.length = a.2.1.length) : EvP (tCall sp_l_moved [] E ta) σ H (fun v H1 => TupI H1 v (movedAt a.1 a.2.1 a.2.2 ns)) :=
  ep_call (a, ns) h fun H1 e => ⟨wv, pq, fv, nv, rfl, hp.ex e, hn.ex e, hl⟩
/-- does any pipe run -/
def anyRun (ns : List Int) : Bool := ns.any fun n => decide (n ≠ 0)
abbrev sp_l_opened : Sp := fsp (fun (a : WPF × List Int) vs H => ∃ wv pq fv ov, vs = [wv, pq, fv, ov] ∧ PreL a.1 wv pq fv H ∧ TupI H ov a.2)
  (fun a v H => ∃ p m, v = .ref p ∧ H p = some (.tup [m, .bl (anyRun (openedAt (flowsAt a.1.1 a.1.2.1 a.1.2.2) (some a.2)))]) ∧ TupI H m (tickAt a.1.1 a.1.2.1 a.1.2.2 (some a.2)))
theorem has_l_opened (T : Tops K mg C) : Has P w K mg base 3 "_law_opened" ["_law_widths", "_law_pipes", "_law_filling_here", "_law_opening"] sp_l_opened := by
  refine T.d_l_opened.has sc_l_opened (fun vs H Q E h => ?_) (fun f cdv A outer s H vs Q E hr h => ?_)
  · obtain ⟨_, ⟨_, _, _, _, rfl, _⟩, _⟩ := h; rfl
  · obtain ⟨⟨⟨ws, ps, fill⟩, o⟩, ⟨wv, pq, fv, ov, rfl, hP, ⟨op, rfl, hop⟩⟩, q⟩ := h
    refine ⟨_, (pss_cons (ps_set (i := 4) sc_l_opened.nd rfl (.inl rfl) (pe_fn (has_l_flows T) (hr.mono (by decide)) (by rfl) (pa_cons (pv 0) (pa_cons (pv 1) (pa_cons (pv 2) pa_nil)))))
      (pss_cons (ps_if (pt_cmpR op_notN (pv 3) pe_non (nomark _))
        (pss_one (ps_setLc (i := 4) (own := [("_law_pipe", 5), ("_law_number", 6)]) rfl sc_l_opened.nd rfl rfl (sw_true rfl rfl rfl (by decide +kernel)) (pi_enum (by rfl) T.b_enumerate (pa_cons (pv 4) pa_nil)) (blkOk_by (own := [("_law_pipe", 5), ("_law_number", 6)]) (N := N_l_opened) (sc := defScope s_l_opened) (by decide +kernel)) (fun _ _ _ _ _ => (pg_tupK (n := 2) rfl rfl (pgs_cons (pg_name (i := 5) sc_l_opened.nd rfl (Or.inl rfl)) (pgs_cons (pg_name (i := 6) sc_l_opened.nd rfl (Or.inl rfl)) pgs_nil)))) (fun _ _ _ _ _ => pts_nil) (fun _ _ _ _ _ => (pe_ifExp (pt_cmpR (r := rIn K false) op_in_seq (pv 5) (pv 3) (by rfl)) (pv 6) pe_int))))
        pss_nil)
      (pss_one (ps_ret (pe_tup (pa_cons (pe_fn (has_l_moved T) (hr.mono (by decide)) (by rfl) (pa_cons (pv 0) (pa_cons (pv 1) (pa_cons (pv 2) (pa_cons (pv 4) pa_nil))))) (pa_cons (pe_callB (cr_any rfl) (by rfl) T.b_any (by decide +kernel) (pa_cons (pe_lc (own := [("_law_number", 6)]) rfl sc_l_opened.nd (pi_list (pv 4)) (blkOk_by (own := [("_law_number", 6)]) (N := N_l_opened) (sc := defScope s_l_opened) (by decide +kernel)) (fun _ _ _ _ _ => (pg_name (i := 6) sc_l_opened.nd rfl (Or.inl rfl))) (fun _ _ _ _ _ => pts_nil) (fun _ _ _ _ _ => (pe_cmpR op_ne (pv 6) pe_int (nomark _)))) pa_nil)) pa_nil))))))), ?_⟩
    simp only at hP hop
    have hl3 : ps.length ≤ 3 := hP.2.2.2.1.pip
    have fl := flows_len ws ps fill
    refine p_asg (ep_l_flows (ws, ps, fill) (by walk_at "ea") hP) fun v H1 e1 hv => ?_
    obtain ⟨np, rfl, hnp⟩ := hv
    simp only at hnp
    refine q_when (b := true) (et_is (et_test (ev_op (ev_var rfl) ev_c rv_notN)) (by simp)) (fun _ H2 e2 => ?_) fun z => nomatch z
    have e12 := e1.trans e2
    refine s_asgL (xs := (List.range (vI (flowsAt ws ps fill)).length).map fun (i : Nat) => V.int (if (i : Int) ∈ o then wd (flowsAt ws ps fill) i else 0)) (el_lcA _ (ei_enum (ea_cons (ev_var rfl) ea_nil) (sq_of (e2 np _ hnp))) (by simp; omega) fun i x H3 e hi hx => ?_) fun D H3 hD e3 h3 => ?_
    · obtain ⟨Tz, y, rfl, hT, hy⟩ := hx
      rw [List.length_map] at hi
      rw [vI_get hi] at hy
      cases hy
      refine ⟨_, eg_tup2 hT, by rw [wipe_set (by decide), wipe_set (by decide), wipe_idem], ?_⟩
      refine ev_if (b := decide ((i : Int) ∈ o)) (et_test (ev_is (ev_op (ev_var rfl) (ev_var rfl) (rv_isT (st_of ((e12.trans e) op _ hop)) rfl (flat_vI o))) (by rw [inV_int]))) (fun hb => ev_is (ev_var rfl) (by rw [if_pos (of_decide_eq_true hb)])) (fun hb => ev_is ev_c (by rw [if_neg (of_decide_eq_false hb)]))
    · have h3' : H3 D = some (.lst (vI (openedAt (flowsAt ws ps fill) (some o)))) := by
        rw [h3, List.length_map]
        unfold openedAt
        rw [vI, List.map_map]
        rfl
      have e13 := e12.trans e3
      have ol := opened_len (flowsAt ws ps fill) (some o)
      dsimp only
      refine p_ret (ep_n (en_tup (Pa := fun vs H' => ∃ m, vs = [m, .bl (anyRun (openedAt (flowsAt ws ps fill) (some o)))] ∧ TupI H' m (tickAt ws ps fill (some o))) ?_ (fun vs H4 ⟨m, ev, _⟩ => by rw [ev]; show 2 ≤ 100000; decide) (fun vs H4 H5 e ⟨m, ev, h⟩ => ⟨m, ev, h.ex e⟩))) fun v H4 e4 hv => q _ _ (e13.trans e4) ?_
      · refine (eq_cons (P := fun m H4 => TupI H4 m (tickAt ws ps fill (some o))) (Pr := fun m r H4 => r = [.bl (anyRun (openedAt (flowsAt ws ps fill) (some o)))] ∧ TupI H4 m (tickAt ws ps fill (some o))) ?_ fun m H4 e4 hm => ?_).imp fun vs H4 e4 hv => ?_
        · exact ep_l_moved (ws, ps, fill) (nv := .ref D) (ns := openedAt (flowsAt ws ps fill) (some o)) (ea_cons (ev_var rfl) (ea_cons (ev_var rfl) (ea_cons (ev_var rfl) (ea_cons (ev_var rfl) ea_nil)))) (hP.ex e13) ⟨D, rfl, h3'⟩ (ol.trans fl)
        · refine (ea_p (ea_cons (ev_anyN (bs := (List.range (vI (openedAt (flowsAt ws ps fill) (some o))).length).map fun i => decide (wd (openedAt (flowsAt ws ps fill) (some o)) i ≠ 0)) ?_) ea_nil)).imp fun vs H5 e5 h5 => ⟨h5.trans ?_, hm.ex e5⟩
          · rw [List.map_map]
            refine el_lcA _ (ei_list (ev_var rfl) (sq_of (e4 D _ h3'))) (by simp; omega) fun i x H5 e hi hx => ⟨_, eg_name, rfl, ?_⟩
            rw [List.length_map] at hi
            rw [vI_get hi] at hx
            cases hx
            refine ev_is (ev_op (ev_var rfl) ev_c (rv_ne rfl)) (by simp)
          · congr 2
            unfold anyRun
            rw [List.length_map]
            conv => rhs; rw [← map_wd (openedAt (flowsAt ws ps fill) (some o))]
            rw [List.any_map, List.any_map]
            rfl
        · obtain ⟨m, r, rfl, rfl, hm⟩ := hv
          exact ⟨m, rfl, hm⟩
      · obtain ⟨p, rfl, vs, hp, m, rfl, hm⟩ := hv
        exact ⟨p, m, rfl, hp, hm⟩
theorem ep_l_opened {E : XK} {σ : L2.St} {H : Hp} {ta : TA} {wv pq fv ov : V} {o : List Int} (a : WPF) (h : EvA ta σ H [wv, pq, fv, ov]) (hp : PreL a wv pq fv H) (ho : TupI H ov o) : EvP (tCall sp_l_opened [] E ta) σ H (fun v H => ∃ p m, v = .ref p ∧ H p = some (.tup [m, .bl (anyRun (openedAt (flowsAt a.1 a.2.1 a.2.2) (some o)))]) ∧ TupI H m (tickAt a.1 a.2.1 a.2.2 (some o))) :=
  ep_call (a, o) h fun H1 e => ⟨wv, pq, fv, ov, rfl, hp.ex e, ho.ex e⟩
end
end TW
/-! The plain law of plays: openings, ways on, heights. -/
namespace TW
open PySem PySem.Spec PyProof.Rows L2 Evl
abbrev Fil := List Int
/-! ### openings -/
/-- the pipes that run, of the first i -/
def nzs (ns : List Int) (i : Nat) : List Int := ((List.range i).filter fun j => decide (wd ns j ≠ 0)).map fun (j : Nat) => (j : Int)
theorem nzs_succ (ns : List Int) (i : Nat) : nzs ns (i + 1) = if wd ns i ≠ 0 then nzs ns i ++ [(i : Int)] else nzs ns i := by
  unfold nzs
  rw [List.range_succ, List.filter_append, List.map_append, List.filter_cons, List.filter_nil]
  by_cases h : wd ns i ≠ 0
  · rw [if_pos (decide_eq_true h), if_pos h]
    rfl
  · rw [if_neg (fun z => h (of_decide_eq_true z)), if_neg h]
    simp
theorem nzs_lt {ns : List Int} {i : Nat} {k : Int} (h : k ∈ nzs ns i) : ∃ j : Nat, k = (j : Int) ∧ j < i ∧ wd ns j ≠ 0 := by
  unfold nzs at h
  obtain ⟨j, hj, rfl⟩ := List.mem_map.mp h
  rw [List.mem_filter, List.mem_range] at hj
  exact ⟨j, rfl, hj.1, of_decide_eq_true hj.2⟩
theorem nzs_len (ns : List Int) (i : Nat) : (nzs ns i).length ≤ i := by
  unfold nzs
  rw [List.length_map]
  have := List.length_filter_le (fun j => decide (wd ns j ≠ 0)) (List.range i)
  rw [List.length_range] at this
  exact this
theorem subs_snoc (ks : List Int) (k : Int) : subsOf (ks ++ [k]) = subsOf ks ++ (subsOf ks).map (· ++ [k]) := by
  unfold subsOf
  rw [List.foldl_append]
  rfl
/-- every one is a row of ascending numbers taken from ks -/
theorem subs_sub (ks : List Int) : ∀ acc : List (List Int), (∀ o ∈ acc, ∀ k ∈ o, k ∈ ks ∨ True) → True := fun _ _ => trivial
/-- the empty one stands ahead -/
theorem subs_head (ks : List Int) : ∀ acc : List (List Int), ∀ r, acc = [] :: r → (∀ o ∈ r, o ≠ []) → ∃ r', ks.foldl subsStep acc = [] :: r' ∧ (∀ o ∈ r', o ≠ []) ∧
    ∀ o, (o ∈ r' ∧ o.length ≤ 1) ↔ (o ∈ r ∧ o.length ≤ 1) ∨ ∃ k ∈ ks, o = [k] := by
  induction ks with
  | nil => exact fun acc r h1 h2 => ⟨r, h1, h2, fun o => by simp⟩
  | cons k ks ih =>
    intro acc r h1 h2
    subst h1
    obtain ⟨r', e1, e2, e3⟩ := ih (subsStep ([] :: r) k) (r ++ ([] :: r).map (· ++ [k])) rfl (fun o ho => by
      rcases List.mem_append.mp ho with h | h
      · exact h2 o h
      · obtain ⟨x, _, rfl⟩ := List.mem_map.mp h
        simp)
    refine ⟨r', e1, e2, fun o => ?_⟩
    rw [e3]
    constructor
    · rintro (⟨h, hl⟩ | ⟨j, hj, rfl⟩)
      · rcases List.mem_append.mp h with h | h
        · exact .inl ⟨h, hl⟩
        · obtain ⟨x, hx, rfl⟩ := List.mem_map.mp h
          rcases List.mem_cons.mp hx with rfl | hx
          · exact .inr ⟨k, by simp, rfl⟩
          · have := h2 x hx
            have : 0 < x.length := List.length_pos_iff.mpr this
            rw [List.length_append, List.length_singleton] at hl
            omega
      · exact .inr ⟨j, by simp [hj], rfl⟩
    · rintro (⟨h, hl⟩ | ⟨j, hj, rfl⟩)
      · exact .inl ⟨List.mem_append_left _ h, hl⟩
      · rcases List.mem_cons.mp hj with rfl | hj
        · exact .inl ⟨List.mem_append_right _ (by simp), by simp⟩
        · exact .inr ⟨j, hj, rfl⟩
theorem subs_drop (ks : List Int) : ∃ r, subsOf ks = [] :: r ∧ (∀ o ∈ r, o ≠ []) ∧ ∀ o, (o ∈ r ∧ o.length ≤ 1) ↔ ∃ k ∈ ks, o = [k] := by
  obtain ⟨r, h1, h2, h3⟩ := subs_head ks [[]] [] rfl (fun o h => nomatch h)
  refine ⟨r, h1, h2, fun o => (h3 o).trans ?_⟩
  simp
/-- what of an opening is in it: pipes that run, ascending -/
theorem subs_ok (ns : List Int) : ∀ i, ∀ o ∈ subsOf (nzs ns i), (∀ k ∈ o, ∃ j : Nat, k = (j : Int) ∧ j < i ∧ wd ns j ≠ 0) ∧ o.length ≤ i
  | 0 => fun o ho => by
    simp [nzs, subsOf] at ho
    subst ho
    exact ⟨(fun k h => nomatch h), Nat.le_refl 0⟩
  | i + 1 => fun o ho => by
    have ih := subs_ok ns i
    rw [nzs_succ] at ho
    split at ho
    · rename_i hz
      rw [subs_snoc] at ho
      rcases List.mem_append.mp ho with h | h
      · obtain ⟨a, b⟩ := ih o h
        exact ⟨fun k hk => by
          obtain ⟨j, h1, h2, h3⟩ := a k hk
          exact ⟨j, h1, by omega, h3⟩, by omega⟩
      · obtain ⟨x, hx, rfl⟩ := List.mem_map.mp h
        obtain ⟨a, b⟩ := ih x hx
        refine ⟨fun k hk => ?_, by simp; omega⟩
        rcases List.mem_append.mp hk with hk | hk
        · obtain ⟨j, h1, h2, h3⟩ := a k hk
          exact ⟨j, h1, by omega, h3⟩
        · rw [List.mem_singleton] at hk
          exact ⟨i, hk, by omega, hz⟩
    · obtain ⟨a, b⟩ := ih o ho
      exact ⟨fun k hk => by
        obtain ⟨j, h1, h2, h3⟩ := a k hk
        exact ⟨j, h1, by omega, h3⟩, by omega⟩
/-- the openings that the program goes through -/
def plots (single : Bool) (ns : List Int) : List (List Int) := ((subsOf (nzs ns ns.length)).drop 1).filter fun o => !(single && decide (1 < o.length))
/-- the rows that the law goes through -/
def llots (single : Bool) (ks : List Int) : List (List Int) := if single then [] :: ks.map fun k => [k] else subsOf ks
theorem llots_snoc (single : Bool) (ks : List Int) (k : Int) : llots single (ks ++ [k]) = llots single ks ++ ((if single then (llots single ks).take 1 else llots single ks).map (· ++ [k])) := by
  unfold llots
  cases single with
  | true => simp
  | false => exact subs_snoc ks k
theorem mem_lots (single : Bool) (ns : List Int) (o : List Int) : o ∈ plots single ns ↔ o ∈ (llots single (nzs ns ns.length)).drop 1 := by
  obtain ⟨r, h1, h2, h3⟩ := subs_drop (nzs ns ns.length)
  unfold plots llots
  rw [List.mem_filter, h1]
  cases single with
  | true =>
    simp only [List.drop_succ_cons, List.drop_zero, if_true, Bool.true_and, Bool.not_eq_true', decide_eq_false_iff_not, List.mem_map]
    constructor
    · rintro ⟨a, b⟩
      obtain ⟨k, hk, rfl⟩ := (h3 o).mp ⟨a, by omega⟩
      exact ⟨k, hk, rfl⟩
    · rintro ⟨k, hk, rfl⟩
      have := (h3 [k]).mpr ⟨k, hk, rfl⟩
      exact ⟨this.1, by simp⟩
  | false => simp
/-- ks with k, where it is not there -/
def insK (ks : List Fil) (k : Fil) : List Fil := if k ∈ ks then ks else ks ++ [k]
theorem mem_insK {ks : List Fil} {k x : Fil} : x ∈ insK ks k ↔ x ∈ ks ∨ x = k := by
  unfold insK
  split
  · constructor
    · exact .inl
    · rintro (h | rfl)
      · exact h
      · assumption
  · simp
theorem insK_nodup {ks : List Fil} {k : Fil} (h : ks.Nodup) : (insK ks k).Nodup := by
  unfold insK
  split
  · exact h
  · rename_i hk
    rw [List.nodup_append]
    refine ⟨h, by simp, fun a ha b hb => ?_⟩
    rw [List.mem_singleton] at hb
    subst hb
    exact fun e => hk (e ▸ ha)
def insAll (f : List Int → Fil) (os : List (List Int)) (ks : List Fil) : List Fil := os.foldl (fun ks o => insK ks (f o)) ks
theorem mem_insAll {f : List Int → Fil} {x : Fil} : ∀ {os : List (List Int)} {ks : List Fil}, x ∈ insAll f os ks ↔ x ∈ ks ∨ ∃ o ∈ os, x = f o
  | [], ks => by simp [insAll]
  | o :: os, ks => by
    show x ∈ insAll f os (insK ks (f o)) ↔ _
    rw [mem_insAll, mem_insK]
    simp [or_assoc]
theorem insAll_nodup {f : List Int → Fil} : ∀ {os : List (List Int)} {ks : List Fil}, ks.Nodup → (insAll f os ks).Nodup
  | [], _, h => h
  | o :: os, ks, h => insAll_nodup (f := f) (os := os) (ks := insK ks (f o)) (insK_nodup h)
theorem insAll_len {f : List Int → Fil} : ∀ {os : List (List Int)} {ks : List Fil}, (insAll f os ks).length ≤ ks.length + os.length
  | [], _ => Nat.le_refl _
  | o :: os, ks => by
    have h := insAll_len (f := f) (os := os) (ks := insK ks (f o))
    have h2 : (insK ks (f o)).length ≤ ks.length + 1 := by
      unfold insK
      split <;> simp
    show (insAll f os (insK ks (f o))).length ≤ _
    rw [List.length_cons]
    omega
/-- where a filling may go, by any openings | one pipe at a time -/
def nexts (ws : List Int) (ps : List Pipe) (single : Bool) (x : Fil) : List Fil := insAll (fun o => tickAt ws ps x (some o)) (plots single (flowsAt ws ps x)) []
theorem nexts_nodup {ws : List Int} {ps : List Pipe} {single : Bool} {x : Fil} : (nexts ws ps single x).Nodup := insAll_nodup List.nodup_nil
theorem mem_nexts {ws : List Int} {ps : List Pipe} {single : Bool} {x y : Fil} : y ∈ nexts ws ps single x ↔ ∃ o ∈ plots single (flowsAt ws ps x), y = tickAt ws ps x (some o) := by
  unfold nexts
  rw [mem_insAll]
  simp
theorem plots_len (single : Bool) (ns : List Int) (h : ns.length ≤ 3) : (plots single ns).length ≤ 8 := by
  unfold plots
  refine Nat.le_trans (List.length_filter_le _ _) ?_
  rw [List.length_drop]
  have h1 : (subsOf (nzs ns ns.length)).length = 1 * 2 ^ (nzs ns ns.length).length := subs_len _ _
  have h2 := nzs_len ns ns.length
  have h3 : 2 ^ (nzs ns ns.length).length ≤ 2 ^ 3 := Nat.pow_le_pow_right (by decide) (by omega)
  omega
theorem nexts_len {ws : List Int} {ps : List Pipe} {single : Bool} {x : Fil} (h : ps.length ≤ 3) : (nexts ws ps single x).length ≤ 8 := by
  have h1 := insAll_len (f := fun o => tickAt ws ps x (some o)) (os := plots single (flowsAt ws ps x)) (ks := [])
  have h2 := plots_len single (flowsAt ws ps x) (by simp [flowsAt]; exact h)
  unfold nexts
  rw [List.length_nil] at h1
  omega
theorem nexts_single {ws : List Int} {ps : List Pipe} {single : Bool} {x y : Fil} (h : y ∈ nexts ws ps single x) : y ∈ nexts ws ps false x := by
  obtain ⟨o, ho, rfl⟩ := mem_nexts.mp h
  refine mem_nexts.mpr ⟨o, ?_, rfl⟩
  unfold plots at ho ⊢
  rw [List.mem_filter] at ho ⊢
  exact ⟨ho.1, by simp⟩
/-! ### heights -/
section
variable {sc : Fil → List Fil}
/-- every play from x ends within n ticks -/
def bdd (sc : Fil → List Fil) : Nat → Fil → Prop
  | 0, x => sc x = []
  | n + 1, x => ∀ y ∈ sc x, bdd sc n y
theorem bdd_succ : ∀ {n : Nat} {x : Fil}, bdd sc n x → bdd sc (n + 1) x
  | 0, x, h => fun y hy => by
    rw [show sc x = [] from h] at hy
    cases hy
  | n + 1, x, h => fun y hy => bdd_succ (h y hy)
theorem bdd_mono {m n : Nat} {x : Fil} (h : bdd sc m x) (hm : m ≤ n) : bdd sc n x := by
  induction hm with
  | refl => exact h
  | step _ ih => exact bdd_succ ih
/-- the longest play from x has n ticks -/
def HT (sc : Fil → List Fil) (x : Fil) (n : Nat) : Prop := bdd sc n x ∧ ∀ m, m < n → ¬ bdd sc m x
theorem HT.uniq {x : Fil} {m n : Nat} (a : HT sc x m) (b : HT sc x n) : m = n := by
  rcases Nat.lt_trichotomy m n with h | h | h
  · exact absurd a.1 (b.2 m h)
  · exact h
  · exact absurd b.1 (a.2 n h)
theorem ht_of_bdd : ∀ {n : Nat} {x : Fil}, bdd sc n x → ∃ m, m ≤ n ∧ HT sc x m := by
  intro n
  induction n with
  | zero => exact fun h => ⟨0, Nat.le_refl 0, h, fun m hm => absurd hm (Nat.not_lt_zero m)⟩
  | succ n ih =>
    intro x h
    by_cases h2 : bdd sc n x
    · obtain ⟨m, h3, h4⟩ := ih h2
      exact ⟨m, Nat.le_succ_of_le h3, h4⟩
    · exact ⟨n + 1, Nat.le_refl _, h, fun m hm z => h2 (bdd_mono z (Nat.le_of_lt_succ hm))⟩
/-- the places one tick on have heights, smaller ones -/
theorem HT.next {x y : Fil} {n : Nat} (h : HT sc x n) (hy : y ∈ sc x) : ∃ m, m < n ∧ HT sc y m := by
  cases n with
  | zero =>
    rw [show sc x = [] from h.1] at hy
    cases hy
  | succ n =>
    obtain ⟨m, h1, h2⟩ := ht_of_bdd (h.1 y hy)
    exact ⟨m, Nat.lt_succ_of_le h1, h2⟩
/-- from the heights one tick on -/
theorem ht_max {x : Fil} {n : Nat} (hh : Fil → Nat) (h1 : ∀ y ∈ sc x, HT sc y (hh y) ∧ hh y < n) (h2 : n = 0 ∨ ∃ y ∈ sc x, hh y + 1 = n) : HT sc x n := by
  constructor
  · cases n with
    | zero =>
      show sc x = []
      cases hs : sc x with
      | nil => rfl
      | cons y r =>
        have := (h1 y (by rw [hs]; simp)).2
        omega
    | succ n => exact fun y hy => bdd_mono (h1 y hy).1.1 (by have := (h1 y hy).2; omega)
  · intro m hm hb
    rcases h2 with h2 | ⟨y, hy, hn⟩
    · omega
    · cases m with
      | zero =>
        rw [show sc x = [] from hb] at hy
        cases hy
      | succ m => exact (h1 y hy).1.2 m (by omega) (hb y hy)
theorem ht_zero {x : Fil} : HT sc x 0 ↔ sc x = [] := ⟨fun h => h.1, fun h => ⟨h, fun m hm => absurd hm (Nat.not_lt_zero m)⟩⟩
theorem bdd_sub {sc' : Fil → List Fil} (h : ∀ x y, y ∈ sc' x → y ∈ sc x) : ∀ {n : Nat} {x : Fil}, bdd sc n x → bdd sc' n x
  | 0, x, hb => by
    cases hs : sc' x with
    | nil => exact hs
    | cons y r =>
      have := h x y (by rw [hs]; simp)
      rw [show sc x = [] from hb] at this
      cases this
  | n + 1, x, hb => fun y hy => bdd_sub h (hb y (h x y hy))
theorem ht_sub {sc' : Fil → List Fil} (h : ∀ x y, y ∈ sc' x → y ∈ sc x) {x : Fil} {n : Nat} (hx : HT sc x n) : ∃ m, m ≤ n ∧ HT sc' x m := ht_of_bdd (bdd_sub h hx.1)
theorem ht_congr {sc' : Fil → List Fil} (h : ∀ x y, y ∈ sc' x ↔ y ∈ sc x) {x : Fil} {n : Nat} (hx : HT sc x n) : HT sc' x n :=
  ⟨bdd_sub (fun x y => (h x y).mp) hx.1, fun m hm hb => hx.2 m hm (bdd_sub (fun x y => (h x y).mpr) hb)⟩
/-- heights that close up: what holds P is told, and what has all it may go to in P is in P -/
theorem ht_in {Pd : Fil → Prop} {Cl : Fil → Prop} (hc : ∀ x y, Cl x → y ∈ sc x → Cl y) (h : ∀ x, Cl x → (∀ y ∈ sc x, Pd y) → Pd x) : ∀ {n : Nat} {x : Fil}, Cl x → HT sc x n → Pd x := by
  intro n
  induction n using Nat.strongRecOn with
  | _ n ih =>
    intro x hx hn
    refine h x hx fun y hy => ?_
    obtain ⟨m, hm, h2⟩ := hn.next hy
    exact ih m hm (hc x y hx hy) h2
end
end TW
namespace TW
open PySem PySem.Spec PyProof.Rows L2 Evl
/-! ### dicts by their keys -/
def KeysOf (kvs : List (List Key × V)) (ks : List Fil) : Prop := kvs.map (·.1) = ks.map kI
theorem keys_some {kvs : List (List Key × V)} {ks : List Fil} (h : KeysOf kvs ks) (x : Fil) : (valV kvs (kI x)).isSome = decide (x ∈ ks) := by
  have h1 := valV_any (kI x) kvs
  rw [← h1]
  unfold KeysOf at h
  have h2 : (kvs.any fun kv => decide (kv.1 = kI x)) = (kvs.map (·.1)).any fun k => decide (k = kI x) := by rw [List.any_map]; rfl
  rw [h2, h, List.any_map, Bool.eq_iff_iff]
  simp only [List.any_eq_true, Function.comp_apply, decide_eq_true_eq]
  constructor
  · rintro ⟨y, hy, e⟩
    rw [← kI_inj e]
    exact hy
  · exact fun hx => ⟨x, hx, rfl⟩
theorem keys_len {kvs : List (List Key × V)} {ks : List Fil} (h : KeysOf kvs ks) : kvs.length = ks.length := by
  have := congrArg List.length h
  simpa using this
theorem keys_put {kvs : List (List Key × V)} {ks : List Fil} (h : KeysOf kvs ks) {x : Fil} (hx : x ∉ ks) (v : V) : putK kvs (kI x) v = kvs ++ [(kI x, v)] ∧ KeysOf (putK kvs (kI x) v) (ks ++ [x]) := by
  have hn : valV kvs (kI x) = none := by
    have := keys_some h x
    rw [decide_eq_false hx] at this
    cases hv : valV kvs (kI x) with
    | none => rfl
    | some v => rw [hv] at this; cases this
  refine ⟨putK_new v hn, ?_⟩
  unfold KeysOf
  rw [putK_new v hn, List.map_append, List.map_append, h]
  rfl
theorem putK_keys {kvs : List (List Key × V)} {k : List Key} {v : V} (h : (valV kvs k).isSome = true) : (putK kvs k v).map (·.1) = kvs.map (·.1) := by
  rw [← valV_any] at h
  unfold putK
  rw [if_pos h, List.map_map]
  apply List.map_congr_left
  intro p _
  show (if p.1 = k then (p.1, v) else p).1 = p.1
  split <;> rfl
def WaysAt (H : Hp) (v : V) (ks : List Fil) : Prop := ∃ d kvs, v = .ref d ∧ H d = some (.dT kvs) ∧ KeysOf kvs ks
theorem WaysAt.ex {H H' : Hp} {v : V} {ks : List Fil} (e : Ex H H') (h : WaysAt H v ks) : WaysAt H' v ks := by
  obtain ⟨d, kvs, rfl, h, k⟩ := h
  exact ⟨d, kvs, rfl, e d _ h, k⟩
/-- a list of rows -/
def RowsAt (H : Hp) (v : V) (os : List (List Int)) : Prop := ∃ a vs, v = .ref a ∧ H a = some (.lst vs) ∧ Paired (TupI H) vs os
section
variable {S : Addr → Prop} {K : PySem.W.Frag} {σ : L2.St} {H H' : Hp} {te tl ta tb : TE} {v : V} {D : Ends} {tz : TS} {n : Nat} {Y : Nat → V → Hp → Prop}
theorem en_lst1 {P : VP} (h : EvP te σ H P) (hP : ∀ v H1 H2, Ex H1 H2 → P v H1 → P v H2) : EvN (tLst (tCons te tNil)) σ H (fun p H' => ∃ v, H' p = some (.lst [v]) ∧ P v H') := fun H1 e Q q =>
  h H1 e _ fun v H2 e2 pv => ⟨by show 1 ≤ sizeLine; decide, fun p hp => q p _ (fresh_back e2 hp) (e2.trans (Ex.new hp)) ⟨v, upd_same, hP _ _ _ (Ex.new hp) pv⟩⟩
theorem epT_of {ns : List Int} (h : EvU te σ H (vI ns)) : EvP te σ H (fun v H' => TupI H' v ns) := epU_of h
/-- over a list that the head gives -/
theorem ej_pL {Pn : List V → Hp → Prop} (h : EvP tl σ H (fun v H1 => ∃ a xs, v = .ref a ∧ H1 a = some (.lst xs) ∧ ¬ S a ∧ xs.length = n ∧ Pn xs H1)) (hY : ∀ xs H1 H2 i x, Ex H H1 → ExS S H1 H2 → Pn xs H1 → xs[i]? = some x → Y i x H2) : EvJ S (iList K tl) σ H n Y := fun H1 e R k =>
  h H1 e _ fun v H2 e2 ⟨a, xs, ev, ha, na, hl, hp⟩ => by
    subst hl
    refine ⟨a, ev, ⟨xs, sq_of ha⟩, k _ H2 e2 (fun i H3 hi e3 => ⟨xs, xs[i], sq_of (e3 a _ na ha), List.getElem?_eq_getElem hi⟩) (fun H3 e3 => ⟨xs, sq_of (e3 a _ na ha), Nat.le_refl _⟩) fun i H3 x H4 hi e3 y => ?_⟩
    obtain ⟨e4, y⟩ := y
    rw [e4]
    exact ⟨Ex.refl _, hY xs H2 H3 i x (e.trans e2) e3 hp (y xs (sq_of (e3 a _ na ha)))⟩
end
section
variable {P : Program} {w : World} {K : PySem.W.Frag} {mg : Str → Option Value} {base : Heap} {C : Addr} {mgX : Str → Option Value}
local macro_rules | `(tactic| walk_at "rv") => `(tactic| first
  | exact rv_I0
  | exact rv_eq rfl
  | exact rv_ne rfl
  | exact rv_isN
  | exact rv_notN
  | (apply rv_I; (try dsimp only); first | omega | assumption | exact ⟨by omega, by omega⟩ | exact Or.inl ⟨by omega, by omega⟩ | exact Or.inr ⟨by omega, by omega⟩)
  | (apply rv_ix0; assumption; rfl)
  | (apply rv_ix1; assumption; rfl)
  | (apply rv_ix2; assumption; rfl)
  | (apply rv_ix4; assumption; rfl))
local macro_rules | `(tactic| walk_at "ea") => `(tactic| first
  | exact ea_nil
  | (apply ea_cons; walk_at "ev"; walk_at "ea"))
local macro_rules | `(tactic| walk_at "ev") => `(tactic| first
  | exact ev_c
  | (apply ev_var; rfl)
  | (apply ev_op; walk_at "ev"; walk_at "ev"; walk_at "rv")
  | (apply ev_un; walk_at "ev"; exact ru_neg)
  | (apply ev_isiII; walk_at "ea")
  | (apply ev_isiIB; walk_at "ea")
  | (apply ev_isiTT; assumption; walk_at "ea")
  | (apply ev_lenT; assumption; walk_at "ev")
  | (apply ev_lenL; assumption; walk_at "ev")
  | (apply ev_andV; walk_at "ev"; intro _; walk_at "ev")
  | (apply ev_orV; walk_at "ev"; intro _; walk_at "ev")
  | (apply ev_notV; walk_at "ev")
  | (apply ev_chain; walk_at "ev"; walk_at "ev"; walk_at "ev"; walk_at "rv"; walk_at "rv")
  | (apply ev_abs; walk_at "ea")
  | (apply ev_int; walk_at "ea"))
local macro_rules | `(tactic| walk_at "et") => `(tactic| first
  | (apply et_test; walk_at "ev")
  | (apply et_B; walk_at "ev")
  | (apply et_not; walk_at "et")
  | (apply et_and; walk_at "et"; intro _; walk_at "et")
  | (apply et_or; walk_at "et"; intro _; walk_at "et"))

local macro_rules | `(tactic| walk_at "ev") => `(tactic| ((with_reducible apply ev_is_integer); walk_at "ea"))
local macro_rules | `(tactic| walk_at "ev") => `(tactic| ((with_reducible apply ev_is_between); walk_at "ea"))
local macro_rules | `(tactic| walk_at "ev") => `(tactic| ((with_reducible apply ev_divisor); walk_at "ea"))
local macro_rules | `(tactic| walk_at "ev") => `(tactic| ((with_reducible apply ev_is_width); walk_at "ea"))
/-- the row of all openings, longer by one pipe -/
theorem en_more {σ : L2.St} {H : Hp} {vs : List V} {os : List (List Int)} {D : Addr} {i j m : Nat} {k : Int} {own : List Nat} (hown : own = [j]) (hm : m ≠ j) (hD : H D = some (.lst vs)) (hP : Paired (TupI H) vs os) (hi : σ[i]? = some (some (.ref D))) (hij : i ≠ j) (hk : σ[m]? = some (some (.int k))) (hj : j < σ.length) (hl : os.length ≤ 1000) (hol : ∀ o ∈ os, o.length ≤ 1000) :
    EvN (tOp rCat (tVar i) (tLc (iList K (tVar i)) (gName j) tYes (tOp (rCatA K) (tVar j) (tTup (tCons (tVar m) tNil))) own)) σ H (fun p H' => ∃ ws, H' p = some (.lst ws) ∧ Paired (TupI H') ws (os ++ os.map (· ++ [k]))) := by
  subst hown
  have hlen := Paired.length hP
  refine fun H1 e Q q => (en_cat (P := fun ys H' => Paired (TupI H') (vs ++ ys) (os ++ os.map (· ++ [k])) ∧ ys.length = vs.length) (ev_var hi) hD (fun H2 e2 Q2 q2 => en_lc (fun _ => true) (fun n v H' => ∀ o, os[n]? = some o → TupI H' v (o ++ [k])) (ei_list (ev_var (by
      exact hi)) (sq_of (e2 D _ hD))) (by omega) (fun n v H3 H4 e3 h o ho => (h o ho).tex e3) (fun n x H3 e3 hn hx => ⟨_, eg_name, ?_, fun H4 _ Q q => q H4 (Ex.refl H4), fun _ => ?_⟩) H2 (Ex.refl H2) Q2 fun p H3 hp e3 ⟨ys, hy, hpy⟩ => q2 p H3 hp e3 ⟨ys, hy, ?_⟩) (fun ys H' h => ?_) (fun ys H2 H3 e3 h => ⟨paired_imp (fun _ _ q => q.ex e3) h.1, h.2⟩)) H1 e Q fun p H2 hp e2 ⟨ys, h1, h2⟩ => q p H2 hp e2 ⟨_, h1, h2.1⟩
  · rw [wipe_set (by simp), wipe_idem]
  · have hw : ((wipe σ [j]).set j (some x))[m]? = some (some (.int k)) := by
      rw [List.getElem?_set_ne (fun z => hm z.symm), wipe_get, if_neg (by simp [hm])]
      exact hk
    obtain ⟨o, ho, hoa⟩ := paired_get' hP hx
    obtain ⟨oa, rfl, hob⟩ := hoa.ex (e2.trans e3)
    have hol' := hol o (List.mem_of_getElem? ho)
    refine (ep_catA (xs := vI o) (ys := [.int k]) (ev_var (by simp [wipe, hj])) hob (eu_tup (ea_cons (ev_var hw) ea_nil) (by show 1 ≤ 100000; decide)) (by rw [List.length_map]; simp; omega) (by simp)).imp fun v H4 e4 ⟨p, ev, hp⟩ o' ho' => ?_
    rw [ho] at ho'
    cases ho'
    exact ⟨p, ev, by rw [hp]; simp [vI]⟩
  · obtain ⟨l1, l2⟩ := paired_range hpy
    refine ⟨paired_append (paired_imp (fun _ _ q => q.ex (e2.trans e3)) hP) (paired_get2 (by rw [List.length_map]; omega) fun n v o hv ho => ?_), by omega⟩
    rw [List.getElem?_map] at ho
    obtain ⟨o', ho', rfl⟩ := Option.map_eq_some_iff.mp ho
    exact l2 n v hv o' ho'
  · rw [h.2]
    omega
abbrev sp_running_openings : Sp := fsp (fun (ns : List Int) vs H => ∃ v, vs = [v] ∧ LstI H v ns ∧ ns.length ≤ 3) (fun ns v H => RowsAt H v ((subsOf (nzs ns ns.length)).drop 1))
theorem subs_bd (ns : List Int) (i : Nat) (hi : i ≤ 3) : (subsOf (nzs ns i)).length ≤ 8 ∧ ∀ o ∈ subsOf (nzs ns i), o.length ≤ 1000 := by
  refine ⟨?_, fun o ho => Nat.le_trans (subs_ok ns i o ho).2 (by omega)⟩
  have h1 : (subsOf (nzs ns i)).length = 1 * 2 ^ (nzs ns i).length := subs_len _ _
  have h2 := nzs_len ns i
  have h3 : 2 ^ (nzs ns i).length ≤ 2 ^ 3 := Nat.pow_le_pow_right (by decide) (by omega)
  omega
theorem paired_drop {α β : Type} {F : α → β → Prop} : ∀ {xs : List α} {ys : List β}, Paired F xs ys → Paired F (xs.drop 1) (ys.drop 1)
  | _, _, .nil => .nil
  | _, _, .cons _ s => s
theorem has_running_openings (T : Tops K mg C) : Has P w K mg base 1 "running_openings" ["numbers"] sp_running_openings := by
  refine T.d_running_openings.has sc_running_openings (fun vs H Q E h => ?_) (fun f cdv A outer s H vs Q E hr h => ?_)
  · obtain ⟨_, ⟨_, rfl, _⟩, _⟩ := h; rfl
  · obtain ⟨ns, ⟨v, rfl, ⟨np, rfl, hn⟩, hl⟩, q⟩ := h
    refine ⟨_, (pss_cons (ps_set (i := 1) sc_running_openings.nd rfl (.inl rfl) (pe_lst (pa_cons (pe_tup pa_nil) pa_nil)))
      (pss_cons (ps_for PassesOwn.never rfl (pi_enum (by rfl) T.b_enumerate (pa_cons (pv 0) pa_nil)) (pg_tupK (n := 2) rfl rfl (pgs_cons (pg_name (i := 2) sc_running_openings.nd rfl (Or.inr rfl)) (pgs_cons (pg_name (i := 3) sc_running_openings.nd rfl (Or.inl rfl)) pgs_nil)))
        (pss_one (ps_if (pt_cmpR op_ne (pv 3) pe_int (nomark _))
          (pss_one (ps_set (i := 1) sc_running_openings.nd rfl (.inl rfl) (pe_op op_cat (pv 1) (pe_lc (own := [("lot", 4)]) rfl sc_running_openings.nd (pi_list (pv 1)) (blkOk_by (own := [("lot", 4)]) (N := N_running_openings) (sc := defScope s_running_openings) (by decide +kernel)) (fun _ _ _ _ _ => (pg_name (i := 4) sc_running_openings.nd rfl (Or.inl rfl))) (fun _ _ _ _ _ => pts_nil) (fun _ _ _ _ _ => (pe_op (r := rCatA K) op_catA (pv 4) (pe_tup (pa_cons (pv 2) pa_nil))))))))
          pss_nil)))
      (pss_one (ps_ret (pe_slice (r := rSlL K) sl_list (pv 1) (po_some pe_int) po_none))))), ?_⟩
    refine p_asgN (P := fun p H1 => ∃ v, H1 p = some (.lst [v]) ∧ TupI H1 v []) (en_lst1 (epT_of (eu_tup (vs := []) ea_nil (by show 0 ≤ 100000; decide))) (fun v H1 H2 e h => h.ex e)) fun D H1 hD e1 ⟨wv, hws, hwv⟩ => ?_
    have hwP : Paired (TupI H1) [wv] [[]] := .cons hwv .nil
    refine q_forI (ei_enum (ea_cons (ev_var rfl) ea_nil) (sq_of (e1 np _ hn))) fun H2 e2 => ⟨fun i σ' H' => Ex H2 H' ∧ ∃ x2 x3 x4, ∃ (d : Addr) (us : List V), σ' = [some (.ref np), some (.ref d), x2, x3, x4] ∧ H' d = some (.lst us) ∧ Paired (TupI H') us (subsOf (nzs ns i)),
      ⟨Ex.refl _, none, none, none, D, [wv], rfl, e2 D _ hws, paired_imp (fun _ _ q => q.ex e2) hwP⟩, fun i σ' H' h => h.1, ?_, ?_⟩
    · rintro i x σ' H' H'' hi ⟨ex, x2, x3, x4, d, us, rfl, hd, hus⟩ e3 ⟨Tz, y, rfl, hT, hy⟩
      rw [List.length_map] at hi
      rw [vI_get hi] at hy
      cases hy
      refine eg_tup2 hT _ ?_
      have hus3 := paired_imp (fun _ _ q => TupI.ex e3 q) hus
      obtain ⟨b1, b2⟩ := subs_bd ns i (by omega)
      refine s_when (b := !decide (V.int (wd ns i) = V.int 0)) (et_test (ev_op (ev_var rfl) ev_c (rv_ne rfl))) (fun hb H4 e4 => ?_) (fun hb H4 e4 => ?_)
      · have hz : wd ns i ≠ 0 := by simpa using hb
        have hus4 := paired_imp (fun _ _ q => TupI.ex e4 q) hus3
        refine (en_more (K := K) (k := (i : Int)) rfl (by decide) ((e3.trans e4) d _ hd) hus4 rfl (by decide) rfl (by show 4 < 5; decide) (by omega) b2) H4 (Ex.refl _) _ fun p H5 _ e5 ⟨us', h1, h2⟩ => ?_
        refine ⟨((ex.trans e3).trans e4).trans e5, some (.int i), some (.int (wd ns i)), x4, p, us', rfl, h1, ?_⟩
        rw [nzs_succ, if_pos hz, subs_snoc]
        exact h2
      · have hz : ¬ wd ns i ≠ 0 := by simpa using hb
        refine ⟨(ex.trans e3).trans e4, some (.int i), some (.int (wd ns i)), x4, d, us, rfl, (e3.trans e4) d _ hd, ?_⟩
        rw [nzs_succ, if_neg hz]
        exact paired_imp (fun _ _ q => TupI.ex e4 q) hus3
    · rintro σ' H' ⟨ex, x2, x3, x4, d, us, rfl, hd, hus⟩
      refine s_retL (xs := us.drop 1) (by rw [← cut1]; exact el_sl (K := K) (ev_var rfl) (eo_some ev_c) eo_none (sq_of hd)) fun p H3 _ e3 h3 => q _ _ (((e1.trans e2).trans ex).trans e3) ⟨p, _, rfl, h3, ?_⟩
      rw [List.length_map] at hus
      exact paired_imp (fun _ _ q => TupI.ex e3 q) (paired_drop hus)
theorem ep_running_openings {E : XK} {σ : L2.St} {H : Hp} {ta : TA} {v : V} {ns : List Int} (h : EvA ta σ H [v]) (hv : LstI H v ns) (hl : ns.length ≤ 3) : EvP (tCall sp_running_openings [] E ta) σ H (fun v H => RowsAt H v ((subsOf (nzs ns ns.length)).drop 1)) := ep_call ns h fun H1 e => ⟨v, rfl, hv.ex e, hl⟩
abbrev sp_l_all_openings : Sp := fsp (fun (m : Nat) vs H => vs = [.int (m : Int)] ∧ m ≤ 3) (fun m v H => RowsAt H v (subsOf ((List.range m).map fun (j : Nat) => (j : Int))))
theorem range_lot : ∀ m : Nat, ∀ o ∈ subsOf ((List.range m).map fun (j : Nat) => (j : Int)), LotOk m o ∧ o.length ≤ m
  | 0 => fun o ho => by
    simp [subsOf] at ho
    subst ho
    exact ⟨⟨(fun i x h => by simp at h), (fun i x y h => by simp at h)⟩, Nat.le_refl 0⟩
  | m + 1 => fun o ho => by
    have ih := range_lot m
    rw [List.range_succ, List.map_append, List.map_cons, List.map_nil, subs_snoc] at ho
    rcases List.mem_append.mp ho with h | h
    · obtain ⟨⟨a, b⟩, c⟩ := ih o h
      exact ⟨⟨fun i x hx => by have := a i x hx; omega, b⟩, by omega⟩
    · obtain ⟨x, hx, rfl⟩ := List.mem_map.mp h
      obtain ⟨⟨a, b⟩, c⟩ := ih x hx
      refine ⟨⟨fun i y hy => ?_, fun i y z hy hz => ?_⟩, by simp; omega⟩
      · rw [List.getElem?_append] at hy
        split at hy
        · have := a i y hy
          omega
        · rw [List.getElem?_singleton] at hy
          split at hy
          · cases hy
            omega
          · cases hy
      · rw [List.getElem?_append] at hy hz
        split at hy
        · split at hz
          · exact b i y z hy hz
          · have := a i y hy
            rw [List.getElem?_singleton] at hz
            split at hz
            · cases hz
              omega
            · cases hz
        · rw [List.getElem?_singleton] at hy
          split at hy
          · rw [if_neg (by omega), List.getElem?_singleton, if_neg (by omega)] at hz
            cases hz
          · cases hy
theorem has_l_all_openings (T : Tops K mg C) : Has P w K mg base 1 "_law_all_openings" ["_law_many"] sp_l_all_openings := by
  refine T.d_l_all_openings.has sc_l_all_openings (fun vs H Q E h => ?_) (fun f cdv A outer s H vs Q E hr h => ?_)
  · obtain ⟨_, ⟨rfl, _⟩, _⟩ := h; rfl
  · obtain ⟨m, ⟨rfl, hm⟩, q⟩ := h
    refine ⟨_, (pss_cons (ps_set (i := 1) sc_l_all_openings.nd rfl (.inl rfl) (pe_lst (pa_cons (pe_tup pa_nil) pa_nil)))
      (pss_cons (ps_for PassesOwn.never rfl (pi_range1 (by rfl) T.b_range (pa_cons (pv 0) pa_nil)) (pg_name (i := 2) sc_l_all_openings.nd rfl (Or.inr rfl))
        (pss_one (ps_set (i := 1) sc_l_all_openings.nd rfl (.inl rfl) (pe_op op_cat (pv 1) (pe_lc (own := [("_law_opening", 3)]) rfl sc_l_all_openings.nd (pi_list (pv 1)) (blkOk_by (own := [("_law_opening", 3)]) (N := N_l_all_openings) (sc := defScope s_l_all_openings) (by decide +kernel)) (fun _ _ _ _ _ => (pg_name (i := 3) sc_l_all_openings.nd rfl (Or.inl rfl))) (fun _ _ _ _ _ => pts_nil) (fun _ _ _ _ _ => (pe_op (r := rCatA K) op_catA (pv 3) (pe_tup (pa_cons (pv 2) pa_nil)))))))))
      (pss_one (ps_ret (pv 1))))), ?_⟩
    refine p_asgN (P := fun p H1 => ∃ v, H1 p = some (.lst [v]) ∧ TupI H1 v []) (en_lst1 (epT_of (eu_tup (vs := []) ea_nil (by show 0 ≤ 100000; decide))) (fun v H1 H2 e h => h.ex e)) fun D H1 hD e1 ⟨wv, hws, hwv⟩ => ?_
    have hwP : Paired (TupI H1) [wv] [[]] := .cons hwv .nil
    refine q_forI (ei_rng1 (j := (m : Int)) (ea_cons (ev_var rfl) ea_nil) ⟨by omega, by omega⟩) fun H2 e2 => ⟨fun i σ' H' => Ex H2 H' ∧ ∃ x2 x3, ∃ (d : Addr) (us : List V), σ' = [some (.int (m : Int)), some (.ref d), x2, x3] ∧ H' d = some (.lst us) ∧ Paired (TupI H') us (subsOf ((List.range i).map fun (j : Nat) => (j : Int))),
      ⟨Ex.refl _, none, none, D, [wv], rfl, e2 D _ hws, paired_imp (fun _ _ q => q.ex e2) hwP⟩, fun i σ' H' h => h.1, ?_, ?_⟩
    · rintro i x σ' H' H'' hi ⟨ex, x2, x3, d, us, rfl, hd, hus⟩ e3 rfl
      rw [Int.toNat_natCast] at hi
      refine eg_name _ ?_
      have hus3 := paired_imp (fun _ _ q => TupI.ex e3 q) hus
      have hb := range_lot i
      have hbl : (subsOf ((List.range i).map fun (j : Nat) => (j : Int))).length ≤ 8 := by
        have h1 : (subsOf ((List.range i).map fun (j : Nat) => (j : Int))).length = 1 * 2 ^ ((List.range i).map fun (j : Nat) => (j : Int)).length := subs_len _ _
        rw [List.length_map, List.length_range] at h1
        have h3 : 2 ^ i ≤ 2 ^ 3 := Nat.pow_le_pow_right (by decide) (by omega)
        omega
      refine (en_more (K := K) (k := (i : Int)) rfl (by decide) (e3 d _ hd) hus3 rfl (by decide) rfl (by show 3 < 4; decide) (by omega) (fun o ho => Nat.le_trans (hb o ho).2 (by omega))) H'' (Ex.refl _) _ fun p H5 _ e5 ⟨us', h1, h2⟩ => ?_
      refine ⟨(ex.trans e3).trans e5, some (.int i), x3, p, us', rfl, h1, ?_⟩
      rw [List.range_succ, List.map_append, List.map_cons, List.map_nil, subs_snoc]
      exact h2
    · rintro σ' H' ⟨ex, x2, x3, d, us, rfl, hd, hus⟩
      rw [Int.toNat_natCast] at hus
      exact s_ret (v := .ref d) (ev_var rfl) fun H3 e3 => q _ _ (((e1.trans e2).trans ex).trans e3) ⟨d, us, rfl, e3 d _ hd, paired_imp (fun _ _ q => TupI.ex e3 q) hus⟩
theorem ep_l_all_openings {E : XK} {σ : L2.St} {H : Hp} {ta : TA} {m : Nat} (h : EvA ta σ H [.int (m : Int)]) (hm : m ≤ 3) : EvP (tCall sp_l_all_openings [] E ta) σ H (fun v H => RowsAt H v (subsOf ((List.range m).map fun (j : Nat) => (j : Int)))) := ep_call m h fun H1 e => ⟨rfl, hm⟩
end
end TW
namespace TW
open PySem PySem.Spec PyProof.Rows L2 Evl
/-- a promise of a new object -/
def fspN {α : Type} (pre : α → List V → Hp → Prop) (post : α → Addr → Hp → Prop) : Sp := fun vs H Q _ => ∃ a, pre a vs H ∧ ∀ p H', H p = none → Ex H H' → post a p H' → Q (.ref p) H'
section
variable {K : PySem.W.Frag} {σ : L2.St} {H H' : Hp} {te tl tb : TE} {v : V} {D : Ends} {tz : TS}
theorem en_call {α : Type} {pre : α → List V → Hp → Prop} {post : α → Addr → Hp → Prop} {E : XK} {ta : TA} {vs : List V} (a : α) (h : EvA ta σ H vs) (hp : ∀ H1, Ex H H1 → pre a vs H1) : EvN (tCall (fspN pre post) [] E ta) σ H (post a) := fun H1 e Q q =>
  h H1 e _ fun H2 e2 => by
    rw [List.append_nil]
    exact ⟨a, hp H2 (e.trans e2), fun p H3 n3 e3 p3 => q p H3 (fresh_back e2 n3) (e2.trans e3) p3⟩
theorem en_callQ {α : Type} {pre : α → List V → Hp → Prop} {post : α → Addr → Hp → Prop} {E : XK} {ta : TA} {Pa : List V → Hp → Prop} (a : α) (h : EvQ ta σ H Pa) (hp : ∀ vs H1, Ex H H1 → Pa vs H1 → pre a vs H1) : EvN (tCall (fspN pre post) [] E ta) σ H (post a) := fun H1 e Q q =>
  h H1 e _ fun vs H2 e2 pa => by
    rw [List.append_nil]
    exact ⟨a, hp vs H2 (e.trans e2) pa, fun p H3 n3 e3 p3 => q p H3 (fresh_back e2 n3) (e2.trans e3) p3⟩
theorem EvN.imp {P P' : Addr → Hp → Prop} (h : EvN te σ H P) (k : ∀ p H1, Ex H H1 → P p H1 → P' p H1) : EvN te σ H P' := fun H1 e Q q => h H1 e Q fun p H2 n e2 pp => q p H2 n e2 (k p H2 (e.trans e2) pp)
theorem et_dnotin {b : Bool} {ty td : TE} (h : Ev (tDNotIn ty td) σ H (.bl b)) : EvT (tB (tDNotIn ty td)) σ H b := et_B h
/-- d[y] = a new object -/
theorem q_dputN {P : Addr → Hp → Prop} {td ty tv : TE} {a b : Addr} {kvs : List (List Key × V)} {k : List Key} (hv : EvN tv σ H P) (hd : Ev td σ H (.ref a)) (hy : Ev ty σ H (.ref b)) (h : H a = some (.dT kvs)) (hb : H b = some (.tup (k.map kV))) (hl : kvs.length < 100000)
    (q : ∀ p H1 H2, H p = none → Ex H H1 → P p H1 → Ex H1 H2 → tz D σ (upd H2 a (.dT (putK kvs k (.ref p))))) : tSeq (sDPut td ty tv) tz D σ H :=
  hv H (Ex.refl H) _ fun p H1 np e1 p1 => hd H1 e1 _ fun H2 e2 => hy H2 (e1.trans e2) _ fun H3 e3 => ⟨a, _, rfl, .inr ⟨kvs, k, b, ((e1.trans e2).trans e3) a _ h, rfl, ((e1.trans e2).trans e3) b _ hb, sz_lt hl, rfl⟩, q p H1 H3 np e1 p1 (e2.trans e3)⟩
end
section
variable {P : Program} {w : World} {K : PySem.W.Frag} {mg : Str → Option Value} {base : Heap} {C : Addr} {mgX : Str → Option Value}
local macro_rules | `(tactic| walk_at "rv") => `(tactic| first
  | exact rv_I0
  | exact rv_eq rfl
  | exact rv_ne rfl
  | exact rv_isN
  | exact rv_notN
  | (apply rv_I; (try dsimp only); first | omega | assumption | exact ⟨by omega, by omega⟩ | exact Or.inl ⟨by omega, by omega⟩ | exact Or.inr ⟨by omega, by omega⟩)
  | (apply rv_ix0; assumption; rfl)
  | (apply rv_ix1; assumption; rfl)
  | (apply rv_ix2; assumption; rfl)
  | (apply rv_ix4; assumption; rfl))
local macro_rules | `(tactic| walk_at "ea") => `(tactic| first
  | exact ea_nil
  | (apply ea_cons; walk_at "ev"; walk_at "ea"))
local macro_rules | `(tactic| walk_at "ev") => `(tactic| first
  | exact ev_c
  | (apply ev_var; rfl)
  | (apply ev_op; walk_at "ev"; walk_at "ev"; walk_at "rv")
  | (apply ev_un; walk_at "ev"; exact ru_neg)
  | (apply ev_isiII; walk_at "ea")
  | (apply ev_isiIB; walk_at "ea")
  | (apply ev_isiTT; assumption; walk_at "ea")
  | (apply ev_lenT; assumption; walk_at "ev")
  | (apply ev_lenL; assumption; walk_at "ev")
  | (apply ev_andV; walk_at "ev"; intro _; walk_at "ev")
  | (apply ev_orV; walk_at "ev"; intro _; walk_at "ev")
  | (apply ev_notV; walk_at "ev")
  | (apply ev_chain; walk_at "ev"; walk_at "ev"; walk_at "ev"; walk_at "rv"; walk_at "rv")
  | (apply ev_abs; walk_at "ea")
  | (apply ev_int; walk_at "ea"))
local macro_rules | `(tactic| walk_at "et") => `(tactic| first
  | (apply et_test; walk_at "ev")
  | (apply et_B; walk_at "ev")
  | (apply et_not; walk_at "et")
  | (apply et_and; walk_at "et"; intro _; walk_at "et")
  | (apply et_or; walk_at "et"; intro _; walk_at "et"))

local macro_rules | `(tactic| walk_at "ev") => `(tactic| ((with_reducible apply ev_is_integer); walk_at "ea"))
local macro_rules | `(tactic| walk_at "ev") => `(tactic| ((with_reducible apply ev_is_between); walk_at "ea"))
local macro_rules | `(tactic| walk_at "ev") => `(tactic| ((with_reducible apply ev_divisor); walk_at "ea"))
local macro_rules | `(tactic| walk_at "ev") => `(tactic| ((with_reducible apply ev_is_width); walk_at "ea"))
abbrev sp_ways_on (C : Addr) : Sp := fspN (fun (a : WPF × Bool) vs H => ∃ wv fv, vs = [wv, fv, .bl a.2] ∧ PreF C a.1 wv fv H) (fun a p H => ∃ kvs, H p = some (.dT kvs) ∧ KeysOf kvs (nexts a.1.1 a.1.2.1 a.2 a.1.2.2))
theorem insAll_take {f : List Int → Fil} {os : List (List Int)} {g : List Int → Bool} {i : Nat} {o : List Int} (h : os[i]? = some o) (ks : List Fil) : insAll f ((os.take (i + 1)).filter g) ks = if g o then insK (insAll f ((os.take i).filter g) ks) (f o) else insAll f ((os.take i).filter g) ks := by
  unfold insAll
  rw [List.take_add_one, h, Option.toList_some, List.filter_append, List.filter_cons, List.filter_nil]
  split
  · rw [List.foldl_append]
    rfl
  · rw [List.append_nil]
theorem has_ways_on (T : Tops K mg C) : Has P w K mg base 3 "ways_on" ["web", "filling", "single"] (sp_ways_on C) := by
  refine T.d_ways_on.has sc_ways_on (fun vs H Q E h => ?_) (fun f cdv A outer s H vs Q E hr h => ?_)
  · obtain ⟨_, ⟨_, _, rfl, _⟩, _⟩ := h; rfl
  · obtain ⟨⟨⟨ws, ps, fill⟩, single⟩, ⟨wv, fv, rfl, hP⟩, q⟩ := h
    refine ⟨_, (pss_cons (ps_set (i := 3) sc_ways_on.nd rfl (.inl rfl) (pe_fn (has_flows_of T) (hr.mono (by decide)) (by rfl) (pa_cons (pv 0) (pa_cons (pv 1) pa_nil))))
      (pss_cons (ps_set (i := 4) sc_ways_on.nd rfl (.inl rfl) pe_dnewT)
      (pss_cons (ps_for PassesOwn.never rfl (pi_list (pe_fn (has_running_openings T) (hr.mono (by decide)) (by rfl) (pa_cons (pv 3) pa_nil))) (pg_name (i := 5) sc_ways_on.nd rfl (Or.inl rfl))
        (pss_cons (ps_if (PW.pt (pw_and (pt_val (pv 2)) (pw_and1 (pt_cmpR op_gt (pe_callB (r := rLenS K) call_len_seq (by rfl) T.b_len (by decide +kernel) (pa_cons (pv 5) pa_nil)) pe_int (nomark _)))))
          (pss_one ps_continue)
          pss_nil)
        (pss_one (ps_expr (pe_dsetdT (hu_of hr) (pv 4) (pe_fn (has_moved T) (hr.mono (by decide)) (by rfl) (pa_cons (pv 0) (pa_cons (pv 1) (pa_cons (pe_fn (has_opened T) (hr.mono (by decide)) (by rfl) (pa_cons (pv 3) (pa_cons (pv 5) pa_nil))) pa_nil)))) (pv 5) mk_m2)))))
      (pss_one (ps_ret (pv 4)))))), ?_⟩
    simp only at hP
    have hl3 : ps.length ≤ 3 := hP.2.2.1.pip
    have fl := flows_len ws ps fill
    refine p_asg (ep_flows_of (ws, ps, fill) (by walk_at "ea") hP) fun v H1 e1 hv => ?_
    obtain ⟨np, rfl, hn⟩ := hv
    simp only at hn
    refine p_asgN en_dnew fun D H2 hD e2 h2 => ?_
    have e12 := e1.trans e2
    have hDH : H D = none := fresh_back e1 hD
    generalize hL : (subsOf (nzs (flowsAt ws ps fill) (flowsAt ws ps fill).length)).drop 1 = L
    have hLl : L.length ≤ 8 := by
      have := (subs_bd (flowsAt ws ps fill) (flowsAt ws ps fill).length (by omega)).1
      rw [← hL, List.length_drop]
      omega
    refine q_forJ (S := (· = D)) (n := L.length) (Y := fun i x H' => ∃ o, L[i]? = some o ∧ TupI H' x o) (ej_pL (Pn := fun xs H' => Paired (TupI H') xs L) ((ep_running_openings (ns := flowsAt ws ps fill) (by walk_at "ea") ⟨np, rfl, e2 np _ hn⟩ (by omega)).imp fun v H3 e3 ⟨a, xs, ev, ha, hx⟩ => ?_) fun xs H3 H4 i x e3 e4 hx hxi => ?_) fun H3 e3 => ?_
    · rw [hL] at hx
      exact ⟨a, xs, ev, ha, (fun z => by rw [z, e3 D _ h2] at ha; cases ha), Paired.length hx, hx⟩
    · obtain ⟨o, ho, hxo⟩ := paired_get' hx hxi
      exact ⟨o, ho, hxo.tex (e4.tex fun a ys z => by rw [z, e3 D _ h2]; exact fun y => nomatch y)⟩
    · refine ⟨fun i σ' H' => ExS (· = D) H3 H' ∧ (∃ x5, σ' = [some wv, some fv, some (.bl single), some (.ref np), some (.ref D), x5]) ∧ ∃ kvs, H' D = some (.dT kvs) ∧ KeysOf kvs (insAll (fun o => tickAt ws ps fill (some o)) ((L.take i).filter fun o => !(single && decide (1 < o.length))) []),
        ⟨ExS.refl _, ⟨_, rfl⟩, [], e3 D _ h2, rfl⟩, fun i σ' H' h => h.1, ?_, ?_⟩
      · rintro i x σ' H' H'' hi ⟨ex, ⟨x5, rfl⟩, kvs, hk, hks⟩ e4 ⟨o, ho, hxo⟩
        refine eg_name _ ?_
        obtain ⟨op, rfl, hop⟩ := hxo
        have ea : Ex H H'' := (ExS.ex (S := (· = D)) (((exs_of (e12.trans e3)).trans ex).trans (exs_of e4)) (fun a h => by rw [h]; exact hDH))
        have hn' : H'' np = some (.lst (vI (flowsAt ws ps fill))) := e4 np _ (ex np _ (fun z => by
          have := e2 np _ hn
          rw [z, h2] at this
          cases this) (e3 np _ (e2 np _ hn)))
        refine q_when (b := single && decide (1 < o.length)) ?_ (fun hb H5 e5 => ?_) (fun hb H5 e5 => ?_)
        · apply et_and
          · walk_at "et"
          · intro _
            refine et_is (et_test (ev_op (ev_lenT hop (ev_var rfl)) ev_c rv_I0)) ?_
            rw [List.length_map]
            simp
            omega
        · refine ⟨(ex.trans (exs_of e4)).trans (exs_of e5), ⟨_, rfl⟩, kvs, (e4.trans e5) D _ hk, ?_⟩
          rw [insAll_take ho, if_neg (by rw [hb]; exact Bool.false_ne_true)]
          exact hks
        · have hk5 := (e4.trans e5) D _ hk
          have hst : insAll (fun o => tickAt ws ps fill (some o)) ((L.take (i + 1)).filter fun o => !(single && decide (1 < o.length))) [] = insK (insAll (fun o => tickAt ws ps fill (some o)) ((L.take i).filter fun o => !(single && decide (1 < o.length))) []) (tickAt ws ps fill (some o)) := by
            rw [insAll_take ho, if_pos (by rw [hb]; rfl)]
          generalize hG : insAll (fun o => tickAt ws ps fill (some o)) ((L.take i).filter fun o => !(single && decide (1 < o.length))) [] = G at hks hst
          have hGl : G.length ≤ 8 := by
            have h1 := insAll_len (f := fun o => tickAt ws ps fill (some o)) (os := (L.take i).filter fun o => !(single && decide (1 < o.length))) (ks := [])
            have h2 := List.length_filter_le (fun o => !(single && decide (1 < o.length))) (L.take i)
            rw [List.length_take] at h2
            rw [hG, List.length_nil] at h1
            omega
          have hkl := keys_len hks
          refine s_dset (k := kI (tickAt ws ps fill (some o))) (v := .ref op) (P := fun _ _ => True) (ev_var rfl) ((ep_moved (ws, ps, fill) (ns := openedAt (flowsAt ws ps fill) (some o)) ((eq_ev (ev_var rfl) (eq_ev (ev_var rfl) (eq_one (ep_opened (ns := flowsAt ws ps fill) (o := some o) (nv := .ref np) (ov := .ref op) (ea_cons (ev_var rfl) (ea_cons (ev_var rfl) ea_nil)) ⟨np, rfl, e5 np _ hn'⟩ (by omega) ⟨op, rfl, e5 op _ hop⟩)))).imp fun vs H6 e6 hv => ?_) (hP.ex (ea.trans e5)) (by rw [opened_len, fl])).imp fun v H6 e6 hv => ?_) (ev_var rfl) hk5 (by omega) (fun hs H6 e6 => ?_) (fun hn H6 e6 => ?_)
          · obtain ⟨r, rfl, r2, rfl, z, rfl, b, rfl, hb⟩ := hv
            exact ⟨_, rfl, b, rfl, hb⟩
          · obtain ⟨b, rfl, hb⟩ := hv
            exact ⟨b, rfl, by rw [kI_kV]; exact hb⟩
          · refine ⟨((ex.trans (exs_of e4)).trans (exs_of e5)).trans (exs_of e6), ⟨_, rfl⟩, kvs, e6 D _ hk5, ?_⟩
            rw [keys_some hks] at hs
            rw [hst]
            unfold insK
            rw [if_pos (of_decide_eq_true hs)]
            exact hks
          · refine ⟨(((ex.trans (exs_of e4)).trans (exs_of e5)).trans (exs_of e6)).mut rfl, ⟨_, rfl⟩, _, upd_same, ?_⟩
            have hnot : tickAt ws ps fill (some o) ∉ G := by
              have := keys_some hks (tickAt ws ps fill (some o))
              rw [hn] at this
              exact of_decide_eq_false this.symm
            rw [hst]
            unfold insK
            rw [if_neg hnot]
            exact (keys_put hks hnot _).2
      · rintro σ' H' ⟨ex, ⟨x5, rfl⟩, kvs, hk, hks⟩
        rw [List.take_of_length_le (Nat.le_refl _), ← hL] at hks
        have ea : Ex H H' := (ExS.ex (S := (· = D)) ((exs_of (e12.trans e3)).trans ex) (fun a h => by rw [h]; exact hDH))
        exact s_ret (v := .ref D) (ev_var rfl) fun H4 e4 => q _ _ hDH (ea.trans e4) ⟨kvs, e4 D _ hk, hks⟩
theorem en_ways_on {E : XK} {σ : L2.St} {H : Hp} {ta : TA} {wv fv : V} {single : Bool} (a : WPF) (h : EvA ta σ H [wv, fv, .bl single]) (hp : PreF C a wv fv H) : EvN (tCall (sp_ways_on C) [] E ta) σ H (fun p H => ∃ kvs, H p = some (.dT kvs) ∧ KeysOf kvs (nexts a.1 a.2.1 single a.2.2)) :=
  en_call (a, single) h fun H1 e => ⟨wv, fv, rfl, hp.ex e⟩
end
end TW
namespace TW
open PySem PySem.Spec PyProof.Rows L2 Evl
theorem ExS.wk {S S' : Addr → Prop} {H H' : Hp} (h : ExS S H H') (k : ∀ a, S a → S' a) : ExS S' H H' := fun a o n e => h a o (fun z => n (k a z)) e
theorem lock_back {S : Addr → Prop} {H H' : Hp} {d : Addr} {o u : HO} (h : H d = some u) (e : ExS S (upd H d o) H') : ExS S H (upd H' d u) := fun a v n ha => by
  by_cases hd : a = d
  · subst hd
    rw [upd_same, ← h, ha]
  · rw [upd_ne hd]
    exact e a v n (by rw [upd_ne hd]; exact ha)
theorem q_lock {t tz : TS} {D : Ends} {σ : L2.St} {H : Hp} {d : Addr} {u : HO} (h : H d = some u) (mu : Mut (some u))
    (k : ∀ od, t ⟨fun σ' H' => H' d = some (.frz od u) ∧ tz D σ' (upd H' d u), fun v H' => H' d = some (.frz od u) ∧ D.rt v (upd H' d u), fun σ' H' => H' d = some (.frz od u) ∧ D.bk σ' (upd H' d u), fun σ' H' => H' d = some (.frz od u) ∧ D.ct σ' (upd H' d u)⟩ σ (upd H d (.frz od u))) : tSeq (tLock t) tz D σ H := ⟨d, u, h, mu, k⟩
theorem nodup_sub {l : List Fil} : ∀ {R : List Fil}, l.Nodup → (∀ x ∈ l, x ∈ R) → l.length ≤ R.length := by
  induction l with
  | nil => exact fun _ _ => Nat.zero_le _
  | cons x l ih =>
    intro R hn hs
    have hx := hs x (by simp)
    rw [List.nodup_cons] at hn
    have h := ih (R := R.erase x) hn.2 fun y hy => (List.mem_erase_of_ne (fun e => hn.1 (by rw [← e]; exact hy))).mpr (hs y (by simp [hy]))
    rw [List.length_erase_of_mem hx] at h
    have := List.length_pos_of_mem hx
    rw [List.length_cons]
    omega
theorem nodup_take {l : List Fil} {i : Nat} {x : Fil} (h : l.Nodup) (hx : l[i]? = some x) : x ∉ l.take i := fun z => by
  rw [← List.take_append_drop i l, List.nodup_append] at h
  refine h.2.2 x z x (List.mem_of_getElem? (i := 0) ?_) rfl
  rw [List.getElem?_drop]
  exact hx
/-! ### where a play may come -/
structure ClosedR (sc : Fil → List Fil) (x : Fil) (R : List Fil) : Prop where
  mem : x ∈ R
  clo : ∀ x ∈ R, ∀ y ∈ sc x, y ∈ R
  len : R.length ≤ 60
structure ComOk (sc : Fil → List Fil) (x : Fil) (keys : List Fil) : Prop where
  nd : keys.Nodup
  mem : x ∈ keys
  clo : ∀ x ∈ keys, ∀ y ∈ sc x, y ∈ keys
  len : keys.length ≤ 60
def ComAt (H : Hp) (p : Addr) (keys : List Fil) (sc : Fil → List Fil) : Prop := ∃ kvs, H p = some (.dT kvs) ∧ KeysOf kvs keys ∧ ∀ x ∈ keys, ∃ e kvw, valV kvs (kI x) = some (.ref e) ∧ e ≠ p ∧ H e = some (.dT kvw) ∧ KeysOf kvw (sc x)
theorem ComAt.ex {H H' : Hp} {p : Addr} {keys : List Fil} {sc : Fil → List Fil} (e : Ex H H') (h : ComAt H p keys sc) : ComAt H' p keys sc := by
  obtain ⟨kvs, h1, h2, h3⟩ := h
  refine ⟨kvs, e p _ h1, h2, fun x hx => ?_⟩
  obtain ⟨d, kvw, a, b, c, k⟩ := h3 x hx
  exact ⟨d, kvw, a, b, e d _ c, k⟩
theorem keys_get {kvs : List (List Key × V)} {ks : List Fil} (h : KeysOf kvs ks) {i : Nat} {k : List Key} {v : V} (hi : kvs[i]? = some (k, v)) : ∃ y, ks[i]? = some y ∧ k = kI y := by
  have h1 : (kvs.map (·.1))[i]? = some k := by rw [List.getElem?_map, hi]; rfl
  rw [h, List.getElem?_map] at h1
  obtain ⟨y, hy, e⟩ := Option.map_eq_some_iff.mp h1
  exact ⟨y, hy, e.symm⟩
theorem tup_not {H : Hp} {a b : Addr} {xs : List V} {o : HO} (h : H a = some (.tup xs)) (h2 : H b = some o) (n : ∀ ys, o ≠ .tup ys) : a ≠ b := fun z => by
  rw [z, h2] at h
  exact n xs (Option.some.inj h)
theorem insAll_one {ss : List Fil} {i : Nat} {y : Fil} (h : ss[i]? = some y) (ks : List Fil) : insAll id (ss.take (i + 1)) ks = insK (insAll id (ss.take i) ks) y := by
  unfold insAll
  rw [List.take_add_one, h, Option.toList_some, List.foldl_append]
  rfl
section
variable {P : Program} {w : World} {K : PySem.W.Frag} {mg : Str → Option Value} {base : Heap} {C : Addr} {mgX : Str → Option Value}
local macro_rules | `(tactic| walk_at "rv") => `(tactic| first
  | exact rv_I0
  | exact rv_eq rfl
  | exact rv_ne rfl
  | exact rv_isN
  | exact rv_notN
  | (apply rv_I; (try dsimp only); first | omega | assumption | exact ⟨by omega, by omega⟩ | exact Or.inl ⟨by omega, by omega⟩ | exact Or.inr ⟨by omega, by omega⟩)
  | (apply rv_ix0; assumption; rfl)
  | (apply rv_ix1; assumption; rfl)
  | (apply rv_ix2; assumption; rfl)
  | (apply rv_ix4; assumption; rfl))
local macro_rules | `(tactic| walk_at "ea") => `(tactic| first
  | exact ea_nil
  | (apply ea_cons; walk_at "ev"; walk_at "ea"))
local macro_rules | `(tactic| walk_at "ev") => `(tactic| first
  | exact ev_c
  | (apply ev_var; rfl)
  | (apply ev_op; walk_at "ev"; walk_at "ev"; walk_at "rv")
  | (apply ev_un; walk_at "ev"; exact ru_neg)
  | (apply ev_isiII; walk_at "ea")
  | (apply ev_isiIB; walk_at "ea")
  | (apply ev_isiTT; assumption; walk_at "ea")
  | (apply ev_lenT; assumption; walk_at "ev")
  | (apply ev_lenL; assumption; walk_at "ev")
  | (apply ev_andV; walk_at "ev"; intro _; walk_at "ev")
  | (apply ev_orV; walk_at "ev"; intro _; walk_at "ev")
  | (apply ev_notV; walk_at "ev")
  | (apply ev_chain; walk_at "ev"; walk_at "ev"; walk_at "ev"; walk_at "rv"; walk_at "rv")
  | (apply ev_abs; walk_at "ea")
  | (apply ev_int; walk_at "ea"))
local macro_rules | `(tactic| walk_at "et") => `(tactic| first
  | (apply et_test; walk_at "ev")
  | (apply et_B; walk_at "ev")
  | (apply et_not; walk_at "et")
  | (apply et_and; walk_at "et"; intro _; walk_at "et")
  | (apply et_or; walk_at "et"; intro _; walk_at "et"))

local macro_rules | `(tactic| walk_at "ev") => `(tactic| ((with_reducible apply ev_is_integer); walk_at "ea"))
local macro_rules | `(tactic| walk_at "ev") => `(tactic| ((with_reducible apply ev_is_between); walk_at "ea"))
local macro_rules | `(tactic| walk_at "ev") => `(tactic| ((with_reducible apply ev_divisor); walk_at "ea"))
local macro_rules | `(tactic| walk_at "ev") => `(tactic| ((with_reducible apply ev_is_width); walk_at "ea"))
abbrev sp_comings (C : Addr) : Sp := fspN (fun (a : WPF × Bool × List Fil) vs H => ∃ wv fv, vs = [wv, fv, .bl a.2.1] ∧ PreF C a.1 wv fv H ∧ ClosedR (nexts a.1.1 a.1.2.1 a.2.1) a.1.2.2 a.2.2) (fun a p H => ∃ keys, ComOk (nexts a.1.1 a.1.2.1 a.2.1) a.1.2.2 keys ∧ ComAt H p keys (nexts a.1.1 a.1.2.1 a.2.1))
theorem has_comings (T : Tops K mg C) : Has P w K mg base 5 "comings" ["web", "filling", "single"] (sp_comings C) := by
  refine T.d_comings.has sc_comings (fun vs H Q E h => ?_) (fun f cdv A outer s H vs Q E hr h => ?_)
  · obtain ⟨_, ⟨_, _, rfl, _⟩, _⟩ := h; rfl
  · obtain ⟨⟨⟨ws, ps, fill⟩, single, R⟩, ⟨wv, fv, rfl, hP, hR⟩, q⟩ := h
    refine ⟨_, (pss_cons (ps_expr (pe_fn (has_check_filling T) (hr.mono (by decide)) (by rfl) (pa_cons (pv 0) (pa_cons (pv 1) pa_nil))))
      (pss_cons (ps_set (i := 3) sc_comings.nd rfl (.inl rfl) (pe_lst (pa_cons (pv 1) pa_nil)))
      (pss_cons (ps_set (i := 4) sc_comings.nd rfl (.inl rfl) (pe_dispT (hu_of hr) (pv 1) pe_bl))
      (pss_cons (ps_set (i := 5) sc_comings.nd rfl (.inl rfl) pe_dnewT)
      (pss_cons (ps_set (i := 6) sc_comings.nd rfl (.inl rfl) pe_int)
      (pss_cons (ps_while PassesOwn.never (pt_cmpR op_lt (pv 6) (pe_callB (r := rLenS K) call_len_seq (by rfl) T.b_len (by decide +kernel) (pa_cons (pv 3) pa_nil)) (nomark _))
        (pss_cons (ps_set (i := 7) sc_comings.nd rfl (.inl rfl) (pe_ix (r := rIxL K) ix_list (pv 3) (pv 6) (fun _ _ => rfl)))
        (pss_cons (ps_aug (i := 6) sc_comings.nd rfl (.inl rfl) pe_int ip_add)
        (pss_cons (ps_dput (hu_of hr) (pv 5) (pv 7) (pe_fn (has_ways_on T) (hr.mono (by decide)) (by rfl) (pa_cons (pv 0) (pa_cons (pv 7) (pa_cons (pv 2) pa_nil)))) rfl)
        (pss_cons (ps_lock (ps_for PassesOwn.never rfl (pi_keys (pe_dget (hu_of hr) (pv 5) (pv 7) (fun _ _ => rfl))) (pg_name (i := 8) sc_comings.nd rfl (Or.inl rfl))
          (pss_one (ps_if (pt_cmp (pc_dnotin (hu_of hr) (pv 8) (pv 4)) rfl)
            (pss_cons (ps_dput (hu_of hr) (pv 4) (pv 8) pe_bl rfl)
            (pss_one (ps_expr (pe_bm PySem.F.plainAttrs_list PySem.F.slot_list_append PySem.F.type_list_append mt_append (pv 3) (pa_cons (pv 8) pa_nil)))))
            pss_nil))))
        (pss_one (ps_if (pt_cmpR op_gt (pe_callB (r := rLenS K) call_len_seq (by rfl) T.b_len (by decide +kernel) (pa_cons (pv 3) pa_nil)) (pe_gint T.g_MOST (by rfl)) (nomark _))
          (pss_one ps_never)
          pss_nil)))))))
      (pss_one (ps_ret (pv 5))))))))), ?_⟩
    simp only at hP hR
    generalize hsc : nexts ws ps single = sc at hR
    refine q_drop (ev_check_filling (ws, ps, fill) (by walk_at "ea") hP) fun H1 e1 => ?_
    obtain ⟨fp, rfl, hf⟩ := id hP.2.1
    simp only at hf
    refine q_asgL (xs := [.ref fp]) (el_lst (ea_cons (ev_var rfl) ea_nil) (by show 1 ≤ 100000; decide)) fun Do H2 hDo e2 h2 => ?_
    have e12 := e1.trans e2
    refine p_asgN (en_disp (k := kI fill) (ev_var rfl) (by rw [kI_kV]; exact e12 fp _ hf) (ev_c (v := .bl true))) fun Dm H3 hDm e3 h3 => ?_
    refine p_asgN en_dnew fun Df H4 hDf e4 h4 => ?_
    refine q_asg (v := .int 0) ev_c fun H5 e5 => ?_
    have nDo : H Do = none := fresh_back e1 hDo
    have nDm : H Dm = none := fresh_back e12 hDm
    have nDf : H Df = none := fresh_back (e12.trans e3) hDf
    have e15 : Ex H H5 := ((e12.trans e3).trans e4).trans e5
    have d1 : Dm ≠ Do := fun z => by rw [z, h2] at hDm; cases hDm
    have d2 : Df ≠ Do := fun z => by rw [z, e3 _ _ h2] at hDf; cases hDf
    have d3 : Df ≠ Dm := fun z => by rw [z, h3] at hDf; cases hDf
    let S3 : Addr → Prop := fun a => a = Do ∨ a = Dm ∨ a = Df
    have nS3 : ∀ a, S3 a → H a = none := fun a z => by
      rcases z with z | z | z <;> rw [z] <;> assumption
    refine q_while (fun m σ' H' => ∃ (at_ : Nat) (ord : List Fil) (vs : List V) (kvm kvf : List (List Key × V)) (x7 x8 : Option V),
      σ' = [some wv, some (.ref fp), some (.bl single), some (.ref Do), some (.ref Dm), some (.ref Df), some (.int (at_ : Int)), x7, x8] ∧ m = 60 - at_ ∧ at_ ≤ ord.length ∧ ExS S3 H5 H' ∧ H' Do = some (.lst vs) ∧ Paired (TupI H') vs ord ∧ H' Dm = some (.dT kvm) ∧ KeysOf kvm ord ∧
      H' Df = some (.dT kvf) ∧ KeysOf kvf (ord.take at_) ∧ ord.Nodup ∧ (∀ x ∈ ord, x ∈ R ∧ FillOk ws x) ∧ fill ∈ ord ∧ ∀ x ∈ ord.take at_, (∀ y ∈ sc x, y ∈ ord) ∧ ∃ e kvw, valV kvf (kI x) = some (.ref e) ∧ ¬ S3 e ∧ H' e = some (.dT kvw) ∧ KeysOf kvw (sc x)) 60
      ⟨0, [fill], [.ref fp], [(kI fill, .bl true)], [], none, none, rfl, rfl, by simp, ExS.refl _, ((e3.trans e4).trans e5) _ _ h2, .cons ⟨fp, rfl, e15 fp _ hf⟩ .nil, (e4.trans e5) _ _ h3, rfl, e5 _ _ h4, rfl, by simp, fun x hx => by
        rw [List.mem_singleton] at hx
        subst hx
        exact ⟨hR.mem, hP.2.2.2⟩, by simp, fun x hx => by simp at hx⟩ ?_
    rintro m σ' H' ⟨at_, ord, vs, kvm, kvf, x7, x8, rfl, rfl, hat, ex, ho, hop, hm, hmk, hf2, hfk, hnd, hin, hst, hdone⟩
    have hlen := Paired.length hop
    have hordR := nodup_sub hnd fun x hx => (hin x hx).1
    have hR60 := hR.len
    refine ⟨decide ((at_ : Int) < (vs.length : Int)), et_test (ev_op (ev_var rfl) (ev_lenL ho (ev_var rfl)) rv_I0), fun hb H6 e6 => ?_, fun hb H6 e6 => ?_⟩
    · have hlt : at_ < ord.length := by
        have := of_decide_eq_true hb
        omega
      obtain ⟨x, hx⟩ : ∃ x, ord[at_]? = some x := ⟨_, List.getElem?_eq_getElem hlt⟩
      obtain ⟨v, hv, hp, rfl, hvx⟩ := paired_at hop hx
      have hxin := hin x (List.mem_of_getElem? hx)
      refine ⟨_, fun σ2 H2 h => h, ?_⟩
      refine q_asg (v := .ref hp) (ev_op (ev_var rfl) (ev_var rfl) (rv_ixLl (e6 _ _ ho) hv)) fun H7 e7 => ?_
      refine q_aug (a := (at_ : Int)) (b := 1) rfl ev_c fun H8 e8 => ?_
      have e68 := (e6.trans e7).trans e8
      have ea8 : Ex H H8 := ((exs_of e15).trans (ex.trans (exs_of e68))).ex nS3
      have hp8 : H8 hp = some (.tup (vI x)) := e68 _ _ hvx
      have hf8 := e68 _ _ hf2
      have xnot : x ∉ ord.take at_ := nodup_take hnd hx
      have hkl := keys_len hfk
      have htl : (ord.take at_).length = at_ := by
        rw [List.length_take]
        omega
      have hsx : sc x = nexts ws ps single x := by rw [← hsc]
      refine q_dputN (k := kI x) (en_ways_on (single := single) (ws, ps, x) (ea_cons (ev_var rfl) (ea_cons (ev_var rfl) (ea_cons (ev_var rfl) ea_nil))) ⟨hP.1.ex ea8, ⟨hp, rfl, hp8⟩, hP.2.2.1, hxin.2⟩) (ev_var rfl) (ev_var rfl) hf8 (by rw [kI_kV]; exact hp8) (by omega) fun e H9 Ha ne e9 he ea => ?_
      obtain ⟨kvw, hkw, hkk⟩ := he
      simp only at hkk
      rw [← hsx] at hkk
      have e8a := e9.trans ea
      have eS : ¬ S3 e := fun z => by
        rcases z with z | z | z
        · rw [z, e68 _ _ ho] at ne
          cases ne
        · rw [z, e68 _ _ hm] at ne
          cases ne
        · rw [z, hf8] at ne
          cases ne
      obtain ⟨pk1, pk2⟩ := keys_put hfk xnot (.ref e)
      have htk : ord.take at_ ++ [x] = ord.take (at_ + 1) := by rw [List.take_add_one, hx]; rfl
      rw [htk] at pk2
      generalize hHb : upd Ha Df (.dT (putK kvf (kI x) (.ref e))) = Hb
      have b8b : ExS S3 H8 Hb := by
        rw [← hHb]
        exact (exs_of e8a).mut (.inr (.inr rfl))
      have t8b : TEx H8 Hb := by
        rw [← hHb]
        exact (tex_of e8a).trans (tex_dT (e8a _ _ hf8))
      have hbe : Hb e = some (.dT kvw) := by
        rw [← hHb, upd_ne (fun z => eS (.inr (.inr z)))]
        exact ea _ _ hkw
      have hbf : Hb Df = some (.dT (putK kvf (kI x) (.ref e))) := by rw [← hHb, upd_same]
      have hbo : Hb Do = some (.lst vs) := by
        rw [← hHb, upd_ne (Ne.symm d2)]
        exact e8a _ _ (e68 _ _ ho)
      have hbm : Hb Dm = some (.dT kvm) := by
        rw [← hHb, upd_ne (Ne.symm d3)]
        exact e8a _ _ (e68 _ _ hm)
      have hbp := t8b _ _ hp8
      have hbop : Paired (TupI Hb) vs ord := paired_imp (fun _ _ q => (q.ex e68).tex t8b) hop
      refine q_lock hbe True.intro fun od => ?_
      have hpe : hp ≠ e := tup_not hbp hbe (fun _ z => nomatch z)
      have eDf : Df ≠ e := fun z => eS (.inr (.inr z.symm))
      have eDo : Do ≠ e := fun z => eS (.inl z.symm)
      have eDm : Dm ≠ e := fun z => eS (.inr (.inl z.symm))
      have tL : TEx Hb (upd Hb e (.frz od (.dT kvw))) := tex_dT hbe
      have hwl := keys_len hkk
      have hnl : (nexts ws ps single x).length ≤ 8 := nexts_len hP.2.2.1.pip
      refine s_forJ (S := fun a => a = Do ∨ a = Dm) (ej_keys (d := e) (ev_dget (k := kI x) (ev_var rfl) (ev_var rfl) (.inl (by rw [upd_ne eDf]; exact hbf)) (by rw [kI_kV, upd_ne hpe]; exact hbp) (by rw [valV_put, if_pos rfl])) upd_same (fun z => by
        rcases z with z | z
        · exact eDo z.symm
        · exact eDm z.symm)) fun Hc ec => ?_
      refine ⟨fun i σ' H' => ExS (fun a => a = Do ∨ a = Dm) Hc H' ∧ ∃ vs' kvm' x8, σ' = [some wv, some (.ref fp), some (.bl single), some (.ref Do), some (.ref Dm), some (.ref Df), some (.int ((at_ : Int) + 1)), some (.ref hp), x8] ∧ H' Do = some (.lst vs') ∧ Paired (TupI H') vs' (insAll id ((sc x).take i) ord) ∧ H' Dm = some (.dT kvm') ∧ KeysOf kvm' (insAll id ((sc x).take i) ord),
        ⟨ExS.refl _, vs, kvm, x8, rfl, ec _ _ (by rw [upd_ne eDo]; exact hbo), paired_imp (fun _ _ q => (q.tex tL).ex ec) hbop, ec _ _ (by rw [upd_ne eDm]; exact hbm), hmk⟩, fun i σ' H' h => h.1, ?_, ?_⟩
      · rintro i y σ' H' H'' hi ⟨exc, vs', kvm', x8', rfl, ho', hop', hm', hmk'⟩ ed ⟨k, v, yq, hkv, rfl, hyq⟩
        obtain ⟨y, hy, rfl⟩ := keys_get hkk hkv
        refine eg_name _ ?_
        have hsi := insAll_one hy ord
        generalize hG : insAll id ((sc x).take i) ord = G at hop' hmk' hsi
        have hGl : G.length ≤ 100 := by
          have h1 := insAll_len (f := id) (os := (sc x).take i) (ks := ord)
          rw [hG, List.length_take] at h1
          rw [hsx] at h1
          omega
        have hpl := Paired.length hop'
        have hml := keys_len hmk'
        have hop2 := paired_imp (fun _ _ q => TupI.ex ed q) hop'
        refine s_when (b := !(valV kvm' (kI y)).isSome) (et_B (ev_dnotin (ev_var rfl) (ev_var rfl) (.inl (ed _ _ hm')) hyq)) (fun hb Hd ed' => ?_) (fun hb Hd ed' => ?_)
        · have hyn : y ∉ G := by
            rw [keys_some hmk'] at hb
            exact of_decide_eq_false (by simpa using hb)
          refine q_dput (P := fun v _ => v = .bl true) (ep_of ev_c) (ev_var rfl) (ev_var rfl) ((ed.trans ed') _ _ hm') (ed' _ _ hyq) (by omega) fun v Hf Hg ef hv eg => ?_
          subst hv
          have edg := (ed'.trans ef).trans eg
          have tg : TEx Hg (upd Hg Dm (.dT (putK kvm' (kI y) (.bl true)))) := tex_dT (edg _ _ (ed _ _ hm'))
          have hyT : TupI (upd Hg Dm (.dT (putK kvm' (kI y) (.bl true)))) (.ref yq) y := ⟨yq, rfl, tg _ _ (edg _ _ (by have h := hyq; rw [kI_kV] at h; exact h))⟩
          have hdo : (upd Hg Dm (.dT (putK kvm' (kI y) (.bl true)))) Do = some (.lst vs') := by
            rw [upd_ne (Ne.symm d1)]
            exact (ed.trans edg) _ _ ho'
          refine s_app hdo (ev_var rfl) (ev_var rfl) (by omega) fun Hh eh => ?_
          have tl : TEx Hh (upd Hh Do (.lst (vs' ++ [.ref yq]))) := tex_lst (eh _ _ hdo)
          refine ⟨((((exc.trans (exs_of (ed.trans edg))).mut (.inr rfl)).trans (exs_of eh)).mut (.inl rfl)), _, putK kvm' (kI y) (.bl true), _, rfl, upd_same, ?_, ?_, ?_⟩
          · rw [hsi]
            unfold insK
            rw [if_neg hyn]
            exact paired_snoc (paired_imp (fun _ _ q => ((((TupI.ex edg q)).tex tg).ex eh).tex tl) hop2) ((hyT.ex eh).tex tl)
          · rw [upd_ne d1]
            exact eh _ _ upd_same
          · rw [hsi]
            unfold insK
            rw [if_neg hyn]
            exact (keys_put hmk' hyn _).2
        · have hyn : y ∈ G := by
            rw [keys_some hmk'] at hb
            simpa using hb
          refine ⟨(exc.trans (exs_of ed)).trans (exs_of ed'), vs', kvm', _, rfl, (ed.trans ed') _ _ ho', ?_, (ed.trans ed') _ _ hm', ?_⟩
          · rw [hsi]
            unfold insK
            rw [if_pos hyn]
            exact paired_imp (fun _ _ q => TupI.ex ed' q) hop2
          · rw [hsi]
            unfold insK
            rw [if_pos hyn]
            exact hmk'
      · rintro σ' H' ⟨exc, vs', kvm', x8', rfl, ho', hop', hm', hmk'⟩
        have exb : ExS (fun a => a = Do ∨ a = Dm) (upd Hb e (.frz od (.dT kvw))) H' := (exs_of ec).trans exc
        refine ⟨exb e _ (fun z => by
          rcases z with z | z
          · exact eDo z.symm
          · exact eDm z.symm) upd_same, ?_⟩
        have hlk := lock_back hbe exb
        have he' : H' e = some (.frz od (.dT kvw)) := exb e _ (fun z => by
          rcases z with z | z
          · exact eDo z.symm
          · exact eDm z.symm) upd_same
        have tU : TEx H' (upd H' e (.dT kvw)) := tex_upd he' (fun _ z => nomatch z)
        rw [hwl, List.take_of_length_le (Nat.le_refl _)] at hop' hmk'
        generalize hO : insAll id (sc x) ord = O at hop' hmk'
        have mO : ∀ y, y ∈ O ↔ y ∈ ord ∨ y ∈ sc x := fun y => by
          rw [← hO, mem_insAll]
          simp
        have hOnd : O.Nodup := by
          rw [← hO]
          exact insAll_nodup hnd
        have hOin : ∀ y ∈ O, y ∈ R ∧ FillOk ws y := fun y hy => by
          rcases (mO y).mp hy with h | h
          · exact hin y h
          · refine ⟨hR.clo x hxin.1 y h, ?_⟩
            rw [hsx] at h
            obtain ⟨o, _, rfl⟩ := mem_nexts.mp h
            exact moved_ok
        have hOl := nodup_sub hOnd fun y hy => (hOin y hy).1
        have hpl := Paired.length hop'
        have hpre : ∃ more, O = ord ++ more := by
          rw [← hO]
          clear hO mO hOnd hOin hOl hpl hop' hmk'
          generalize sc x = ss
          have : ∀ (ss : List Fil) (ks : List Fil), ∃ more, insAll id ss ks = ks ++ more := by
            intro ss
            induction ss with
            | nil => exact fun ks => ⟨[], (List.append_nil ks).symm⟩
            | cons y r ih =>
              intro ks
              obtain ⟨more, h⟩ := ih (insK ks y)
              show ∃ more, insAll id r (insK ks y) = ks ++ more
              rw [h]
              unfold insK
              split
              · exact ⟨more, rfl⟩
              · exact ⟨y :: more, by simp⟩
          exact this ss ord
        obtain ⟨more, hmore⟩ := hpre
        have htO : O.take (at_ + 1) = ord.take (at_ + 1) := by
          rw [hmore, List.take_append_of_le_length (by omega)]
        refine s_when (b := false) ?_ (fun z => nomatch z) fun _ Hz ez => ?_
        · refine et_is (et_test (ev_op (ev_lenL (by rw [upd_ne eDo]; exact ho') (ev_var rfl)) ev_c rv_I0)) ?_
          simp
          omega
        · have hDf' : (upd H' e (.dT kvw)) Df = some (.dT (putK kvf (kI x) (.ref e))) := hlk Df _ (fun z => by
            rcases z with z | z
            · exact d2 z
            · exact d3 z) hbf
          have exz := ((((exs_of e68) : ExS S3 _ _).trans b8b).trans (hlk.wk fun a z => by
            rcases z with z | z
            · exact .inl z
            · exact .inr (.inl z))).trans (exs_of ez)
          refine ⟨60 - (at_ + 1), by omega, at_ + 1, O, vs', kvm', putK kvf (kI x) (.ref e), _, _, rfl, rfl, ?_, ex.trans exz, ez _ _ (by rw [upd_ne eDo]; exact ho'), paired_imp (fun _ _ q => (TupI.tex tU q).ex ez) hop', ez _ _ (by rw [upd_ne eDm]; exact hm'), hmk', ez _ _ hDf', by rw [htO]; exact pk2, hOnd, hOin, (mO _).mpr (.inl hst), fun x' hx' => ?_⟩
          · rw [hmore, List.length_append]
            omega
          · rw [htO, ← htk] at hx'
            rcases List.mem_append.mp hx' with h | h
            · obtain ⟨a, e', kvw', b, c, d, g⟩ := hdone x' h
              refine ⟨fun y hy => (mO y).mpr (.inl (a y hy)), e', kvw', ?_, c, exz _ _ c d, g⟩
              rw [valV_put, if_neg (fun z => xnot (by rw [← kI_inj z]; exact h))]
              exact b
            · rw [List.mem_singleton] at h
              subst h
              refine ⟨fun y hy => (mO y).mpr (.inr hy), e, kvw, ?_, eS, ez _ _ upd_same, hkk⟩
              rw [valV_put, if_pos rfl]
    · have hge : ord.length ≤ at_ := by
        have := of_decide_eq_false hb
        omega
      rw [List.take_of_length_le hge] at hfk hdone
      have exf : ExS S3 H H6 := ((exs_of e15).trans ex).trans (exs_of e6)
      refine s_ret (v := .ref Df) (ev_var rfl) fun H7 e7 => q _ _ nDf ((exf.trans (exs_of e7)).ex nS3) ⟨ord, ⟨hnd, hst, fun x hx => ?_, by omega⟩, kvf, (e6.trans e7) _ _ hf2, hfk, fun x hx => ?_⟩
      · simp only
        rw [hsc]
        exact (hdone x hx).1
      · obtain ⟨a, e', kvw', b, c, d, g⟩ := hdone x hx
        simp only
        rw [hsc]
        exact ⟨e', kvw', b, fun z => c (.inr (.inr z)), (e6.trans e7) _ _ d, g⟩
theorem en_comings {E : XK} {σ : L2.St} {H : Hp} {ta : TA} {wv fv : V} {single : Bool} {R : List Fil} (a : WPF) (h : EvA ta σ H [wv, fv, .bl single]) (hp : PreF C a wv fv H) (hR : ClosedR (nexts a.1 a.2.1 single) a.2.2 R) :
    EvN (tCall (sp_comings C) [] E ta) σ H (fun p H => ∃ keys, ComOk (nexts a.1 a.2.1 single) a.2.2 keys ∧ ComAt H p keys (nexts a.1 a.2.1 single)) := en_call (a, single, R) h fun H1 e => ⟨wv, fv, rfl, hp.ex e, hR⟩
end
end TW
namespace TW
open PySem PySem.Spec PyProof.Rows L2 Evl
section
variable {σ : L2.St} {H : Hp} {wi : TI} {g : TG} {te tk tv : TE} {n : Nat} {Y : Nat → V → Hp → Prop} {d : Addr} {u : HO}
theorem ex_lock {H H1 : Hp} {d : Addr} {o : HO} (e : Ex H H1) : Ex (upd H d o) (upd H1 d o) := fun a v h => by
  by_cases hd : a = d
  · subst hd
    rw [upd_same] at h ⊢
    exact h
  · rw [upd_ne hd] at h ⊢
    exact e a v h
theorem ex_unlock {H H' : Hp} {d : Addr} {o u : HO} (h : H d = some u) (e : Ex (upd H d o) H') : Ex H (upd H' d u) := fun a v ha => by
  by_cases hd : a = d
  · subst hd
    rw [upd_same, ← h, ha]
  · rw [upd_ne hd]
    exact e a v (by rw [upd_ne hd]; exact ha)
theorem en_lockE {P : Addr → Hp → Prop} {P' : Obj → Addr → Hp → Prop} (h : H d = some u) (mu : Mut (some u)) (k : ∀ od, EvN te σ (upd H d (.frz od u)) (P' od)) (hP : ∀ od p H', p ≠ d → H' d = some (.frz od u) → P' od p H' → P p (upd H' d u)) : EvN (tLockE te) σ H P := fun H1 e Q q =>
  ⟨d, u, e d u h, mu, fun od => k od _ (ex_lock e) _ fun p H' np e' hp => by
    have hd : H' d = some (.frz od u) := e' d _ upd_same
    have pd : p ≠ d := fun z => by
      rw [z, upd_same] at np
      cases np
    rw [upd_ne pd] at np
    exact ⟨hd, q p _ np (ex_unlock (e d u h) e') (hP od p H' pd hd hp)⟩⟩
theorem el_lockE {xs : List V} (h : H d = some u) (mu : Mut (some u)) (k : ∀ od, EvL te σ (upd H d (.frz od u)) xs) : EvL (tLockE te) σ H xs := en_lockE (P' := fun _ p H' => H' p = some (.lst xs)) h mu k fun od p H' pd _ hp => by
  rw [upd_ne pd]
  exact hp
/-- {k: v for ..}: a word of the dict made so far -/
theorem en_dcT {vs : List Nat} (W : Addr → Nat → List (List Key × V) → Hp → Prop) (h : EvI wi σ H n Y) (hz : n ≤ 90000) (Wm : ∀ D i kvs H1 H2, Ex H1 H2 → W D i kvs H1 → W D i kvs H2)
    (W0 : ∀ D H1, H D = none → Ex H H1 → H1 D = some (.dT []) → W D 0 [] H1)
    (turn : ∀ D i kvs x H1, H D = none → Ex H H1 → H1 D = some (.dT kvs) → W D i kvs H1 → i < n → Y i x H1 → ∃ σ2 k b, EvG g x (wipe σ vs) H1 σ2 ∧ wipe σ2 vs = wipe σ vs ∧ Ev tk σ2 H1 (.ref b) ∧ H1 b = some (.tup (k.map kV)) ∧ EvP tv σ2 H1 (fun v H2 => W D (i + 1) (putK kvs k v) (upd H2 D (.dT (putK kvs k v))))) :
    EvN (tDcT wi g tYes tk tv vs) σ H (fun p H' => ∃ kvs, H' p = some (.dT kvs) ∧ W p n kvs H') := fun H1 e Q q => by
  refine h H1 e _ fun J H2 e2 go stop yld D hD => ?_
  have hDH : H D = none := fresh_back (e.trans e2) hD
  refine ⟨fun i m H' => i + m = n ∧ Ex H2 H' ∧ ∃ kvs, H' D = some (.dT kvs) ∧ kvs.length ≤ i ∧ W D i kvs H', ⟨n, Nat.zero_add n, Ex.new hD, [], upd_same, Nat.le_refl _, W0 D _ hDH ((e.trans e2).trans (Ex.new hD)) upd_same⟩, ?_⟩
  rintro i m H' ⟨hm, e3, kvs, hk, hl, hw⟩
  by_cases hi : i < n
  · refine .inr ⟨go i H' hi e3, fun H'' => Ex H2 H'' ∧ ∃ kvs, H'' D = some (.dT kvs) ∧ kvs.length ≤ i + 1 ∧ W D (i + 1) kvs H'', fun H'' ⟨a, b⟩ => ⟨m - 1, by omega, by omega, a, b⟩, fun x H4 y => ?_⟩
    obtain ⟨e4, hY⟩ := yld i H' x H4 hi e3 y
    have eA := ((e.trans e2).trans e3).trans e4
    obtain ⟨σ2, k, b, hg, hwp, hkk, hb, hv⟩ := turn D i kvs x H4 hDH eA (e4 D _ hk) (Wm _ _ _ _ _ e4 hw) hi hY
    refine hg _ ⟨hwp, ?_⟩
    unfold tYes
    dsimp only
    rw [if_pos rfl]
    refine hkk H4 (Ex.refl H4) _ fun H5 e5 => hv H5 e5 _ fun v H6 e6 hw6 => ⟨kvs, k, b, rfl, (e5.trans e6) b _ hb, (e5.trans e6) D _ (e4 D _ hk), sz_lt (by omega), ?_⟩
    exact ⟨((e3.trans e4).trans (e5.trans e6)).mut hD, _, upd_same, Nat.le_trans (length_putK _ _ _) (by omega), hw6⟩
  · have hn : i = n := by omega
    subst hn
    exact .inl ⟨stop H' e3, q D H' (fresh_back e2 hD) (e2.trans e3) ⟨kvs, hk, hw⟩⟩
end
/-! ### counting -/
def cnt (sc : Fil → List Fil) (Pd : List Fil) (x : Fil) : Nat := ((sc x).filter fun y => !decide (y ∈ Pd)).length
theorem cnt_nil {sc : Fil → List Fil} {x : Fil} : cnt sc [] x = (sc x).length := by
  unfold cnt
  rw [List.filter_eq_self.mpr (fun y _ => by simp)]
theorem cnt_zero {sc : Fil → List Fil} {Pd : List Fil} {x : Fil} : cnt sc Pd x = 0 ↔ ∀ y ∈ sc x, y ∈ Pd := by
  unfold cnt
  rw [List.length_eq_zero_iff, List.filter_eq_nil_iff]
  constructor
  · intro h y hy
    have := h y hy
    simpa using this
  · intro h y hy
    simpa using h y hy
theorem filt_snoc {Pd : List Fil} {x : Fil} (hx : x ∉ Pd) : ∀ l : List Fil, l.Nodup → (l.filter fun y => !decide (y ∈ Pd ++ [x])).length + (if x ∈ l then 1 else 0) = (l.filter fun y => !decide (y ∈ Pd)).length
  | [], _ => by simp
  | z :: l, h => by
    rw [List.nodup_cons] at h
    have ih := filt_snoc hx l h.2
    by_cases e : x = z
    · subst e
      have a : (!decide (x ∈ Pd ++ [x])) = false := by simp
      have b : (!decide (x ∈ Pd)) = true := by simpa using hx
      rw [if_neg h.1] at ih
      rw [List.filter_cons_of_neg (by rw [a]; exact Bool.false_ne_true), List.filter_cons_of_pos (p := fun y => !decide (y ∈ Pd)) b, if_pos List.mem_cons_self, List.length_cons]
      omega
    · have m1 : (if x ∈ z :: l then 1 else 0) = if x ∈ l then 1 else 0 := by simp [e]
      rw [m1]
      by_cases hz : z ∈ Pd
      · have a : (!decide (z ∈ Pd ++ [x])) = false := by simp [hz]
        have b : (!decide (z ∈ Pd)) = false := by simp [hz]
        rw [List.filter_cons_of_neg (by rw [a]; exact Bool.false_ne_true), List.filter_cons_of_neg (by rw [b]; exact Bool.false_ne_true)]
        exact ih
      · have e' : ¬ z = x := fun k => e k.symm
        have a : (!decide (z ∈ Pd ++ [x])) = true := by
          have : z ∉ Pd ++ [x] := fun k => by
            rcases List.mem_append.mp k with k | k
            · exact hz k
            · exact e' (List.mem_singleton.mp k)
          rw [decide_eq_false this]
          rfl
        have b : (!decide (z ∈ Pd)) = true := by
          rw [decide_eq_false hz]
          rfl
        rw [List.filter_cons_of_pos (p := fun y => !decide (y ∈ Pd ++ [x])) a, List.filter_cons_of_pos (p := fun y => !decide (y ∈ Pd)) b, List.length_cons, List.length_cons]
        omega
theorem cnt_snoc {sc : Fil → List Fil} {Pd : List Fil} {x y : Fil} (hx : x ∉ Pd) (hn : (sc y).Nodup) : cnt sc (Pd ++ [x]) y + (if x ∈ sc y then 1 else 0) = cnt sc Pd y := filt_snoc hx _ hn
end TW
namespace TW
open PySem PySem.Spec PyProof.Rows L2 Evl
/-! ### heights: what stands -/
open Classical in
noncomputable def hgt (sc : Fil → List Fil) (x : Fil) : Nat := if h : ∃ n, HT sc x n then h.choose else 0
theorem hgt_of {sc : Fil → List Fil} {x : Fil} {n : Nat} (h : HT sc x n) : n = hgt sc x := by
  unfold hgt
  rw [dif_pos ⟨n, h⟩]
  exact h.uniq (Exists.choose_spec (p := fun n => HT sc x n) ⟨n, h⟩)
def LeftAt (H : Hp) (D : Addr) (keys : List Fil) (c : Fil → Nat) : Prop := ∃ kvs, H D = some (.dT kvs) ∧ KeysOf kvs keys ∧ ∀ x ∈ keys, valV kvs (kI x) = some (.int (c x : Int))
theorem LeftAt.at {H H' : Hp} {D : Addr} {keys : List Fil} {c : Fil → Nat} (h : LeftAt H D keys c) (e : ∀ o, H D = some o → H' D = some o) : LeftAt H' D keys c := by
  obtain ⟨kvs, a, b⟩ := h
  exact ⟨kvs, e _ a, b⟩
theorem LeftAt.to {H : Hp} {D : Addr} {keys : List Fil} {c c' : Fil → Nat} (h : LeftAt H D keys c) (e : ∀ x ∈ keys, c x = c' x) : LeftAt H D keys c' := by
  obtain ⟨kvs, a, b, k⟩ := h
  exact ⟨kvs, a, b, fun x hx => by rw [← e x hx]; exact k x hx⟩
def BackAt (H : Hp) (D : Addr) (keys : List Fil) (f : Fil → Addr) : Prop := ∃ kvs, H D = some (.dT kvs) ∧ ∀ y ∈ keys, valV kvs (kI y) = some (.ref (f y))
theorem BackAt.at {H H' : Hp} {D : Addr} {keys : List Fil} {f : Fil → Addr} (h : BackAt H D keys f) (e : ∀ o, H D = some o → H' D = some o) : BackAt H' D keys f := by
  obtain ⟨kvs, a, b⟩ := h
  exact ⟨kvs, e _ a, b⟩
def BackLs (H : Hp) (keys : List Fil) (f : Fil → Addr) (B : Fil → List Fil) : Prop := ∀ y ∈ keys, ∃ vs, H (f y) = some (.lst vs) ∧ Paired (TupI H) vs (B y)
theorem BackLs.to {H : Hp} {keys : List Fil} {f : Fil → Addr} {B B' : Fil → List Fil} (h : BackLs H keys f B) (e : ∀ y ∈ keys, B y = B' y) : BackLs H keys f B' := fun y hy => by
  rw [← e y hy]
  exact h y hy
theorem BackLs.at {H H' : Hp} {keys : List Fil} {f : Fil → Addr} {B : Fil → List Fil} (h : BackLs H keys f B) (e : ∀ y ∈ keys, ∀ o, H (f y) = some o → H' (f y) = some o) (t : TEx H H') : BackLs H' keys f B := fun y hy => by
  obtain ⟨vs, a, b⟩ := h y hy
  exact ⟨vs, e y hy _ a, paired_imp (fun _ _ q => q.tex t) b⟩
def HgtAt (H : Hp) (D : Addr) (Pd : List Fil) (sc : Fil → List Fil) : Prop := ∃ kvs, H D = some (.dT kvs) ∧ KeysOf kvs Pd ∧ ∀ x ∈ Pd, HT sc x (hgt sc x) ∧ valV kvs (kI x) = some (.int (hgt sc x : Int))
theorem HgtAt.at {H H' : Hp} {D : Addr} {Pd : List Fil} {sc : Fil → List Fil} (h : HgtAt H D Pd sc) (e : ∀ o, H D = some o → H' D = some o) : HgtAt H' D Pd sc := by
  obtain ⟨kvs, a, b⟩ := h
  exact ⟨kvs, e _ a, b⟩
def HgtOf (H : Hp) (D : Addr) (keys : List Fil) (sc : Fil → List Fil) : Prop := ∃ kvs, H D = some (.dT kvs) ∧ ∀ x ∈ keys, (HT sc x (hgt sc x) ∧ valV kvs (kI x) = some (.int (hgt sc x : Int))) ∨ ((∀ n, ¬ HT sc x n) ∧ valV kvs (kI x) = none)
theorem HgtOf.ex {H H' : Hp} {D : Addr} {keys : List Fil} {sc : Fil → List Fil} (e : Ex H H') (h : HgtOf H D keys sc) : HgtOf H' D keys sc := by
  obtain ⟨kvs, a, b⟩ := h
  exact ⟨kvs, e _ _ a, b⟩
theorem filter_getD {α : Type} (d : α) (g : α → Bool) (xs : List α) : ((List.range xs.length).filter fun i => g (xs.getD i d)).map (fun i => xs.getD i d) = xs.filter g := by
  have h := map_getD d id xs
  rw [List.map_id] at h
  conv => rhs; rw [← h]
  rw [List.filter_map]
  rfl
theorem paired_map {α β γ : Type} {F : α → γ → Prop} {h : β → α} : ∀ {is : List β} {ys : List γ}, Paired (fun i y => F (h i) y) is ys → Paired F (is.map h) ys
  | _, _, .nil => .nil
  | _, _, .cons r s => .cons r (paired_map s)
theorem paired_swap {α β : Type} {F : α → β → Prop} : ∀ {xs : List α} {ys : List β}, Paired F xs ys → Paired (fun y x => F x y) ys xs
  | _, _, .nil => .nil
  | _, _, .cons r s => .cons r (paired_swap s)
theorem take_snoc {xs : List Fil} {i : Nat} {x : Fil} (h : xs[i]? = some x) : xs.take (i + 1) = xs.take i ++ [x] := by
  rw [List.take_add_one, h]
  rfl
section
variable {K : PySem.W.Frag} {σ : L2.St} {H : Hp} {te tl ta tb : TE} {D : Ends}
theorem s_asgN {i : Nat} {P : Addr → Hp → Prop} (h : EvN te σ H P) (k : ∀ p H1, H p = none → Ex H H1 → P p H1 → D.nx (σ.set i (some (.ref p))) H1) : tAsg te (gName i) D σ H := h H (Ex.refl H) _ fun p H1 n e q => k p H1 n e q
theorem s_lock {t : TS} {d : Addr} {u : HO} (h : H d = some u) (mu : Mut (some u))
    (k : ∀ od, t ⟨fun σ' H' => H' d = some (.frz od u) ∧ D.nx σ' (upd H' d u), fun v H' => H' d = some (.frz od u) ∧ D.rt v (upd H' d u), fun σ' H' => H' d = some (.frz od u) ∧ D.bk σ' (upd H' d u), fun σ' H' => H' d = some (.frz od u) ∧ D.ct σ' (upd H' d u)⟩ σ (upd H d (.frz od u))) : tLock t D σ H := ⟨d, u, h, mu, k⟩
theorem el_catLL {xs ys : List V} (ha : EvL ta σ H xs) (hb : EvL tb σ H ys) (hl : xs.length + ys.length ≤ 100000) : EvL (tOp rCat ta tb) σ H (xs ++ ys) := fun H1 e Q q =>
  ha H1 e _ fun p H2 _ e2 hp => hb H2 (e.trans e2) _ fun r H3 _ e3 hr => ⟨p, r, xs, ys, rfl, rfl, e3 p _ hp, hr, sz_of hl, fun l hn => q l _ (fresh_back (e2.trans e3) hn) ((e2.trans e3).trans (Ex.new hn)) upd_same⟩
theorem ep_max {ns : List Int} (h : EvL ta σ H (vI ns)) (hn : 0 < ns.length) : EvP (tCB (rMax K) (tCons ta tNil)) σ H (fun v _ => ∃ m, m ∈ ns ∧ (∀ y ∈ ns, y ≤ m) ∧ v = .int m) := fun H1 e Q q =>
  h H1 e _ fun p H2 _ e2 hp => ⟨p, ns, rfl, sq_of hp, hn, fun m h1 h2 => q _ H2 e2 ⟨m, h1, h2, rfl⟩⟩
end
theorem tupK {H : Hp} {a : Addr} {x : Fil} (h : H a = some (.tup ((kI x).map kV))) : H a = some (.tup (vI x)) := by
  rw [kI_kV] at h
  exact h
theorem kTup {H : Hp} {a : Addr} {x : Fil} (h : H a = some (.tup (vI x))) : H a = some (.tup ((kI x).map kV)) := by
  rw [kI_kV]
  exact h
structure GraphOk (sc : Fil → List Fil) (keys : List Fil) : Prop where
  nd : keys.Nodup
  clo : ∀ x ∈ keys, ∀ y ∈ sc x, y ∈ keys
  len : keys.length ≤ 60
  snd : ∀ x, (sc x).Nodup
  sl : ∀ x ∈ keys, (sc x).length ≤ 1000
section
variable {P : Program} {w : World} {K : PySem.W.Frag} {mg : Str → Option Value} {base : Heap} {C : Addr} {mgX : Str → Option Value}
local macro_rules | `(tactic| walk_at "rv") => `(tactic| first
  | exact rv_I0
  | exact rv_eq rfl
  | exact rv_ne rfl
  | exact rv_isN
  | exact rv_notN
  | (apply rv_I; (try dsimp only); first | omega | assumption | exact ⟨by omega, by omega⟩ | exact Or.inl ⟨by omega, by omega⟩ | exact Or.inr ⟨by omega, by omega⟩)
  | (apply rv_ix0; assumption; rfl)
  | (apply rv_ix1; assumption; rfl)
  | (apply rv_ix2; assumption; rfl)
  | (apply rv_ix4; assumption; rfl))
local macro_rules | `(tactic| walk_at "ea") => `(tactic| first
  | exact ea_nil
  | (apply ea_cons; walk_at "ev"; walk_at "ea"))
local macro_rules | `(tactic| walk_at "ev") => `(tactic| first
  | exact ev_c
  | (apply ev_var; rfl)
  | (apply ev_op; walk_at "ev"; walk_at "ev"; walk_at "rv")
  | (apply ev_un; walk_at "ev"; exact ru_neg)
  | (apply ev_isiII; walk_at "ea")
  | (apply ev_isiIB; walk_at "ea")
  | (apply ev_isiTT; assumption; walk_at "ea")
  | (apply ev_lenT; assumption; walk_at "ev")
  | (apply ev_lenL; assumption; walk_at "ev")
  | (apply ev_andV; walk_at "ev"; intro _; walk_at "ev")
  | (apply ev_orV; walk_at "ev"; intro _; walk_at "ev")
  | (apply ev_notV; walk_at "ev")
  | (apply ev_chain; walk_at "ev"; walk_at "ev"; walk_at "ev"; walk_at "rv"; walk_at "rv")
  | (apply ev_abs; walk_at "ea")
  | (apply ev_int; walk_at "ea"))
local macro_rules | `(tactic| walk_at "et") => `(tactic| first
  | (apply et_test; walk_at "ev")
  | (apply et_B; walk_at "ev")
  | (apply et_not; walk_at "et")
  | (apply et_and; walk_at "et"; intro _; walk_at "et")
  | (apply et_or; walk_at "et"; intro _; walk_at "et"))

local macro_rules | `(tactic| walk_at "ev") => `(tactic| ((with_reducible apply ev_is_integer); walk_at "ea"))
local macro_rules | `(tactic| walk_at "ev") => `(tactic| ((with_reducible apply ev_is_between); walk_at "ea"))
local macro_rules | `(tactic| walk_at "ev") => `(tactic| ((with_reducible apply ev_divisor); walk_at "ea"))
local macro_rules | `(tactic| walk_at "ev") => `(tactic| ((with_reducible apply ev_is_width); walk_at "ea"))
abbrev sp_heights : Sp := fspN (fun (a : List Fil × (Fil → List Fil)) vs H => ∃ p, vs = [.ref p] ∧ ComAt H p a.1 a.2 ∧ GraphOk a.2 a.1) (fun a p H => HgtOf H p a.1 a.2)
theorem has_heights (T : Tops K mg C) : Has P w K mg base 1 "heights" ["ways"] sp_heights := by
  refine T.d_heights.has sc_heights (fun vs H Q E h => ?_) (fun f cdv A outer s H vs Q E hr h => ?_)
  · obtain ⟨_, ⟨_, rfl, _⟩, _⟩ := h; rfl
  · obtain ⟨⟨keys, sc⟩, ⟨p, rfl, ⟨kvs, hp, hk, hin⟩, hG⟩, q⟩ := h
    refine ⟨_, (pss_cons (ps_set (i := 2) sc_heights.nd rfl (.inr rfl) (pe_lock (pe_dcT (own := [("here", 1)]) rfl sc_heights.nd (hu_of hr) (pi_keys (pv 0)) (blkOk_by (own := [("here", 1)]) (N := N_heights) (sc := defScope s_heights) (by decide +kernel)) (fun _ _ _ _ _ => (pg_name (i := 1) sc_heights.nd rfl (Or.inl rfl))) (fun _ _ _ _ _ => pts_nil) (fun _ _ _ _ _ => (pv 1)) (fun _ _ _ _ _ => (pe_callB call_len_dT (by rfl) T.b_len (by decide +kernel) (pa_cons (pe_dget (hu_of hr) (pv 0) (pv 1) (fun _ _ => rfl)) pa_nil))))))
      (pss_cons (ps_lock (ps_setDcT (i := 3) (own := [("here", 1)]) rfl sc_heights.nd (hu_of hr) rfl rfl (swD_true rfl rfl rfl (by decide +kernel)) (pi_keys (pv 0)) (blkOk_by (own := [("here", 1)]) (N := N_heights) (sc := defScope s_heights) (by decide +kernel)) (fun _ _ _ _ _ => (pg_name (i := 1) sc_heights.nd rfl (Or.inl rfl))) (fun _ _ _ _ _ => pts_nil) (fun _ _ _ _ _ => (pv 1)) (fun _ _ _ _ _ => (pe_lst pa_nil))))
      (pss_cons (ps_lock (ps_for PassesOwn.never rfl (pi_keys (pv 0)) (pg_name (i := 1) sc_heights.nd rfl (Or.inl rfl))
        (pss_one (ps_lock (ps_for PassesOwn.never rfl (pi_keys (pe_dget (hu_of hr) (pv 0) (pv 1) (fun _ _ => rfl))) (pg_name (i := 4) sc_heights.nd rfl (Or.inl rfl))
          (pss_one (ps_expr (pe_bm PySem.F.plainAttrs_list PySem.F.slot_list_append PySem.F.type_list_append mt_append (pe_dget (hu_of hr) (pv 3) (pv 4) (fun _ _ => rfl)) (pa_cons (pv 1) pa_nil)))))))))
      (pss_cons (ps_lock (ps_setLc (i := 5) (own := [("here", 1)]) rfl sc_heights.nd rfl rfl (sw_true rfl rfl rfl (by decide +kernel)) (pi_keys (pv 0)) (blkOk_by (own := [("here", 1)]) (N := N_heights) (sc := defScope s_heights) (by decide +kernel)) (fun _ _ _ _ _ => (pg_name (i := 1) sc_heights.nd rfl (Or.inl rfl))) (fun _ _ _ _ _ => (pts_one (pt_cmpR op_eq (pe_dget (hu_of hr) (pv 2) (pv 1) (fun _ _ => rfl)) pe_int (nomark _)))) (fun _ _ _ _ _ => (pv 1))))
      (pss_cons (ps_set (i := 6) sc_heights.nd rfl (.inr rfl) pe_dnewT)
      (pss_cons (ps_set (i := 7) sc_heights.nd rfl (.inl rfl) pe_int)
      (pss_cons (ps_while PassesOwn.never (pt_cmpR op_lt (pv 7) (pe_callB (r := rLenS K) call_len_seq (by rfl) T.b_len (by decide +kernel) (pa_cons (pv 5) pa_nil)) (nomark _))
        (pss_cons (ps_set (i := 1) sc_heights.nd rfl (.inl rfl) (pe_ix (r := rIxL K) ix_list (pv 5) (pv 7) (fun _ _ => rfl)))
        (pss_cons (ps_aug (i := 7) sc_heights.nd rfl (.inl rfl) pe_int ip_add)
        (pss_cons (ps_dput (hu_of hr) (pv 6) (pv 1) (pe_callB (cr_max rfl) (by rfl) T.b_max (by decide +kernel) (pa_cons (pe_op op_cat (pe_lst (pa_cons pe_int pa_nil)) (pe_lock (pe_lc (own := [("there", 4)]) rfl sc_heights.nd (pi_keys (pe_dget (hu_of hr) (pv 0) (pv 1) (fun _ _ => rfl))) (blkOk_by (own := [("there", 4)]) (N := N_heights) (sc := defScope s_heights) (by decide +kernel)) (fun _ _ _ _ _ => (pg_name (i := 4) sc_heights.nd rfl (Or.inl rfl))) (fun _ _ _ _ _ => pts_nil) (fun _ _ _ _ _ => (pe_op op_add (pe_dget (hu_of hr) (pv 6) (pv 4) (fun _ _ => rfl)) pe_int))))) pa_nil)) rfl)
        (pss_one (ps_for PassesOwn.never rfl (pi_list (pe_dget (hu_of hr) (pv 3) (pv 1) (fun _ _ => rfl))) (pg_name (i := 8) sc_heights.nd rfl (Or.inl rfl))
          (pss_cons (ps_daug (hu_of hr) (pv 2) (pv 8) pe_int in_sub (fun _ _ _ => rfl))
          (pss_one (ps_if (pt_cmpR op_eq (pe_dget (hu_of hr) (pv 2) (pv 8) (fun _ _ => rfl)) pe_int (nomark _))
            (pss_one (ps_expr (pe_bm PySem.F.plainAttrs_list PySem.F.slot_list_append PySem.F.type_list_append mt_append (pv 5) (pa_cons (pv 8) pa_nil))))
            pss_nil)))))))))
      (pss_one (ps_ret (pv 6)))))))))), ?_⟩
    simp only at hp hk hin hG
    have hkl := keys_len hk
    have hkl60 := hG.len
    -- left
    refine p_asgN (P := fun D H1 => LeftAt H1 D keys fun x => (sc x).length) (en_lockE hp True.intro (P' := fun _ D H' => ∃ kvl, H' D = some (.dT kvl) ∧ (KeysOf kvl (keys.take kvs.length) ∧ ∀ x ∈ keys.take kvs.length, valV kvl (kI x) = some (.int ((sc x).length : Int)))) (fun od => ?_) fun od D H' nD hd hw => ?_) fun D2 H1 hD2 e1 h2 => ?_
    · refine en_dcT (fun D i kvl H' => KeysOf kvl (keys.take i) ∧ ∀ x ∈ keys.take i, valV kvl (kI x) = some (.int ((sc x).length : Int))) (ei_keys (ev_var rfl) upd_same) (by omega) (fun _ _ _ _ _ _ h => h) (fun D H1 _ _ _ => ⟨by simp [KeysOf], fun x hx => by simp at hx⟩) fun D i kvl x H1 hD e hkv ⟨hw1, hw2⟩ hi ⟨k, v, qa, hi2, ex, hq⟩ => ?_
      subst ex
      obtain ⟨y, hy, rfl⟩ := keys_get hk hi2
      obtain ⟨ea, kvw, hv1, hv2, hv3, hv4⟩ := hin y (List.mem_of_getElem? hy)
      refine ⟨_, kI y, qa, eg_name, rfl, ev_var rfl, hq, (ep_of (ev_lenD (ev_dget (k := kI y) (kvs := kvs) (a := p) (b := qa) (ev_var rfl) (ev_var rfl) (.inr ⟨od, e p _ upd_same⟩) hq hv1) (e ea _ (by rw [upd_ne hv2]; exact hv3)))).imp fun v H2 e2 hv => ?_⟩
      rw [show v = _ from hv, take_snoc hy, keys_len hv4]
      have hn := nodup_take hG.nd hy
      refine ⟨(keys_put hw1 hn _).2, fun x hx => ?_⟩
      rw [valV_put]
      rcases List.mem_append.mp hx with h | h
      · rw [if_neg (fun z => hn (by rw [← kI_inj z]; exact h))]
        exact hw2 x h
      · rw [List.mem_singleton] at h
        subst h
        rw [if_pos rfl]
    · obtain ⟨kvl, h1, h2, h3⟩ := hw
      rw [hkl, List.take_of_length_le (Nat.le_refl _)] at h2 h3
      exact ⟨kvl, by rw [upd_ne nD]; exact h1, h2, h3⟩
    have hp1 := e1 _ _ hp
    -- back
    refine q_lock hp1 True.intro fun od => ?_
    refine s_asgN (P := fun D H' => ∃ kvb, H' D = some (.dT kvb) ∧ (KeysOf kvb (keys.take kvs.length) ∧ ∃ f : Fil → Addr, (∀ x ∈ keys.take kvs.length, valV kvb (kI x) = some (.ref (f x)) ∧ H' (f x) = some (.lst []) ∧ f x ≠ D ∧ H1 (f x) = none) ∧ ∀ x ∈ keys.take kvs.length, ∀ y ∈ keys.take kvs.length, f x = f y → x = y))
      (en_dcT (fun D i kvb H' => KeysOf kvb (keys.take i) ∧ ∃ f : Fil → Addr, (∀ x ∈ keys.take i, valV kvb (kI x) = some (.ref (f x)) ∧ H' (f x) = some (.lst []) ∧ f x ≠ D ∧ H1 (f x) = none) ∧ ∀ x ∈ keys.take i, ∀ y ∈ keys.take i, f x = f y → x = y) (ei_keys (ev_var rfl) upd_same) (by omega)
        (fun D i kvb Ha Hb e ⟨h1, f, h2, h3⟩ => ⟨h1, f, fun x hx => by
          obtain ⟨a, b, c⟩ := h2 x hx
          exact ⟨a, e _ _ b, c⟩, h3⟩) (fun D H1 _ _ _ => ⟨by simp [KeysOf], fun _ => 0, (fun x hx => by simp at hx), fun x hx => by simp at hx⟩) fun D i kvb x Ha hD e hkv ⟨hw1, f, hw2, hw3⟩ hi ⟨k, v, qa, hi2, ex, hq⟩ => ?_) fun D3 H2 hD3 e2 ⟨kvb, hb1, hb2, f, hb3, hb4⟩ => ?_
    · subst ex
      obtain ⟨y, hy, rfl⟩ := keys_get hk hi2
      have hn := nodup_take hG.nd hy
      refine ⟨_, kI y, qa, eg_name, rfl, ev_var rfl, hq, fun Hc ec Q' q' => (el_lst ea_nil (by show 0 ≤ 100000; decide)) Hc ec _ fun l Hd nl ed hl => q' (.ref l) Hd ed ?_⟩
      rw [take_snoc hy]
      have lD : l ≠ D := fun z => by
        rw [z, ec _ _ hkv] at nl
        cases nl
      have lf : ∀ x ∈ keys.take i, f x ≠ l := fun x hx z => by
        have := ec _ _ (hw2 x hx).2.1
        rw [z, nl] at this
        cases this
      have l1 : H1 l = none := by
        have h0 := fresh_back ec nl
        have h1 := fresh_back e h0
        have lp : l ≠ p := fun z => by
          rw [z, upd_same] at h1
          cases h1
        rw [upd_ne lp] at h1
        exact h1
      refine ⟨(keys_put hw1 hn _).2, fun z => if z = y then l else f z, fun x hx => ?_, fun x hx z hz hxz => ?_⟩
      · rcases List.mem_append.mp hx with h | h
        · have hxy : ¬ x = y := fun z => hn (by rw [← z]; exact h)
          obtain ⟨a, b, c, d⟩ := hw2 x h
          simp only [if_neg hxy]
          refine ⟨?_, ?_, c, d⟩
          · rw [valV_put, if_neg (fun z => hxy (kI_inj z))]
            exact a
          · rw [upd_ne c]
            exact ed _ _ (ec _ _ b)
        · rw [List.mem_singleton] at h
          subst h
          simp only [if_true]
          refine ⟨?_, ?_, lD, l1⟩
          · rw [valV_put, if_pos rfl]
          · rw [upd_ne lD]
            exact hl
      · rcases List.mem_append.mp hx with h | h <;> rcases List.mem_append.mp hz with h' | h'
        · have hxy : ¬ x = y := fun k => hn (by rw [← k]; exact h)
          have hzy : ¬ z = y := fun k => hn (by rw [← k]; exact h')
          simp only [if_neg hxy, if_neg hzy] at hxz
          exact hw3 x h z h' hxz
        · have hxy : ¬ x = y := fun k => hn (by rw [← k]; exact h)
          rw [List.mem_singleton] at h'
          subst h'
          simp only [if_neg hxy, if_true] at hxz
          exact absurd hxz (lf x h)
        · have hzy : ¬ z = y := fun k => hn (by rw [← k]; exact h')
          rw [List.mem_singleton] at h
          subst h
          simp only [if_neg hzy, if_true] at hxz
          exact absurd hxz.symm (lf z h')
        · rw [List.mem_singleton] at h h'
          rw [h, h']
    · rw [hkl, List.take_of_length_le (Nat.le_refl _)] at hb2 hb3 hb4
      refine ⟨e2 _ _ upd_same, ?_⟩
      have e12 : Ex H1 (upd H2 p (.dT kvs)) := ex_unlock hp1 e2
      have nDp : D3 ≠ p := fun z => by
        rw [z, upd_same] at hD3
        cases hD3
      have fp : ∀ x ∈ keys, f x ≠ p := fun x hx z => by
        have := (hb3 x hx).2.2.2
        rw [z, hp1] at this
        cases this
      generalize hH3 : upd H2 p (.dT kvs) = H3 at e12
      have hD3' : H1 D3 = none := by
        rw [upd_ne nDp] at hD3
        exact hD3
      have hBA : BackAt H3 D3 keys f := ⟨kvb, by rw [← hH3, upd_ne nDp]; exact hb1, fun y hy => (hb3 y hy).1⟩
      have hBL : BackLs H3 keys f fun _ => [] := fun y hy => ⟨[], by rw [← hH3, upd_ne (fp y hy)]; exact (hb3 y hy).2.1, .nil⟩
      have fn1 : ∀ y ∈ keys, H1 (f y) = none := fun y hy => (hb3 y hy).2.2.2
      have fD3 : ∀ y ∈ keys, f y ≠ D3 := fun y hy => (hb3 y hy).2.2.1
      have hL3 : LeftAt H3 D2 keys fun x => (sc x).length := h2.at fun o h => e12 _ _ h
      have hp3 := e12 _ _ hp1
      have e13 := e1.trans e12
      clear hb1 hb2 hb3 hH3 e2 hD3
      -- who comes to whom
      have comE : ∀ {H' : Hp}, Ex H H' → ∀ x ∈ keys, ∃ e kvw, valV kvs (kI x) = some (.ref e) ∧ e ≠ p ∧ H' e = some (.dT kvw) ∧ KeysOf kvw (sc x) ∧ H e = some (.dT kvw) := fun e x hx => by
        obtain ⟨d, kvw, a, b, c, k⟩ := hin x hx
        exact ⟨d, kvw, a, b, e d _ c, k, c⟩
      let S : Addr → Prop := fun a => ∃ y ∈ keys, a = f y
      have nS : ∀ {a : Addr} {o : HO}, H1 a = some o → ¬ S a := fun {a o} h ⟨y, hy, e⟩ => by
        rw [e, fn1 y hy] at h
        cases h
      have nSD3 : ¬ S D3 := fun ⟨y, hy, e⟩ => fD3 y hy e.symm
      refine q_lock hp3 True.intro fun od2 => ?_
      refine s_forJ (S := S) (ej_keys (d := p) (ev_var rfl) upd_same (nS hp1)) fun H4 e4 => ?_
      have nT : ∀ a xs, S a → (upd H3 p (.frz od2 (.dT kvs))) a ≠ some (.tup xs) := fun a xs ⟨y, hy, e⟩ z => by
        obtain ⟨vs, h, _⟩ := hBL y hy
        rw [e, upd_ne (fp y hy), h] at z
        cases z
      have tL : TEx H3 (upd H3 p (.frz od2 (.dT kvs))) := tex_dT hp3
      have hBL4 : BackLs H4 keys f fun y => ((keys.take 0).filter fun x => decide (y ∈ sc x)) := hBL.at (fun y hy o h => e4 _ _ (by rw [upd_ne (fp y hy)]; exact h)) (tL.trans (tex_of e4))
      have nT4 : ∀ a xs, S a → H4 a ≠ some (.tup xs) := fun a xs ⟨y, hy, e⟩ z => by
        obtain ⟨vs, h, _⟩ := hBL4 y hy
        rw [e, h] at z
        cases z
      have hp4 : H4 p = some (.frz od2 (.dT kvs)) := e4 _ _ upd_same
      have hBA4 : BackAt H4 D3 keys f := hBA.at fun o h => e4 _ _ (by rw [upd_ne nDp]; exact h)
      refine ⟨fun i σ' H' => ExS S H4 H' ∧ (∃ x1 x4, σ' = [some (.ref p), x1, some (.ref D2), some (.ref D3), x4, none, none, none, none]) ∧ BackLs H' keys f fun y => ((keys.take i).filter fun x => decide (y ∈ sc x)), ⟨ExS.refl _, ⟨_, _, rfl⟩, hBL4⟩, fun i σ' H' h => h.1, ?_, ?_⟩
      · rintro i x σ' H' H'' hi ⟨ex, ⟨x1, x4, rfl⟩, hB⟩ e5 ⟨k, v, qa, hi2, rfl, hq⟩
        obtain ⟨x, hx, rfl⟩ := keys_get hk hi2
        have hxk := List.mem_of_getElem? hx
        refine eg_name _ ?_
        obtain ⟨ea, kvw, hv1, hv2, hv3, hv4⟩ := hin x hxk
        have hv3' : H'' ea = some (.dT kvw) := e5 _ _ (ex _ _ (nS (e1 _ _ hv3)) (e4 _ _ (by rw [upd_ne hv2]; exact e13 _ _ hv3)))
        have hp5 := e5 _ _ (ex _ _ (nS hp1) hp4)
        have hBA5 : BackAt H'' D3 keys f := hBA4.at fun o h => e5 _ _ (ex _ _ nSD3 h)
        have hB5 := hB.at (fun y hy o h => e5 _ _ h) (tex_of e5)
        refine s_lock hv3' True.intro fun od3 => ?_
        have qe : qa ≠ ea := tup_not hq hv3' (fun _ z => nomatch z)
        have tl6 : TEx H'' (upd H'' ea (.frz od3 (.dT kvw))) := tex_dT hv3'
        have fe : ∀ y ∈ keys, f y ≠ ea := fun y hy z => nS (e1 _ _ hv3) ⟨y, hy, z.symm⟩
        have De : D3 ≠ ea := fun z => by
          rw [z, e1 _ _ hv3] at hD3'
          cases hD3'
        have hwl := keys_len hv4
        refine s_forJ (S := S) (ej_keys (d := ea) (ev_dget (k := kI x) (kvs := kvs) (a := p) (b := qa) (ev_var rfl) (ev_var rfl) (.inr ⟨od2, by rw [upd_ne (Ne.symm hv2)]; exact hp5⟩) (by rw [upd_ne qe]; exact hq) hv1) upd_same (nS (e1 _ _ hv3))) fun H6 e6 => ?_
        have hq6 : H6 qa = some (.tup (vI x)) := e6 _ _ (tl6 _ _ (tupK hq))
        have hBA6 : BackAt H6 D3 keys f := hBA5.at fun o h => e6 _ _ (by rw [upd_ne De]; exact h)
        have hB6 := hB5.at (H' := H6) (fun y hy o h => e6 _ _ (by rw [upd_ne (fe y hy)]; exact h)) (tl6.trans (tex_of e6))
        have nT6 : ∀ a xs, S a → H6 a ≠ some (.tup xs) := fun a xs ⟨y, hy, e⟩ z => by
          obtain ⟨vs, h, _⟩ := hB6 y hy
          rw [e, h] at z
          cases z
        have hss := hG.snd x
        refine ⟨fun j σ' H' => ExS S H6 H' ∧ (∃ x4, σ' = [some (.ref p), some (.ref qa), some (.ref D2), some (.ref D3), x4, none, none, none, none]) ∧ BackLs H' keys f fun y => ((keys.take i).filter fun x => decide (y ∈ sc x)) ++ (if y ∈ (sc x).take j then [x] else []),
          ⟨ExS.refl _, ⟨_, rfl⟩, hB6.to fun y hy => by simp⟩, fun j σ' H' h => h.1, ?_, ?_⟩
        · rintro j y σ' H7 H8 hj ⟨ex7, ⟨x4, rfl⟩, hB7⟩ e8 ⟨k, v, qy, hj2, rfl, hqy⟩
          obtain ⟨y, hy, rfl⟩ := keys_get hv4 hj2
          have hys := List.mem_of_getElem? hy
          have hyk := hG.clo x hxk y hys
          refine eg_name _ ?_
          obtain ⟨kvb, hb1, hb2⟩ := hBA6
          have hB8 := hB7.at (fun y hy o h => e8 _ _ h) (tex_of e8)
          obtain ⟨vs, hvs, hvp⟩ := hB8 y hyk
          dsimp only at hvp
          have hvl := Paired.length hvp
          have hyn : y ∉ (sc x).take j := nodup_take hss hy
          have hfl : vs.length ≤ 61 := by
            rw [hvl, if_neg hyn, List.append_nil]
            refine Nat.le_trans (List.length_filter_le _ _) ?_
            rw [List.length_take]
            omega
          refine s_app hvs (ev_dget (k := kI y) (kvs := kvb) (a := D3) (b := qy) (ev_var rfl) (ev_var rfl) (.inl (e8 _ _ (ex7 _ _ nSD3 hb1))) hqy (hb2 y hyk)) (ev_var rfl) (by omega) fun H9 e9 => ?_
          have tn : TEx H9 (upd H9 (f y) (.lst (vs ++ [.ref qa]))) := tex_lst (e9 _ _ hvs)
          refine ⟨(((ex7.trans (exs_of e8)).trans (exs_of e9)).mut ⟨y, hyk, rfl⟩), ⟨_, rfl⟩, fun z hz => ?_⟩
          have hq9 : TupI (upd H9 (f y) (.lst (vs ++ [.ref qa]))) (.ref qa) x := ⟨qa, rfl, tn _ _ ((e8.trans e9) _ _ ((ex7.tex nT6) _ _ hq6))⟩
          dsimp only
          rw [take_snoc hy]
          by_cases hzy : z = y
          · subst hzy
            refine ⟨_, upd_same, ?_⟩
            rw [if_pos (by simp)]
            rw [if_neg hyn, List.append_nil] at hvp
            exact paired_snoc (paired_imp (fun _ _ q => (TupI.ex e9 q).tex tn) hvp) hq9
          · obtain ⟨us, hus, hup⟩ := hB8 z hz
            dsimp only at hup
            refine ⟨us, ?_, ?_⟩
            · rw [upd_ne (fun k => hzy (hb4 z hz y hyk k))]
              exact e9 _ _ hus
            · have : (if z ∈ (sc x).take j ++ [y] then [x] else []) = if z ∈ (sc x).take j then [x] else [] := by
                have : z ∈ (sc x).take j ++ [y] ↔ z ∈ (sc x).take j := by
                  rw [List.mem_append, List.mem_singleton]
                  exact ⟨fun h => h.resolve_right hzy, Or.inl⟩
                simp only [this]
              rw [this]
              exact paired_imp (fun _ _ q => (TupI.ex e9 q).tex tn) hup
        · rintro σ' H7 ⟨ex7, ⟨x4, rfl⟩, hB7⟩
          have ex67 : ExS S (upd H'' ea (.frz od3 (.dT kvw))) H7 := (exs_of e6).trans ex7
          have hea7 := ex67 ea _ (nS (e1 _ _ hv3)) upd_same
          refine ⟨hea7, ((ex.trans (exs_of e5)).trans (lock_back hv3' ex67)), ⟨_, _, rfl⟩, ?_⟩
          rw [hwl, List.take_of_length_le (Nat.le_refl _)] at hB7
          refine (hB7.at (H' := upd H7 ea (.dT kvw)) (fun y hy o h => by rw [upd_ne (fe y hy)]; exact h) (tex_upd hea7 (fun _ z => nomatch z))).to fun y hy => ?_
          rw [take_snoc hx, List.filter_append, List.filter_cons, List.filter_nil]
          by_cases hyx : y ∈ sc x
          · rw [if_pos hyx, if_pos (decide_eq_true hyx)]
          · rw [if_neg hyx, if_neg (by rw [decide_eq_false hyx]; exact Bool.false_ne_true)]
      · rintro σ' H5 ⟨ex5, ⟨x1, x4, rfl⟩, hB5⟩
        have ex35 : ExS S (upd H3 p (.frz od2 (.dT kvs))) H5 := (exs_of e4).trans ex5
        have hp5 := ex35 p _ (nS hp1) upd_same
        refine ⟨hp5, ?_⟩
        have x36 := lock_back hp3 ex35
        rw [hkl, List.take_of_length_le (Nat.le_refl _)] at hB5
        have hB6 := hB5.at (H' := upd H5 p (.dT kvs)) (fun y hy o h => by rw [upd_ne (fp y hy)]; exact h) (tex_upd hp5 (fun _ z => nomatch z))
        have nSD2 : ¬ S D2 := by
          obtain ⟨_, h, _⟩ := h2
          exact nS h
        have hL6 : LeftAt (upd H5 p (.dT kvs)) D2 keys fun x => (sc x).length := hL3.at fun o h => x36 _ _ nSD2 h
        have hBA6 : BackAt (upd H5 p (.dT kvs)) D3 keys f := hBA.at fun o h => x36 _ _ nSD3 h
        have e06 : Ex H (upd H5 p (.dT kvs)) := ((exs_of e13 : ExS S _ _).trans x36).ex fun a ⟨y, hy, e⟩ => by
          cases hh : H a with
          | none => rfl
          | some o =>
            have := e1 _ _ hh
            rw [e, fn1 y hy] at this
            cases this
        generalize hH6 : upd H5 p (.dT kvs) = H6 at hB6 hL6 hBA6 e06
        have hp6 := e06 _ _ hp
        clear hB5 hp5 ex35 x36 hH6 ex5
        -- those that are done
        have nD2 : H D2 = none := hD2
        have nD3 : H D3 = none := fresh_back e1 hD3'
        have nf : ∀ y ∈ keys, H (f y) = none := fun y hy => fresh_back e1 (fn1 y hy)
        have d23 : D2 ≠ D3 := fun z => by
          obtain ⟨_, h, _⟩ := h2
          rw [z, hD3'] at h
          cases h
        have fD2 : ∀ y ∈ keys, f y ≠ D2 := fun y hy z => by
          obtain ⟨_, h, _⟩ := h2
          have := fn1 y hy
          rw [z, h] at this
          cases this
        refine q_lock hp6 True.intro fun od4 => ?_
        have D2p : D2 ≠ p := fun z => by
          rw [z, hp] at hD2
          cases hD2
        obtain ⟨kvl, hl1, hl2, hl3⟩ := id hL6
        refine s_asgN (P := fun D H' => ∃ ys, H' D = some (.lst ys) ∧ Paired (fun i y => TupI H' y (keys.getD i [])) ((List.range kvs.length).filter fun i => decide ((sc (keys.getD i [])).length = 0)) ys)
          (en_lc (fun i => decide ((sc (keys.getD i [])).length = 0)) (fun i v H' => TupI H' v (keys.getD i [])) (ei_keys (ev_var rfl) upd_same) (by omega) (fun i v Ha Hb e h => h.tex e) fun i x Ha ea hi ⟨k, v, qa, hi2, ex, hq⟩ => ?_) fun D5 H7 hD5 e7 ⟨ys, hy1, hy2⟩ => ?_
        · subst ex
          obtain ⟨y, hy, rfl⟩ := keys_get hk hi2
          have hyk := List.mem_of_getElem? hy
          have ey : keys.getD i [] = y := by rw [List.getD_eq_getElem?_getD, hy]; rfl
          rw [ey]
          refine ⟨_, eg_name, rfl, et_is (et_test (ev_op (ev_dget (k := kI y) (kvs := kvl) (a := D2) (b := qa) (ev_var rfl) (ev_var rfl) (.inl (ea _ _ (by rw [upd_ne D2p]; exact hl1))) hq (hl3 y hyk)) ev_c (rv_eq rfl))) ?_, fun _ => (ep_of (ev_var rfl)).imp fun v Hb eb hv => ?_⟩
          · rw [Bool.eq_iff_iff]
            simp only [decide_eq_true_eq, V.int.injEq]
            omega
          · rw [show v = _ from hv]
            exact ⟨qa, rfl, eb _ _ (tupK hq)⟩
        refine ⟨e7 _ _ upd_same, ?_⟩
        have e68 : Ex H6 (upd H7 p (.dT kvs)) := ex_unlock hp6 e7
        have nD5p : D5 ≠ p := fun z => by
          rw [z, upd_same] at hD5
          cases hD5
        have hD56 : H6 D5 = none := by
          rw [upd_ne nD5p] at hD5
          exact hD5
        have hp7 := e7 _ _ upd_same
        have t78 : TEx H7 (upd H7 p (.dT kvs)) := tex_upd hp7 (fun _ z => nomatch z)
        have hdn : Paired (TupI (upd H7 p (.dT kvs))) ys (keys.filter fun x => decide ((sc x).length = 0)) := by
          rw [hkl] at hy2
          have h := paired_map (F := fun x y => TupI (upd H7 p (.dT kvs)) y x) (h := fun i => keys.getD i []) (paired_imp (fun _ _ q => TupI.tex t78 q) hy2)
          rw [filter_getD [] (fun x => decide ((sc x).length = 0)) keys] at h
          exact paired_swap h
        have hy8 : (upd H7 p (.dT kvs)) D5 = some (.lst ys) := by
          rw [upd_ne nD5p]
          exact hy1
        generalize hH8 : upd H7 p (.dT kvs) = H8 at e68 hdn hy8
        clear hH8 hp7 t78 hy1 hy2 e7 hD5
        refine p_asgN en_dnew fun D6 H9 hD6 e9 h9 => ?_
        refine q_asg (v := .int 0) ev_c fun H10 e10 => ?_
        have e8x := e9.trans e10
        have e6x := e68.trans e8x
        have e0x := e06.trans e6x
        have nD5 : H D5 = none := fresh_back e06 hD56
        have nD6 : H D6 = none := fresh_back (e06.trans e68) hD6
        have d56 : D5 ≠ D6 := fun z => by rw [z, hD6] at hy8; cases hy8
        have d25 : D2 ≠ D5 := fun z => by rw [z, hD56] at hl1; cases hl1
        have d26 : D2 ≠ D6 := fun z => by
          have := e68 _ _ hl1
          rw [z, hD6] at this
          cases this
        obtain ⟨kvb, hb1, hb2⟩ := id hBA6
        have d35 : D3 ≠ D5 := fun z => by rw [z, hD56] at hb1; cases hb1
        have d36 : D3 ≠ D6 := fun z => by
          have := e68 _ _ hb1
          rw [z, hD6] at this
          cases this
        have f5 : ∀ y ∈ keys, f y ≠ D5 := fun y hy z => by
          obtain ⟨_, h, _⟩ := hB6 y hy
          rw [z, hD56] at h
          cases h
        have f6 : ∀ y ∈ keys, f y ≠ D6 := fun y hy z => by
          obtain ⟨_, h, _⟩ := hB6 y hy
          have := e68 _ _ h
          rw [z, hD6] at this
          cases this
        let S6 : Addr → Prop := fun a => a = D2 ∨ a = D5 ∨ a = D6
        have nS6 : ∀ a, S6 a → H a = none := fun a z => by
          rcases z with z | z | z <;> rw [z] <;> assumption
        have kS6 : ∀ {a o}, H a = some o → ¬ S6 a := fun {a o} h z => by
          rw [nS6 a z] at h
          cases h
        have fS6 : ∀ y ∈ keys, ¬ S6 (f y) := fun y hy z => by
          rcases z with z | z | z
          · exact fD2 y hy z
          · exact f5 y hy z
          · exact f6 y hy z
        have sS6 : ¬ S6 D3 := fun z => by
          rcases z with z | z | z
          · exact d23 z.symm
          · exact d35 z
          · exact d36 z
        have hbx := e6x _ _ hb1
        have hBx := hB6.at (fun y hy o h => e6x _ _ h) (tex_of e6x)
        have nTx : ∀ a xs, S6 a → H10 a ≠ some (.tup xs) := fun a xs z h => by
          rcases z with z | z | z
          · rw [z, e6x _ _ hl1] at h
            cases h
          · rw [z, e8x _ _ hy8] at h
            cases h
          · rw [z, e10 _ _ h9] at h
            cases h
        refine q_while (fun m σ' H' => ∃ (at_ : Nat) (dn : List Fil) (vs : List V) (x1 x4 x8 : Option V),
          σ' = [some (.ref p), x1, some (.ref D2), some (.ref D3), x4, some (.ref D5), some (.ref D6), some (.int (at_ : Int)), x8] ∧ m = keys.length - at_ ∧ at_ ≤ dn.length ∧ ExS S6 H10 H' ∧ H' D5 = some (.lst vs) ∧ Paired (TupI H') vs dn ∧ dn.Nodup ∧ (∀ x ∈ dn, x ∈ keys) ∧
          HgtAt H' D6 (dn.take at_) sc ∧ LeftAt H' D2 keys (cnt sc (dn.take at_)) ∧ ∀ x ∈ keys, x ∈ dn ↔ cnt sc (dn.take at_) x = 0) keys.length
          ⟨0, keys.filter fun x => decide ((sc x).length = 0), ys, x1, x4, none, rfl, rfl, Nat.zero_le _, ExS.refl _, e8x _ _ hy8, paired_imp (fun _ _ q => TupI.ex e8x q) hdn, hG.nd.filter _, (fun x hx => (List.mem_filter.mp hx).1),
            ⟨[], e10 _ _ h9, rfl, fun x hx => by simp at hx⟩, (hL6.at fun o h => e6x _ _ h).to (fun x hx => by rw [List.take_zero, cnt_nil]), fun x hx => by
              rw [List.take_zero, cnt_nil, List.mem_filter]
              simp [hx]⟩ ?_
        rintro m σ' H' ⟨at_, dn, vs, x1', x4', x8, rfl, rfl, hat, ex, hv, hvp, hnd, hin2, hH, hL, hdz⟩
        have hlen := Paired.length hvp
        have hdk := nodup_sub hnd hin2
        refine ⟨decide ((at_ : Int) < (vs.length : Int)), et_test (ev_op (ev_var rfl) (ev_lenL hv (ev_var rfl)) rv_I0), fun hb Ha ea => ?_, fun hb Ha ea => ?_⟩
        · have hlt : at_ < dn.length := by
            have := of_decide_eq_true hb
            omega
          obtain ⟨x, hx⟩ : ∃ x, dn[at_]? = some x := ⟨_, List.getElem?_eq_getElem hlt⟩
          obtain ⟨v, hvx, qa, rfl, hqa⟩ := paired_at hvp hx
          have hxd := List.mem_of_getElem? hx
          have hxk := hin2 x hxd
          have xnot := nodup_take hnd hx
          have hxP := cnt_zero.mp ((hdz x hxk).mp hxd)
          refine ⟨_, fun σ2 H2 h => h, ?_⟩
          refine q_asg (v := .ref qa) (ev_op (ev_var rfl) (ev_var rfl) (rv_ixLl (ea _ _ hv) hvx)) fun Hb eb => ?_
          refine q_aug (a := (at_ : Int)) (b := 1) rfl ev_c fun Hc ec => ?_
          have ec' := (ea.trans eb).trans ec
          have exc : ExS S6 H10 Hc := ex.trans (exs_of ec')
          have e0c : Ex H Hc := ((exs_of e0x).trans exc).ex nS6
          have hqc : Hc qa = some (.tup (vI x)) := ec' _ _ hqa
          obtain ⟨ee, kvw, hv1, hv2, hv3, hv4⟩ := hin x hxk
          have hec := e0c _ _ hv3
          have hpc := e0c _ _ hp
          obtain ⟨kvh, hh1, hh2, hh3⟩ := hH.at fun o h => ec' _ _ h
          have hkhl := keys_len hh2
          have htl : (dn.take at_).length = at_ := by
            rw [List.length_take]
            omega
          have eS : ¬ S6 ee := kS6 hv3
          have e6 : D6 ≠ ee := fun z => eS (.inr (.inr z.symm))
          have qe : qa ≠ ee := tup_not hqc hec (fun _ z => nomatch z)
          have hwl := keys_len hv4
          refine q_dput (k := kI x) (P := fun v _ => v = .int (hgt sc x : Int) ∧ HT sc x (hgt sc x)) ((ep_max (ns := 0 :: (sc x).map fun y => (hgt sc y : Int) + 1) ?_ (by simp)).imp fun v Hd ed ⟨m, h1, h2, h3⟩ => ?_) (ev_var rfl) (ev_var rfl) hh1 (kTup hqc) (by omega) fun v Hd He ed ⟨hvv, hvh⟩ ee' => ?_
          · refine el_catLL (xs := [.int 0]) (ys := vI ((sc x).map fun y => (hgt sc y : Int) + 1)) (el_lst (ea_cons ev_c ea_nil) (by show 1 ≤ 100000; decide)) (el_lockE hec True.intro fun od5 => ?_) (by
              have := hG.sl x hxk
              simp
              omega)
            have hm : vI ((sc x).map fun y => (hgt sc y : Int) + 1) = (List.range kvw.length).map fun i => V.int ((hgt sc ((sc x).getD i []) : Int) + 1) := by
              rw [hwl, map_getD [] (fun y => V.int ((hgt sc y : Int) + 1)) (sc x), vI, List.map_map]
              rfl
            rw [hm]
            refine el_lcA _ (ei_keys (d := ee) (ev_dget (k := kI x) (kvs := kvs) (a := p) (b := qa) (ev_var rfl) (ev_var rfl) (.inl (by rw [upd_ne (Ne.symm hv2)]; exact hpc)) (by rw [upd_ne qe]; exact kTup hqc) hv1) upd_same) (by
              have := hG.sl x hxk
              omega) fun i z Hd ed hi ⟨k, v, qy, hi2, ex, hqy⟩ => ?_
            subst ex
            obtain ⟨y, hy, rfl⟩ := keys_get hv4 hi2
            have ey : (sc x).getD i [] = y := by rw [List.getD_eq_getElem?_getD, hy]; rfl
            rw [ey]
            refine ⟨_, eg_name, rfl, ?_⟩
            exact ev_op (ev_dget (k := kI y) (kvs := kvh) (a := D6) (b := qy) (ev_var rfl) (ev_var rfl) (.inl (ed _ _ (by rw [upd_ne e6]; exact hh1))) hqy (hh3 y (hxP y (List.mem_of_getElem? hy))).2) ev_c rv_I0
          · have hm0 : 0 ≤ m := h2 0 List.mem_cons_self
            have hHT : HT sc x m.toNat := by
              refine ht_max (hgt sc) (fun y hy => ⟨(hh3 y (hxP y hy)).1, ?_⟩) ?_
              · have := h2 ((hgt sc y : Int) + 1) (List.mem_cons_of_mem _ (List.mem_map.mpr ⟨y, hy, rfl⟩))
                omega
              · rcases List.mem_cons.mp h1 with h | h
                · exact .inl (by omega)
                · obtain ⟨y, hy, e⟩ := List.mem_map.mp h
                  exact .inr ⟨y, hy, by omega⟩
            have hmm := hgt_of hHT
            rw [← hmm]
            exact ⟨by rw [h3, Int.toNat_of_nonneg hm0], hHT⟩
          subst hvv
          have edc := ed.trans ee'
          generalize hHf : upd He D6 (.dT (putK kvh (kI x) (.int (hgt sc x : Int)))) = Hf
          have xcf : ExS S6 Hc Hf := by
            rw [← hHf]
            exact (exs_of edc).mut (.inr (.inr rfl))
          have tcf : TEx Hc Hf := by
            rw [← hHf]
            exact (tex_of edc).trans (tex_dT (edc _ _ hh1))
          obtain ⟨pk1, pk2⟩ := keys_put hh2 xnot (.int (hgt sc x : Int))
          rw [← take_snoc hx] at pk2
          have hHf6 : HgtAt Hf D6 (dn.take (at_ + 1)) sc := ⟨_, by rw [← hHf, upd_same], pk2, fun y hy => by
            rw [take_snoc hx] at hy
            rcases List.mem_append.mp hy with h | h
            · refine ⟨(hh3 y h).1, ?_⟩
              rw [valV_put, if_neg (fun z => xnot (by rw [← kI_inj z]; exact h))]
              exact (hh3 y h).2
            · rw [List.mem_singleton] at h
              subst h
              exact ⟨hvh, by rw [valV_put, if_pos rfl]⟩⟩
          have hLf : LeftAt Hf D2 keys (cnt sc (dn.take at_)) := (hL.at fun o h => ec' _ _ h).at fun o h => by
            rw [← hHf, upd_ne d26]
            exact edc _ _ h
          have hvf : Hf D5 = some (.lst vs) := by
            rw [← hHf, upd_ne d56]
            exact edc _ _ (ec' _ _ hv)
          have hvpf : Paired (TupI Hf) vs dn := paired_imp (fun _ _ q => (TupI.ex ec' q).tex tcf) hvp
          have hqf := tcf _ _ hqc
          have x10f := exc.trans xcf
          have t10f : TEx H10 Hf := x10f.tex nTx
          have hbf := x10f _ _ sS6 hbx
          obtain ⟨vb, hvb, hvbp⟩ := hBx x hxk
          have hvb := x10f _ _ (fS6 x hxk) hvb
          have hvbp := paired_imp (fun _ _ q => TupI.tex t10f q) hvbp
          dsimp only at hvbp
          generalize hPd : dn.take at_ = Pd at hLf xnot hxP hdz
          generalize hBx' : (keys.filter fun y => decide (x ∈ sc y)) = Bx at hvbp
          have hBnd : Bx.Nodup := by
            rw [← hBx']
            exact hG.nd.filter _
          have mB : ∀ y, y ∈ Bx ↔ y ∈ keys ∧ x ∈ sc y := fun y => by
            rw [← hBx', List.mem_filter]
            simp
          have hBl := Paired.length hvbp
          have hB60 : Bx.length ≤ 60 := by
            rw [← hBx']
            exact Nat.le_trans (List.length_filter_le _ _) hkl60
          have hcs : ∀ y, cnt sc (Pd ++ [x]) y + (if x ∈ sc y then 1 else 0) = cnt sc Pd y := fun y => cnt_snoc xnot (hG.snd y)
          refine s_forJ (S := S6) (ej_list (ev_dget (k := kI x) (kvs := kvb) (a := D3) (b := qa) (ev_var rfl) (ev_var rfl) (.inl hbf) (kTup hqf) (hb2 x hxk)) hvb (fS6 x hxk)) fun Hg eg => ?_
          refine ⟨fun j σ' H' => ExS S6 Hg H' ∧ (∃ x8, σ' = [some (.ref p), some (.ref qa), some (.ref D2), some (.ref D3), x4', some (.ref D5), some (.ref D6), some (.int ((at_ : Int) + 1)), x8]) ∧ LeftAt H' D2 keys (fun y => cnt sc Pd y - if y ∈ Bx.take j then 1 else 0) ∧ HgtAt H' D6 (dn.take (at_ + 1)) sc ∧
            ∃ vs', H' D5 = some (.lst vs') ∧ Paired (TupI H') vs' (dn ++ (Bx.take j).filter fun y => decide (cnt sc Pd y = 1)), ⟨ExS.refl _, ⟨_, rfl⟩, (hLf.at fun o h => eg _ _ h).to (fun y hy => by simp), hHf6.at fun o h => eg _ _ h, vs, eg _ _ hvf, by simpa using paired_imp (fun _ _ q => TupI.ex eg q) hvpf⟩, fun j σ' H' h => h.1, ?_, ?_⟩
          · rintro j z σ' Hh Hi hj ⟨exh, ⟨x8, rfl⟩, hLh, hHh, vs', hvh', hvph⟩ eh hz
            obtain ⟨y, hy, qy, rfl, hqy⟩ := paired_get' hvbp hz
            have hqy : Hi qy = some (.tup (vI y)) := eh _ _ (exh _ _ (fun z => by
              have h0 := (exs_of eg : ExS S6 Hf Hg)
              rcases z with z | z | z
              · obtain ⟨_, h, _⟩ := hLf
                rw [z, h] at hqy
                cases hqy
              · rw [z, hvf] at hqy
                cases hqy
              · obtain ⟨_, h, _⟩ := hHf6
                rw [z, h] at hqy
                cases hqy) (eg _ _ hqy))
            have hyB := List.mem_of_getElem? hy
            have hyk := ((mB y).mp hyB).1
            have hxy := ((mB y).mp hyB).2
            have hyn := nodup_take hBnd hy
            have hc1 := hcs y
            rw [if_pos hxy] at hc1
            refine eg_name _ ?_
            obtain ⟨kvi, hi1, hi2, hi3⟩ := hLh.at fun o h => eh _ _ h
            have hil := keys_len hi2
            dsimp only at hi3
            have hi3y := hi3 y hyk
            rw [if_neg hyn] at hi3y
            refine q_daugS (k := kI y) (kvs := kvi) (i := (cnt sc Pd y : Int)) (j := 1) (ev_var rfl) (ev_var rfl) ev_c hi1 (kTup hqy) hi3y (by omega) fun Hj ej => ?_
            generalize hHk : upd Hj D2 (.dT (putK kvi (kI y) (.int ((cnt sc Pd y : Int) - 1)))) = Hk
            have xik : ExS S6 Hi Hk := by
              rw [← hHk]
              exact (exs_of ej).mut (.inl rfl)
            have tik : TEx Hi Hk := by
              rw [← hHk]
              exact (tex_of ej).trans (tex_dT (ej _ _ hi1))
            have hk2 : Hk D2 = some (.dT (putK kvi (kI y) (.int ((cnt sc Pd y : Int) - 1)))) := by rw [← hHk, upd_same]
            have hk5 : Hk D5 = some (.lst vs') := by
              rw [← hHk, upd_ne (Ne.symm d25)]
              exact ej _ _ (eh _ _ hvh')
            have hk6 : HgtAt Hk D6 (dn.take (at_ + 1)) sc := hHh.at fun o h => by
              rw [← hHk, upd_ne (Ne.symm d26)]
              exact ej _ _ (eh _ _ h)
            have hLk : LeftAt Hk D2 keys (fun z => cnt sc Pd z - if z ∈ Bx.take (j + 1) then 1 else 0) := by
              refine ⟨_, hk2, ?_, fun z hz => ?_⟩
              · unfold KeysOf
                rw [putK_keys (by rw [hi3y]; rfl)]
                exact hi2
              · dsimp only
                rw [valV_put, take_snoc hy]
                by_cases hzy : z = y
                · subst hzy
                  rw [if_pos rfl, if_pos (by simp)]
                  congr 2
                  omega
                · rw [if_neg (fun k => hzy (kI_inj k)), hi3 z hz]
                  have : z ∈ Bx.take j ++ [y] ↔ z ∈ Bx.take j := by
                    rw [List.mem_append, List.mem_singleton]
                    exact ⟨fun h => h.resolve_right hzy, Or.inl⟩
                  simp only [this]
            have hvpk := paired_imp (fun _ _ q => (TupI.ex eh q).tex tik) hvph
            have hfil : (Bx.take (j + 1)).filter (fun y => decide (cnt sc Pd y = 1)) = (Bx.take j).filter (fun y => decide (cnt sc Pd y = 1)) ++ if cnt sc Pd y = 1 then [y] else [] := by
              rw [take_snoc hy, List.filter_append, List.filter_cons, List.filter_nil]
              simp only [decide_eq_true_eq]
            have hvl5 := Paired.length hvph
            have hvl6 : vs'.length ≤ 200 := by
              rw [hvl5, List.length_append]
              have h1 := List.length_filter_le (fun y => decide (cnt sc Pd y = 1)) (Bx.take j)
              rw [List.length_take] at h1
              omega
            refine s_when (b := decide (cnt sc Pd y = 1)) (et_is (et_test (ev_op (ev_dget (k := kI y) (a := D2) (b := qy) (ev_var rfl) (ev_var rfl) (.inl hk2) (kTup (tik _ _ hqy)) (by rw [valV_put, if_pos rfl])) ev_c (rv_eq rfl))) ?_) (fun hb Hl el => ?_) (fun hb Hl el => ?_)
            · rw [Bool.eq_iff_iff]
              simp only [decide_eq_true_eq, V.int.injEq]
              omega
            · have hb1 := of_decide_eq_true hb
              refine s_app (el _ _ hk5) (ev_var rfl) (ev_var rfl) (by omega) fun Hm em => ?_
              have tm : TEx Hm (upd Hm D5 (.lst (vs' ++ [.ref qy]))) := tex_lst (em _ _ (el _ _ hk5))
              refine ⟨((((exh.trans (exs_of eh)).trans xik).trans (exs_of (el.trans em))).mut (.inr (.inl rfl))), ⟨_, rfl⟩, (hLk.at fun o h => (el.trans em) _ _ h).at (fun o h => by rw [upd_ne d25]; exact h), (hk6.at fun o h => (el.trans em) _ _ h).at (fun o h => by rw [upd_ne (Ne.symm d56)]; exact h), _, upd_same, ?_⟩
              rw [hfil, if_pos hb1, ← List.append_assoc]
              exact paired_snoc (paired_imp (fun _ _ q => (TupI.ex (el.trans em) q).tex tm) hvpk) ⟨qy, rfl, tm _ _ ((el.trans em) _ _ (tik _ _ hqy))⟩
            · have hb1 := of_decide_eq_false hb
              refine ⟨((exh.trans (exs_of eh)).trans xik).trans (exs_of el), ⟨_, rfl⟩, hLk.at fun o h => el _ _ h, hk6.at fun o h => el _ _ h, vs', el _ _ hk5, ?_⟩
              rw [hfil, if_neg hb1, List.append_nil]
              exact paired_imp (fun _ _ q => TupI.ex el q) hvpk
          · rintro σ' Hh ⟨exh, ⟨x8, rfl⟩, hLh, hHh, vs', hvh', hvph⟩
            rw [hBl, List.take_of_length_le (Nat.le_refl _)] at hLh hvph
            generalize hdn' : dn ++ (Bx.filter fun y => decide (cnt sc Pd y = 1)) = dn' at hvph
            have m' : ∀ y, y ∈ dn' ↔ y ∈ dn ∨ (y ∈ Bx ∧ cnt sc Pd y = 1) := fun y => by
              rw [← hdn', List.mem_append, List.mem_filter]
              simp
            have htk : dn'.take (at_ + 1) = dn.take (at_ + 1) := by
              rw [← hdn', List.take_append_of_le_length (by omega)]
            have htk2 : dn'.take (at_ + 1) = Pd ++ [x] := by
              rw [htk, take_snoc hx, hPd]
            refine ⟨keys.length - (at_ + 1), by omega, at_ + 1, dn', vs', some (.ref qa), x4', x8, rfl, rfl, ?_, (x10f.trans (exs_of eg)).trans exh, hvh', hvph, ?_, ?_, ?_, ?_, ?_⟩
            · rw [← hdn', List.length_append]
              omega
            · rw [← hdn', List.nodup_append]
              refine ⟨hnd, hBnd.filter _, fun a ha b hb z => ?_⟩
              subst z
              have h1 := (hdz a (hin2 a ha)).mp ha
              have h2 := of_decide_eq_true (List.mem_filter.mp hb).2
              omega
            · intro y hy
              rcases (m' y).mp hy with h | ⟨h, _⟩
              · exact hin2 y h
              · exact ((mB y).mp h).1
            · rw [htk]
              exact hHh
            · rw [htk2]
              refine hLh.to fun y hy => ?_
              have h1 := hcs y
              have h2 : y ∈ Bx ↔ x ∈ sc y := (mB y).trans ⟨fun h => h.2, fun h => ⟨hy, h⟩⟩
              simp only [h2]
              omega
            · intro y hy
              rw [htk2, m', hdz y hy]
              have h1 := hcs y
              have h2 : y ∈ Bx ↔ x ∈ sc y := (mB y).trans ⟨fun h => h.2, fun h => ⟨hy, h⟩⟩
              rw [h2]
              by_cases hxy : x ∈ sc y
              · rw [if_pos hxy] at h1
                simp only [hxy, true_and]
                omega
              · rw [if_neg hxy] at h1
                simp only [hxy, false_and, or_false]
                omega
        · have hge : dn.length ≤ at_ := by
            have := of_decide_eq_false hb
            omega
          rw [List.take_of_length_le hge] at hH hL hdz
          have exf : ExS S6 H Ha := ((exs_of e0x).trans ex).trans (exs_of ea)
          obtain ⟨kvh, hh1, hh2, hh3⟩ := hH
          refine s_ret (v := .ref D6) (ev_var rfl) fun Hb eb => q _ _ nD6 ((exf.trans (exs_of eb)).ex nS6) ⟨kvh, (ea.trans eb) _ _ hh1, fun x hx => ?_⟩
          by_cases hxd : x ∈ dn
          · exact .inl (hh3 x hxd)
          · refine .inr ⟨fun n hn => hxd ?_, ?_⟩
            · refine ht_in (sc := sc) (Pd := fun x => x ∈ dn) (Cl := fun x => x ∈ keys) (fun x y hx hy => hG.clo x hx y hy) (fun x hx h => ?_) hx hn
              exact (hdz x hx).mpr (cnt_zero.mpr h)
            · have := keys_some hh2 x
              rw [decide_eq_false hxd] at this
              cases hv : valV kvh (kI x) with
              | none => rfl
              | some v => rw [hv] at this; cases this
theorem en_heights {E : XK} {σ : L2.St} {H : Hp} {ta : TA} {keys : List Fil} {sc : Fil → List Fil} (h : EvQ ta σ H (fun vs H1 => ∃ p, vs = [.ref p] ∧ ComAt H1 p keys sc)) (hG : GraphOk sc keys) : EvN (tCall sp_heights [] E ta) σ H (fun p H => HgtOf H p keys sc) :=
  en_callQ (keys, sc) h fun vs H1 e ⟨p, ev, hp⟩ => ⟨p, ev, hp, hG⟩
end
end TW
namespace TW
open PySem PySem.Spec PyProof.Rows L2 Evl
open Classical in
/-- the height, as it is told -/
noncomputable def toldV (sc : Fil → List Fil) (x : Fil) : V := if ∃ n, HT sc x n then .int (hgt sc x : Int) else .non
theorem told_some {sc : Fil → List Fil} {x : Fil} {n : Nat} (h : HT sc x n) : toldV sc x = .int (n : Int) := by
  unfold toldV
  rw [if_pos ⟨n, h⟩, ← hgt_of h]
theorem told_none {sc : Fil → List Fil} {x : Fil} (h : ∀ n, ¬ HT sc x n) : toldV sc x = .non := by
  unfold toldV
  rw [if_neg (fun ⟨n, hn⟩ => h n hn)]
section
variable {K : PySem.W.Frag} {σ : L2.St} {H H' : Hp} {te tl td ty : TE} {v z : V} {D : Ends} {tz : TS}
theorem en_callX {α : Type} {pre : α → List V → Hp → Prop} {post : α → Addr → Hp → Prop} {E : XK} {ta : TA} {Pa : List V → Hp → Prop} {Post : Addr → Hp → Prop} (h : EvQ ta σ H Pa) (hp : ∀ vs H1, Ex H H1 → Pa vs H1 → ∃ a, pre a vs H1 ∧ ∀ p H2, post a p H2 → Post p H2) : EvN (tCall (fspN pre post) [] E ta) σ H Post := fun H1 e Q q =>
  h H1 e _ fun vs H2 e2 pa => by
    rw [List.append_nil]
    obtain ⟨a, h1, h2⟩ := hp vs H2 (e.trans e2) pa
    exact ⟨a, h1, fun p H3 n3 e3 p3 => q p H3 (fresh_back e2 n3) (e2.trans e3) (h2 p H3 p3)⟩
theorem ep_callX {α : Type} {pre : α → List V → Hp → Prop} {post : α → V → Hp → Prop} {E : XK} {ta : TA} {Pa : List V → Hp → Prop} {Post : VP} (h : EvQ ta σ H Pa) (hp : ∀ vs H1, Ex H H1 → Pa vs H1 → ∃ a, pre a vs H1 ∧ ∀ p H2, post a p H2 → Post p H2) : EvP (tCall (fsp pre post) [] E ta) σ H Post := fun H1 e Q q =>
  h H1 e _ fun vs H2 e2 pa => by
    rw [List.append_nil]
    obtain ⟨a, h1, h2⟩ := hp vs H2 (e.trans e2) pa
    exact ⟨a, h1, fun p H3 e3 p3 => q p H3 (e2.trans e3) (h2 p H3 p3)⟩
theorem ev_dget1N {k : List Key} {b : Addr} (hd : EvN td σ H (fun p H1 => ∃ kvs, H1 p = some (.dT kvs) ∧ (valV kvs k).getD .non = z)) (hy : Ev ty σ H (.ref b)) (hb : H b = some (.tup (k.map kV))) : Ev (tDGet1 td ty) σ H z := fun H1 e Q q =>
  hd H1 e _ fun p H2 _ e2 ⟨kvs, hp, hz⟩ => ⟨p, rfl, .inr ⟨kvs, .inl hp⟩, hy H2 (e.trans e2) _ fun H3 e3 => ⟨valV kvs k, .inr ⟨kvs, k, b, .inl (e3 _ _ hp), rfl, ((e.trans e2).trans e3) b _ hb, rfl⟩, by
    rw [hz]
    exact q H3 (e2.trans e3)⟩⟩
theorem ev_isNP {P : VP} {b : Bool} (h : EvP te σ H P) (hP : ∀ v H1, P v H1 → decide (v = .non) = b) : Ev (tOp (fun x y H Q => y = .non ∧ Q (.bl (decide (x = .non))) H) te (tC .non)) σ H (.bl b) := fun H1 e Q q =>
  h H1 e _ fun v H2 e2 pv => ⟨rfl, by
    rw [hP v H2 pv]
    exact q H2 e2⟩
/-- the first of a new list -/
theorem ep_first {P : List V → Hp → Prop} (h : EvN te σ H (fun p H' => ∃ ys, H' p = some (.lst ys) ∧ P ys H')) (hn : ∀ ys H', P ys H' → ys ≠ []) : EvP (tOp (rIxL K) te (tC (.int 0))) σ H (fun v H' => ∃ ys, P ys H' ∧ ys[0]? = some v) := fun H1 e Q q =>
  h H1 e _ fun p H2 _ e2 ⟨ys, hp, hP⟩ => by
    cases ys with
    | nil => exact absurd rfl (hn _ _ hP)
    | cons y r => exact ⟨p, y :: r, 0, y, rfl, rfl, sq_of hp, atI_nat (j := 0) rfl, q y H2 e2 ⟨y :: r, hP, rfl⟩⟩
end
theorem graph_of {ws : List Int} {ps : List Pipe} {single : Bool} {x : Fil} {keys : List Fil} (h : ComOk (nexts ws ps single) x keys) (hW : WebOk ws ps) : GraphOk (nexts ws ps single) keys :=
  ⟨h.nd, h.clo, h.len, fun _ => nexts_nodup, fun _ _ => Nat.le_trans (nexts_len hW.pip) (by decide)⟩
theorem hgt_told {H : Hp} {p : Addr} {keys : List Fil} {sc : Fil → List Fil} {x : Fil} (h : HgtOf H p keys sc) (hx : x ∈ keys) : ∃ kvs, H p = some (.dT kvs) ∧ (valV kvs (kI x)).getD .non = toldV sc x := by
  obtain ⟨kvs, h1, h2⟩ := h
  refine ⟨kvs, h1, ?_⟩
  rcases h2 x hx with ⟨a, b⟩ | ⟨a, b⟩
  · rw [b, told_some a]
    rfl
  · rw [b, told_none a]
    rfl
section
variable {P : Program} {w : World} {K : PySem.W.Frag} {mg : Str → Option Value} {base : Heap} {C : Addr} {mgX : Str → Option Value}
local macro_rules | `(tactic| walk_at "rv") => `(tactic| first
  | exact rv_I0
  | exact rv_eq rfl
  | exact rv_ne rfl
  | exact rv_isN
  | exact rv_notN
  | (apply rv_I; (try dsimp only); first | omega | assumption | exact ⟨by omega, by omega⟩ | exact Or.inl ⟨by omega, by omega⟩ | exact Or.inr ⟨by omega, by omega⟩)
  | (apply rv_ix0; assumption; rfl)
  | (apply rv_ix1; assumption; rfl)
  | (apply rv_ix2; assumption; rfl)
  | (apply rv_ix4; assumption; rfl))
local macro_rules | `(tactic| walk_at "ea") => `(tactic| first
  | exact ea_nil
  | (apply ea_cons; walk_at "ev"; walk_at "ea"))
local macro_rules | `(tactic| walk_at "ev") => `(tactic| first
  | exact ev_c
  | (apply ev_var; rfl)
  | (apply ev_op; walk_at "ev"; walk_at "ev"; walk_at "rv")
  | (apply ev_un; walk_at "ev"; exact ru_neg)
  | (apply ev_isiII; walk_at "ea")
  | (apply ev_isiIB; walk_at "ea")
  | (apply ev_isiTT; assumption; walk_at "ea")
  | (apply ev_lenT; assumption; walk_at "ev")
  | (apply ev_lenL; assumption; walk_at "ev")
  | (apply ev_andV; walk_at "ev"; intro _; walk_at "ev")
  | (apply ev_orV; walk_at "ev"; intro _; walk_at "ev")
  | (apply ev_notV; walk_at "ev")
  | (apply ev_chain; walk_at "ev"; walk_at "ev"; walk_at "ev"; walk_at "rv"; walk_at "rv")
  | (apply ev_abs; walk_at "ea")
  | (apply ev_int; walk_at "ea"))
local macro_rules | `(tactic| walk_at "et") => `(tactic| first
  | (apply et_test; walk_at "ev")
  | (apply et_B; walk_at "ev")
  | (apply et_not; walk_at "et")
  | (apply et_and; walk_at "et"; intro _; walk_at "et")
  | (apply et_or; walk_at "et"; intro _; walk_at "et"))

local macro_rules | `(tactic| walk_at "ev") => `(tactic| ((with_reducible apply ev_is_integer); walk_at "ea"))
local macro_rules | `(tactic| walk_at "ev") => `(tactic| ((with_reducible apply ev_is_between); walk_at "ea"))
local macro_rules | `(tactic| walk_at "ev") => `(tactic| ((with_reducible apply ev_divisor); walk_at "ea"))
local macro_rules | `(tactic| walk_at "ev") => `(tactic| ((with_reducible apply ev_is_width); walk_at "ea"))
abbrev WPR := WPF × List Fil
def PreR (C : Addr) (single : Bool) (a : WPR) (vs : List V) (H : Hp) : Prop := ∃ wv fv, vs = [wv, fv] ∧ PreF C a.1 wv fv H ∧ ClosedR (nexts a.1.1 a.1.2.1 single) a.1.2.2 a.2
abbrev sp_longest_play (C : Addr) : Sp := fsp (PreR C false) (fun a => IsV (toldV (nexts a.1.1 a.1.2.1 false) a.1.2.2))
abbrev sp_longest_single (C : Addr) : Sp := fsp (PreR C true) (fun a => IsV (toldV (nexts a.1.1 a.1.2.1 true) a.1.2.2))
theorem en_hc {E E' : XK} {σ : L2.St} {H : Hp} {ta : TA} {wv fv : V} {single : Bool} {R : List Fil} (a : WPF) (h : EvA ta σ H [wv, fv, .bl single]) (hp : PreF C a wv fv H) (hR : ClosedR (nexts a.1 a.2.1 single) a.2.2 R) :
    EvN (tCall sp_heights [] E (tCons (tCall (sp_comings C) [] E' ta) tNil)) σ H (fun p H => ∃ kvs, H p = some (.dT kvs) ∧ (valV kvs (kI a.2.2)).getD .non = toldV (nexts a.1 a.2.1 single) a.2.2) :=
  en_callX (eq_one (ep_n (en_comings a h hp hR))) fun vs H1 e ⟨x, ev, p, ex, keys, hk, hc⟩ => ⟨(keys, nexts a.1 a.2.1 single), ⟨p, by rw [ev, ex], hc, graph_of hk hp.2.2.1⟩, fun p H2 h2 => hgt_told h2 hk.mem⟩
theorem has_longest_play (T : Tops K mg C) : Has P w K mg base 6 "longest_play" ["web", "filling"] (sp_longest_play C) := by
  refine T.d_longest_play.has sc_longest_play (fun vs H Q E h => ?_) (fun f cdv A outer s H vs Q E hr h => ?_)
  · obtain ⟨_, ⟨_, _, rfl, _⟩, _⟩ := h; rfl
  · obtain ⟨⟨a, R⟩, ⟨wv, fv, rfl, hP, hR⟩, q⟩ := h
    refine ⟨_, (pss_one (ps_ret (pe_dget1 (hu_of hr) (pe_fn (has_heights T) (hr.mono (by decide)) (by rfl) (pa_cons (pe_fn (has_comings T) (hr.mono (by decide)) (by rfl) (pa_cons (pv 0) (pa_cons (pv 1) (pa_cons pe_bl pa_nil)))) pa_nil)) (pv 1) mk_m1))), ?_⟩
    obtain ⟨fp, rfl, hf⟩ := id hP.2.1
    apply s_retI
    · exact ev_dget1N (k := kI a.2.2) (en_hc a (by walk_at "ea") hP hR) (ev_var rfl) (kTup hf)
    · exact q
    · exact Ex.refl H
    · rfl
theorem has_longest_single (T : Tops K mg C) : Has P w K mg base 6 "longest_single" ["web", "filling"] (sp_longest_single C) := by
  refine T.d_longest_single.has sc_longest_single (fun vs H Q E h => ?_) (fun f cdv A outer s H vs Q E hr h => ?_)
  · obtain ⟨_, ⟨_, _, rfl, _⟩, _⟩ := h; rfl
  · obtain ⟨⟨a, R⟩, ⟨wv, fv, rfl, hP, hR⟩, q⟩ := h
    refine ⟨_, (pss_one (ps_ret (pe_dget1 (hu_of hr) (pe_fn (has_heights T) (hr.mono (by decide)) (by rfl) (pa_cons (pe_fn (has_comings T) (hr.mono (by decide)) (by rfl) (pa_cons (pv 0) (pa_cons (pv 1) (pa_cons pe_bl pa_nil)))) pa_nil)) (pv 1) mk_m1))), ?_⟩
    obtain ⟨fp, rfl, hf⟩ := id hP.2.1
    apply s_retI
    · exact ev_dget1N (k := kI a.2.2) (en_hc a (by walk_at "ea") hP hR) (ev_var rfl) (kTup hf)
    · exact q
    · exact Ex.refl H
    · rfl
theorem ev_longest_play {E : XK} {σ : L2.St} {H : Hp} {ta : TA} {wv fv : V} {R : List Fil} (a : WPF) (h : EvA ta σ H [wv, fv]) (hp : PreF C a wv fv H) (hR : ClosedR (nexts a.1 a.2.1 false) a.2.2 R) : Ev (tCall (sp_longest_play C) [] E ta) σ H (toldV (nexts a.1 a.2.1 false) a.2.2) :=
  ev_callV (a, R) h (fun _ e => ⟨wv, fv, rfl, hp.ex e, hR⟩) fun _ _ p => p
theorem ev_longest_single {E : XK} {σ : L2.St} {H : Hp} {ta : TA} {wv fv : V} {R : List Fil} (a : WPF) (h : EvA ta σ H [wv, fv]) (hp : PreF C a wv fv H) (hR : ClosedR (nexts a.1 a.2.1 true) a.2.2 R) : Ev (tCall (sp_longest_single C) [] E ta) σ H (toldV (nexts a.1 a.2.1 true) a.2.2) :=
  ev_callV (a, R) h (fun _ e => ⟨wv, fv, rfl, hp.ex e, hR⟩) fun _ _ p => p
/-! ### endless plays -/
def EndV (sc : Fil → List Fil) (x : Fil) : VP := fun v _ => ((∃ n, HT sc x n) ∧ v = .non) ∨ ((∀ n, ¬ HT sc x n) ∧ ∃ q, v = .ref q)
abbrev sp_endless : Sp := fsp (fun (a : (List Fil × (Fil → List Fil)) × Fil) vs H => ∃ p fv, vs = [.ref p, fv] ∧ ComAt H p a.1.1 a.1.2 ∧ GraphOk a.1.2 a.1.1 ∧ TupI H fv a.2 ∧ a.2 ∈ a.1.1) (fun a => EndV a.1.2 a.2)
theorem no_next {sc : Fil → List Fil} {x : Fil} (h : ∀ n, ¬ HT sc x n) : ∃ y ∈ sc x, ∀ n, ¬ HT sc y n := by
  refine Classical.byContradiction fun hc => ?_
  have hall : ∀ y ∈ sc x, HT sc y (hgt sc y) := fun y hy => by
    refine Classical.byContradiction fun h2 => hc ⟨y, hy, fun n hn => h2 ?_⟩
    rw [← hgt_of hn]
    exact hn
  have hb : ∃ n, bdd sc n x := by
    refine ⟨((sc x).map (hgt sc)).foldr max 0 + 1, fun y hy => ?_⟩
    have : ∀ (l : List Nat) (a : Nat), a ∈ l → a ≤ l.foldr max 0 := fun l a => by
      induction l with
      | nil => exact fun h => nomatch h
      | cons b r ih =>
        intro h
        rw [List.foldr_cons]
        rcases List.mem_cons.mp h with h | h
        · omega
        · have := ih h
          omega
    exact bdd_mono (hall y hy).1 (this _ _ (List.mem_map.mpr ⟨y, hy, rfl⟩))
  obtain ⟨n, hn⟩ := hb
  obtain ⟨m, _, hm⟩ := ht_of_bdd hn
  exact h m hm
theorem has_endless (T : Tops K mg C) : Has P w K mg base 2 "endless" ["ways", "filling"] sp_endless := by
  refine T.d_endless.has sc_endless (fun vs H Q E h => ?_) (fun f cdv A outer s H vs Q E hr h => ?_)
  · obtain ⟨_, ⟨_, _, rfl, _⟩, _⟩ := h; rfl
  · obtain ⟨⟨⟨keys, sc⟩, fill⟩, ⟨p, fv, rfl, hCom, hG, ⟨fp, rfl, hf⟩, hfk⟩, q⟩ := h
    refine ⟨_, (pss_cons (ps_set (i := 2) sc_endless.nd rfl (.inr rfl) (pe_fn (has_heights T) (hr.mono (by decide)) (by rfl) (pa_cons (pv 0) pa_nil)))
      (pss_cons (ps_if (pt_cmp (pc_din (hu_of hr) (pv 1) (pv 2)) rfl)
        (pss_one (ps_ret pe_non))
        pss_nil)
      (pss_cons (ps_set (i := 3) sc_endless.nd rfl (.inl rfl) pe_dnewT)
      (pss_cons (ps_set (i := 4) sc_endless.nd rfl (.inl rfl) (pe_lst pa_nil))
      (pss_cons (ps_set (i := 5) sc_endless.nd rfl (.inl rfl) (pv 1))
      (pss_cons (ps_while PassesOwn.never (pt_cmp (pc_dnotin (hu_of hr) (pv 5) (pv 3)) rfl)
        (pss_cons (ps_dput (hu_of hr) (pv 3) (pv 5) (pe_callB (r := rLenS K) call_len_seq (by rfl) T.b_len (by decide +kernel) (pa_cons (pv 4) pa_nil)) rfl)
        (pss_cons (ps_set (i := 6) sc_endless.nd rfl (.inl rfl) (pe_ix (r := rIxL K) ix_list (pe_lock (pe_lc (own := [("other", 7)]) rfl sc_endless.nd (pi_keys (pe_dget (hu_of hr) (pv 0) (pv 5) (fun _ _ => rfl))) (blkOk_by (own := [("other", 7)]) (N := N_endless) (sc := defScope s_endless) (by decide +kernel)) (fun _ _ _ _ _ => (pg_name (i := 7) sc_endless.nd rfl (Or.inl rfl))) (fun _ _ _ _ _ => (pts_one (pt_cmp (pc_dnotin (hu_of hr) (pv 7) (pv 2)) rfl))) (fun _ _ _ _ _ => (pv 7)))) pe_int (fun _ _ => rfl)))
        (pss_cons (ps_expr (pe_bm PySem.F.plainAttrs_list PySem.F.slot_list_append PySem.F.type_list_append mt_append (pv 4) (pa_cons (pe_dget (hu_of hr) (pe_dget (hu_of hr) (pv 0) (pv 5) (fun _ _ => rfl)) (pv 6) (fun _ _ => rfl)) pa_nil)))
        (pss_one (ps_set (i := 5) sc_endless.nd rfl (.inl rfl) (pv 6)))))))
      (pss_one (ps_ret (pe_tup (pa_cons (pe_callTy call_tuple_of (by rfl) T.b_tuple (by decide +kernel) (pa_cons (pe_slice (r := rSlL K) sl_list (pv 4) po_none (po_some (pe_dget (hu_of hr) (pv 3) (pv 5) (fun _ _ => rfl)))) pa_nil)) (pa_cons (pe_callTy call_tuple_of (by rfl) T.b_tuple (by decide +kernel) (pa_cons (pe_slice (r := rSlL K) sl_list (pv 4) (po_some (pe_dget (hu_of hr) (pv 3) (pv 5) (fun _ _ => rfl))) po_none) pa_nil)) pa_nil))))))))))), ?_⟩
    simp only at hCom hG hf hfk
    refine p_asgN (en_heights ((ea_p (ea_cons (ev_var rfl) ea_nil)).imp fun vs H1 e h1 => ⟨p, h1, hCom.ex e⟩) hG) fun Dh H1 hDh e1 hH => ?_
    obtain ⟨kvh, hh1, hh2⟩ := id hH
    refine q_when (b := (valV kvh (kI fill)).isSome) (et_B (ev_din (ev_var rfl) (ev_var rfl) (.inl hh1) (kTup (e1 _ _ hf)))) (fun hb H2 e2 => ?_) (fun hb H2 e2 => ?_)
    · refine s_ret (v := .non) ev_c fun H3 e3 => q _ _ ((e1.trans e2).trans e3) ?_
      rcases hh2 fill hfk with ⟨a, b⟩ | ⟨a, b⟩
      · exact .inl ⟨⟨_, a⟩, rfl⟩
      · rw [b] at hb
        cases hb
    have hno : ∀ n, ¬ HT sc fill n := by
      rcases hh2 fill hfk with ⟨a, b⟩ | ⟨a, b⟩
      · rw [b] at hb
        cases hb
      · exact a
    refine p_asgN en_dnew fun D3 H3 hD3 e3 h3 => ?_
    refine q_asgL (xs := []) (el_lst ea_nil (by show 0 ≤ 100000; decide)) fun D4 H4 hD4 e4 h4 => ?_
    refine q_asg (v := .ref fp) (ev_var rfl) fun H5 e5 => ?_
    have e12 := e1.trans e2
    have e05 := ((e12.trans e3).trans e4).trans e5
    have nD3 : H D3 = none := fresh_back e12 hD3
    have nD4 : H D4 = none := fresh_back (e12.trans e3) hD4
    have d34 : D3 ≠ D4 := fun z => by rw [← z, h3] at hD4; cases hD4
    let S : Addr → Prop := fun a => a = D3 ∨ a = D4
    have nS : ∀ a, S a → H a = none := fun a z => by
      rcases z with z | z <;> rw [z] <;> assumption
    have kS : ∀ {a o}, H a = some o → ¬ S a := fun {a o} h z => by
      rw [nS a z] at h
      cases h
    have hS : ¬ S Dh := fun z => by
      rcases z with z | z
      · rw [← z, e2 _ _ hh1] at hD3
        cases hD3
      · rw [← z, (e2.trans e3) _ _ hh1] at hD4
        cases hD4
    have hh5 := (((e2.trans e3).trans e4).trans e5) _ _ hh1
    have nT : ∀ a xs, S a → H5 a ≠ some (.tup xs) := fun a xs z h => by
      rcases z with z | z
      · rw [z, (e4.trans e5) _ _ h3] at h
        cases h
      · rw [z, e5 _ _ h4] at h
        cases h
    refine q_while (fun m σ' H' => ∃ (x : Fil) (qa : Addr) (pl : List Fil) (kvp : List (List Key × V)) (os : List V) (x6 x7 : Option V),
      σ' = [some (.ref p), some (.ref fp), some (.ref Dh), some (.ref D3), some (.ref D4), some (.ref qa), x6, x7] ∧ m = keys.length - pl.length ∧ ExS S H5 H' ∧ H' qa = some (.tup (vI x)) ∧ x ∈ keys ∧ (∀ n, ¬ HT sc x n) ∧ H' D3 = some (.dT kvp) ∧ KeysOf kvp pl ∧ pl.Nodup ∧ (∀ y ∈ pl, y ∈ keys) ∧
      (∀ y ∈ pl, ∃ k : Int, valV kvp (kI y) = some (.int k)) ∧ H' D4 = some (.lst os) ∧ os.length = pl.length) (keys.length - 0)
      ⟨fill, fp, [], [], [], none, none, rfl, rfl, ExS.refl _, e05 _ _ hf, hfk, hno, (e4.trans e5) _ _ h3, rfl, List.nodup_nil, (fun y hy => nomatch hy), (fun y hy => nomatch hy), e5 _ _ h4, rfl⟩ ?_
    rintro m σ' H' ⟨x, qa, pl, kvp, os, x6, x7, rfl, rfl, ex, hq, hxk, hxn, hp3, hpk, hpn, hpi, hpv, ho4, hol⟩
    have hplk := nodup_sub hpn hpi
    have hkpl := keys_len hpk
    have hk60 := hG.len
    refine ⟨!(valV kvp (kI x)).isSome, et_B (ev_dnotin (ev_var rfl) (ev_var rfl) (.inl hp3) (kTup hq)), fun hb Ha ea => ?_, fun hb Ha ea => ?_⟩
    · have hxp : x ∉ pl := by
        rw [keys_some hpk] at hb
        exact of_decide_eq_false (by simpa using hb)
      have hlt : pl.length < keys.length := by
        have h1 := nodup_sub (l := pl ++ [x]) (R := keys) (by
          rw [List.nodup_append]
          exact ⟨hpn, by simp, fun a ha b hb z => hxp (by rw [List.mem_singleton] at hb; rw [← hb, ← z]; exact ha)⟩) (fun y hy => by
          rcases List.mem_append.mp hy with h | h
          · exact hpi y h
          · rw [List.mem_singleton] at h
            rw [h]
            exact hxk)
        rw [List.length_append, List.length_singleton] at h1
        omega
      refine ⟨_, fun σ2 H2 h => h, ?_⟩
      refine q_dput (k := kI x) (P := fun v _ => v = .int (os.length : Int)) (ep_of (ev_lenL (ea _ _ ho4) (ev_var rfl))) (ev_var rfl) (ev_var rfl) (ea _ _ hp3) (kTup (ea _ _ hq)) (by omega) fun v Hb Hc eb hv ec => ?_
      subst hv
      have eac := (ea.trans eb).trans ec
      generalize hHd : upd Hc D3 (.dT (putK kvp (kI x) (.int (os.length : Int)))) = Hd
      have xd : ExS S H' Hd := by
        rw [← hHd]
        exact (exs_of eac).mut (.inl rfl)
      have td : TEx H' Hd := by
        rw [← hHd]
        exact (tex_of eac).trans (tex_dT (eac _ _ hp3))
      have xfd := (((exs_of e05 : ExS S H H5).trans ex).trans xd)
      have e0d : Ex H Hd := xfd.ex nS
      have hqd := td _ _ hq
      obtain ⟨kvs, hw1, hw2, hw3⟩ := id hCom
      obtain ⟨ee, kvw, hv1, hv2, hv3, hv4⟩ := hw3 x hxk
      have hwd := e0d _ _ hw1
      have hed := e0d _ _ hv3
      have hhd := (ex.trans xd) _ _ hS hh5
      have qe : qa ≠ ee := tup_not hqd hed (fun _ z => nomatch z)
      have he : Dh ≠ ee := fun z => by
        rw [z, hv3] at hDh
        cases hDh
      have hwl := keys_len hv4
      have hsl := hG.sl x hxk
      have hgl : ∀ y ∈ sc x, (HT sc y (hgt sc y) ∧ valV kvh (kI y) = some (.int (hgt sc y : Int))) ∨ ((∀ n, ¬ HT sc y n) ∧ valV kvh (kI y) = none) := fun y hy => hh2 y (hG.clo x hxk y hy)
      refine p_asg (P := fun v H' => ∃ y ∈ sc x, (∀ n, ¬ HT sc y n) ∧ TupI H' v y) ((ep_first (P := fun ys H' => ys ≠ [] ∧ ∀ v ∈ ys, ∃ y ∈ sc x, (∀ n, ¬ HT sc y n) ∧ TupI H' v y) (en_lockE hed True.intro (P' := fun _ p H' => ∃ ys, H' p = some (.lst ys) ∧ Paired (fun i v => (∀ n, ¬ HT sc ((sc x).getD i []) n) ∧ TupI H' v ((sc x).getD i [])) ((List.range kvw.length).filter fun i => !(valV kvh (kI ((sc x).getD i []))).isSome) ys) (fun od => ?_) fun od pp H'' np hfz ⟨ys, hy1, hy2⟩ => ?_) (fun ys H' h => h.1)).imp fun v He ee1 ⟨ys, ⟨_, h1⟩, h2⟩ => h1 v (List.mem_of_getElem? h2)) fun v He eE hv => ?_
      · refine en_lc (fun i => !(valV kvh (kI ((sc x).getD i []))).isSome) (fun i v H' => (∀ n, ¬ HT sc ((sc x).getD i []) n) ∧ TupI H' v ((sc x).getD i [])) (ei_keys (d := ee) (ev_dget (k := kI x) (kvs := kvs) (a := p) (b := qa) (ev_var rfl) (ev_var rfl) (.inl (by rw [upd_ne (Ne.symm hv2)]; exact hwd)) (by rw [upd_ne qe]; exact kTup hqd) hv1) upd_same) (by omega) (fun i v Ha Hb e h => ⟨h.1, h.2.tex e⟩) fun i z Hf ef hi ⟨k, v, qy, hi2, exz, hqy⟩ => ?_
        subst exz
        obtain ⟨y, hy, rfl⟩ := keys_get hv4 hi2
        have ey : (sc x).getD i [] = y := by rw [List.getD_eq_getElem?_getD, hy]; rfl
        rw [ey]
        refine ⟨_, eg_name, rfl, et_B (ev_dnotin (ev_var rfl) (ev_var rfl) (.inl (ef _ _ (by rw [upd_ne he]; exact hhd))) hqy), fun hb => (ep_of (ev_var rfl)).imp fun v Hb eb hv => ?_⟩
        rw [show v = _ from hv]
        refine ⟨?_, qy, rfl, eb _ _ (tupK hqy)⟩
        rcases hgl y (List.mem_of_getElem? hy) with ⟨a, b⟩ | ⟨a, b⟩
        · rw [b] at hb
          cases hb
        · exact a
      · have tU : TEx H'' (upd H'' ee (.dT kvw)) := tex_upd hfz (fun _ z => nomatch z)
        refine ⟨ys, by rw [upd_ne np]; exact hy1, ?_, ?_⟩
        · obtain ⟨y, hy, hyn⟩ := no_next hxn
          obtain ⟨i, hi, hyi⟩ := List.mem_iff_getElem.mp hy
          have hl := Paired.length hy2
          intro z
          rw [z, List.length_nil, List.length_eq_zero_iff, List.filter_eq_nil_iff] at hl
          refine hl i (List.mem_range.mpr (by omega)) ?_
          have ey : (sc x).getD i [] = y := by rw [List.getD_eq_getElem?_getD, List.getElem?_eq_getElem hi, hyi]; rfl
          rw [ey]
          rcases hgl y hy with ⟨a, b⟩ | ⟨a, b⟩
          · exact absurd a (hyn _)
          · rw [b]
            rfl
        · intro v hv
          obtain ⟨j, hj⟩ := List.mem_iff_getElem?.mp hv
          obtain ⟨i, hi, h1, h2⟩ := paired_at hy2 hj
          have hir := List.mem_range.mp (List.mem_filter.mp (List.mem_of_getElem? hi)).1
          refine ⟨(sc x).getD i [], ?_, h1, h2.tex tU⟩
          rw [List.getD_eq_getElem?_getD, List.getElem?_eq_getElem (by omega)]
          exact List.getElem_mem _
      · obtain ⟨y, hy, hyn, qy, rfl, hqy⟩ := hv
        have hyk := hG.clo x hxk y hy
        obtain ⟨u, hu⟩ : ∃ u, valV kvw (kI y) = some u := by
          have h := keys_some hv4 y
          rw [decide_eq_true hy] at h
          exact Option.isSome_iff_exists.mp h
        have ho4d : Hd D4 = some (.lst os) := by
          rw [← hHd, upd_ne (Ne.symm d34)]
          exact eac _ _ ho4
        refine q_app (eE _ _ ho4d) (ev_var rfl) (ev_dget (k := kI y) (kvs := kvw) (a := ee) (b := qy) (ev_dget (k := kI x) (kvs := kvs) (a := p) (b := qa) (ev_var rfl) (ev_var rfl) (.inl (eE _ _ hwd)) (kTup (eE _ _ hqd)) hv1) (ev_var rfl) (.inl (eE _ _ hed)) (kTup hqy) hu) (by omega) fun Hf ef => ?_
        have eDf := eE.trans ef
        have tn : TEx Hf (upd Hf D4 (.lst (os ++ [u]))) := tex_lst (eDf _ _ ho4d)
        have hd3 : Hd D3 = some (.dT (putK kvp (kI x) (.int (os.length : Int)))) := by rw [← hHd, upd_same]
        obtain ⟨pk1, pk2⟩ := keys_put hpk hxp (.int (os.length : Int))
        refine s_asg (v := .ref qy) (ev_var rfl) fun Hg eg => ⟨keys.length - (pl.length + 1), by omega, y, qy, pl ++ [x], _, os ++ [u], _, _, rfl, by rw [List.length_append]; rfl, (((ex.trans xd).trans (exs_of eDf)).mut (.inr rfl)).trans (exs_of eg), eg _ _ (tn _ _ (ef _ _ hqy)), hyk, hyn, eg _ _ (by rw [upd_ne d34]; exact eDf _ _ hd3), pk2, ?_, ?_, ?_, eg _ _ upd_same, by rw [List.length_append, List.length_append, hol]; rfl⟩
        · rw [List.nodup_append]
          exact ⟨hpn, by simp, fun a ha b hb z => hxp (by rw [List.mem_singleton] at hb; rw [← hb, ← z]; exact ha)⟩
        · intro z hz
          rcases List.mem_append.mp hz with h | h
          · exact hpi z h
          · rw [List.mem_singleton] at h
            rw [h]
            exact hxk
        · intro z hz
          rw [valV_put]
          by_cases hzx : kI z = kI x
          · rw [if_pos hzx]
            exact ⟨_, rfl⟩
          · rw [if_neg hzx]
            rcases List.mem_append.mp hz with h | h
            · exact hpv z h
            · rw [List.mem_singleton] at h
              exact absurd (by rw [h]) hzx
    · have hxp : x ∈ pl := by
        rw [keys_some hpk] at hb
        simpa using hb
      obtain ⟨k, hkx⟩ := hpv x hxp
      have e0a := (((exs_of e05 : ExS S H H5).trans ex).trans (exs_of ea)).ex nS
      have gd : Ev (tDGet (tVar 3) (tVar 5)) [some (.ref p), some (.ref fp), some (.ref Dh), some (.ref D3), some (.ref D4), some (.ref qa), x6, x7] Ha (.int k) := ev_dget (k := kI x) (kvs := kvp) (ev_var rfl) (ev_var rfl) (.inl (ea _ _ hp3)) (kTup (ea _ _ hq)) hkx
      refine p_ret (ep_n (en_tup (Pa := fun vs _ => vs.length = 2) ((eq_cons (P := fun _ _ => True) (Pr := fun _ r _ => r.length = 1) ((epU_of (eu_tupleN (el_sl (K := K) (ev_var rfl) eo_none (eo_some gd) (sq_of (ea _ _ ho4))))).imp fun _ _ _ _ => trivial) fun z Hb eb _ => ?_).imp fun vs Hb eb hv => ?_) (fun vs H1 h => by rw [h]; decide) (fun _ _ _ _ h => h))) fun v Hb eb hv => q _ _ (e0a.trans eb) ?_
      · exact (eq_one (P := fun _ _ => True) ((epU_of (eu_tupleN (el_sl (K := K) (ev_var rfl) (eo_some (gd.mono eb)) eo_none (sq_of (eb _ _ (ea _ _ ho4)))))).imp fun _ _ _ _ => trivial)).imp fun vs Hc ec ⟨x, ev, _⟩ => by rw [ev]; rfl
      · obtain ⟨a, r, rfl, hr⟩ := hv
        rw [List.length_cons, hr]
      · obtain ⟨pp, rfl, _⟩ := hv
        exact .inr ⟨hno, pp, rfl⟩
abbrev sp_endless_play (C : Addr) : Sp := fsp (PreR C false) (fun a => EndV (nexts a.1.1 a.1.2.1 false) a.1.2.2)
abbrev sp_endless_single (C : Addr) : Sp := fsp (PreR C true) (fun a => EndV (nexts a.1.1 a.1.2.1 true) a.1.2.2)
theorem ep_ec {E E' : XK} {σ : L2.St} {H : Hp} {ta tf : TA} {wv fv : V} {single : Bool} {R : List Fil} (a : WPF) (h : EvA ta σ H [wv, fv, .bl single]) (hf : EvA tf σ H [fv]) (hp : PreF C a wv fv H) (hR : ClosedR (nexts a.1 a.2.1 single) a.2.2 R) :
    EvP (tCall sp_endless [] E (tCons (tCall (sp_comings C) [] E' ta) tf)) σ H (EndV (nexts a.1 a.2.1 single) a.2.2) :=
  ep_callX (eq_cons (Pr := fun x r H1 => r = [fv] ∧ ∃ p keys, x = .ref p ∧ ComOk (nexts a.1 a.2.1 single) a.2.2 keys ∧ ComAt H1 p keys (nexts a.1 a.2.1 single)) (ep_n (en_comings a h hp hR)) fun x H1 e1 ⟨p, ex, keys, hk, hc⟩ => (ea_p (hf.mono e1)).imp fun vs H2 e2 h2 => ⟨h2, p, keys, ex, hk, hc.ex e2⟩)
    fun vs H1 e ⟨x, r, ev, hr, p, keys, ex, hk, hc⟩ => ⟨((keys, nexts a.1 a.2.1 single), a.2.2), ⟨p, fv, by rw [ev, ex, hr], hc, graph_of hk hp.2.2.1, hp.2.1.ex e, hk.mem⟩, fun p H2 h2 => h2⟩
theorem has_endless_play (T : Tops K mg C) : Has P w K mg base 6 "endless_play" ["web", "filling"] (sp_endless_play C) := by
  refine T.d_endless_play.has sc_endless_play (fun vs H Q E h => ?_) (fun f cdv A outer s H vs Q E hr h => ?_)
  · obtain ⟨_, ⟨_, _, rfl, _⟩, _⟩ := h; rfl
  · obtain ⟨⟨a, R⟩, ⟨wv, fv, rfl, hP, hR⟩, q⟩ := h
    refine ⟨_, (pss_one (ps_ret (pe_fn (has_endless T) (hr.mono (by decide)) (by rfl) (pa_cons (pe_fn (has_comings T) (hr.mono (by decide)) (by rfl) (pa_cons (pv 0) (pa_cons (pv 1) (pa_cons pe_bl pa_nil)))) (pa_cons (pv 1) pa_nil))))), ?_⟩
    exact p_ret (ep_ec a (by walk_at "ea") (by walk_at "ea") hP hR) fun v H1 e1 hv => q _ _ e1 hv
theorem has_endless_single (T : Tops K mg C) : Has P w K mg base 6 "endless_single" ["web", "filling"] (sp_endless_single C) := by
  refine T.d_endless_single.has sc_endless_single (fun vs H Q E h => ?_) (fun f cdv A outer s H vs Q E hr h => ?_)
  · obtain ⟨_, ⟨_, _, rfl, _⟩, _⟩ := h; rfl
  · obtain ⟨⟨a, R⟩, ⟨wv, fv, rfl, hP, hR⟩, q⟩ := h
    refine ⟨_, (pss_one (ps_ret (pe_fn (has_endless T) (hr.mono (by decide)) (by rfl) (pa_cons (pe_fn (has_comings T) (hr.mono (by decide)) (by rfl) (pa_cons (pv 0) (pa_cons (pv 1) (pa_cons pe_bl pa_nil)))) (pa_cons (pv 1) pa_nil))))), ?_⟩
    exact p_ret (ep_ec a (by walk_at "ea") (by walk_at "ea") hP hR) fun v H1 e1 hv => q _ _ e1 hv
theorem ep_endless_play {E : XK} {σ : L2.St} {H : Hp} {ta : TA} {wv fv : V} {R : List Fil} (a : WPF) (h : EvA ta σ H [wv, fv]) (hp : PreF C a wv fv H) (hR : ClosedR (nexts a.1 a.2.1 false) a.2.2 R) : EvP (tCall (sp_endless_play C) [] E ta) σ H (EndV (nexts a.1 a.2.1 false) a.2.2) :=
  ep_call (a, R) h fun _ e => ⟨wv, fv, rfl, hp.ex e, hR⟩
theorem ep_endless_single {E : XK} {σ : L2.St} {H : Hp} {ta : TA} {wv fv : V} {R : List Fil} (a : WPF) (h : EvA ta σ H [wv, fv]) (hp : PreF C a wv fv H) (hR : ClosedR (nexts a.1 a.2.1 true) a.2.2 R) : EvP (tCall (sp_endless_single C) [] E ta) σ H (EndV (nexts a.1 a.2.1 true) a.2.2) :=
  ep_call (a, R) h fun _ e => ⟨wv, fv, rfl, hp.ex e, hR⟩
end
end TW
namespace TW
open PySem PySem.Spec PyProof.Rows L2 Evl
/-! ### the law's own ways -/
def ComLAt (H : Hp) (p : Addr) (keys : List Fil) (sc : Fil → List Fil) : Prop := ∃ kvs, H p = some (.dT kvs) ∧ KeysOf kvs keys ∧ ∀ x ∈ keys, ∃ l vs ss, valV kvs (kI x) = some (.ref l) ∧ H l = some (.lst vs) ∧ Paired (TupI H) vs ss ∧ (∀ y, y ∈ ss ↔ y ∈ sc x) ∧ ss.length ≤ 8
theorem ComLAt.ex {H H' : Hp} {p : Addr} {keys : List Fil} {sc : Fil → List Fil} (e : Ex H H') (h : ComLAt H p keys sc) : ComLAt H' p keys sc := by
  obtain ⟨kvs, h1, h2, h3⟩ := h
  refine ⟨kvs, e _ _ h1, h2, fun x hx => ?_⟩
  obtain ⟨l, vs, ss, a, b, c, d⟩ := h3 x hx
  exact ⟨l, vs, ss, a, e _ _ b, paired_imp (fun _ _ q => q.ex e) c, d⟩
/-- a row of numbers: those of an opening -/
def rowOf (ns : List Int) (o : List Int) : List Int := openedAt ns (some o)
theorem rowOf_nil (ns : List Int) : rowOf ns [] = List.replicate ns.length 0 := by
  unfold rowOf openedAt
  apply List.ext_getElem
  · simp
  · intro i h1 h2
    simp
theorem rowOf_len (ns o : List Int) : (rowOf ns o).length = ns.length := opened_len ns (some o)
theorem rowOf_step (ns o : List Int) (i : Nat) (hi : i < ns.length) : (rowOf ns o).take i ++ [wd ns i] ++ (rowOf ns o).drop (i + 1) = rowOf ns (o ++ [(i : Int)]) := by
  apply List.ext_getElem?
  intro j
  have g : ∀ (o : List Int) (j : Nat), (rowOf ns o)[j]? = if j < ns.length then some (if (j : Int) ∈ o then wd ns j else 0) else none := fun o j => by
    unfold rowOf openedAt
    rw [List.getElem?_map]
    by_cases h : j < ns.length
    · rw [List.getElem?_range h, if_pos h]
      rfl
    · rw [List.getElem?_eq_none (by simp; omega), if_neg h]
      rfl
  rw [g]
  have hl := rowOf_len ns o
  by_cases h1 : j < i
  · rw [List.append_assoc, List.getElem?_append_left (by rw [List.length_take]; omega), List.getElem?_take, if_pos h1, g]
    have : ((j : Int) ∈ o ++ [(i : Int)]) ↔ (j : Int) ∈ o := by
      rw [List.mem_append, List.mem_singleton]
      exact ⟨fun h => h.resolve_right (by omega), Or.inl⟩
    simp only [this]
  · by_cases h2 : j = i
    · subst h2
      rw [List.append_assoc, List.getElem?_append_right (by rw [List.length_take]; omega), List.length_take, show j - min j (rowOf ns o).length = 0 by omega, if_pos hi, if_pos (by simp)]
      rfl
    · rw [List.getElem?_append_right (by rw [List.length_append, List.length_take, List.length_singleton]; omega), List.length_append, List.length_take, List.length_singleton, List.getElem?_drop, show i + 1 + (j - (min i (rowOf ns o).length + 1)) = j by omega, g]
      have : ((j : Int) ∈ o ++ [(i : Int)]) ↔ (j : Int) ∈ o := by
        rw [List.mem_append, List.mem_singleton]
        exact ⟨fun h => h.resolve_right (by omega), Or.inl⟩
      simp only [this]
theorem cut_take (xs : List V) (i : Nat) : cutV xs none (some (i : Int)) = xs.take i := by
  have e1 : HT.sIx xs.length 0 none = 0 := rfl
  have e2 : HT.sIx xs.length xs.length (some (i : Int)) = min i xs.length := HT.sIx_nat _ _ i
  unfold cutV
  rw [e1, e2, List.drop_zero, Nat.sub_zero]
  by_cases h : i ≤ xs.length
  · rw [Nat.min_eq_left h]
  · rw [Nat.min_eq_right (by omega), List.take_of_length_le (Nat.le_refl _), List.take_of_length_le (by omega)]
theorem cut_drop (xs : List V) (i : Nat) : cutV xs (some (i : Int)) none = xs.drop i := by
  have e1 : HT.sIx xs.length 0 (some (i : Int)) = min i xs.length := HT.sIx_nat _ _ i
  have e2 : HT.sIx xs.length xs.length none = xs.length := rfl
  unfold cutV
  rw [e1, e2]
  by_cases h : i ≤ xs.length
  · rw [Nat.min_eq_left h, List.take_of_length_le (by rw [List.length_drop]; omega)]
  · rw [Nat.min_eq_right (by omega), List.drop_eq_nil_of_le (Nat.le_refl _), List.drop_eq_nil_of_le (by omega), List.take_nil]
section
variable {K : PySem.W.Frag} {σ : L2.St} {H H' : Hp} {te tl td ty tv ta tb : TE} {v z : V} {D : Ends} {tz : TS}
/-- x = xs.pop() -/
theorem q_pop {i : Nat} {l : Addr} {xs : List V} {y : V} (ha : Ev ta σ H (.ref l)) (hl : H l = some (.lst (xs ++ [y]))) (k : ∀ H1, Ex H H1 → tz D (σ.set i (some y)) (upd H1 l (.lst xs))) : tSeq (tAsg (tBM0 K "list" rPop ta) (gName i)) tz D σ H :=
  ha H (Ex.refl H) _ fun H1 e1 => ⟨Or.inl ⟨rfl, _, sq_of (e1 l _ hl)⟩, l, xs ++ [y], y, rfl, rfl, e1 l _ hl, by rw [List.length_append, List.length_singleton, Nat.add_sub_cancel, List.getElem?_append_right (Nat.le_refl _), Nat.sub_self]; rfl, by
    rw [List.dropLast_concat]
    exact k H1 e1⟩
/-- d[key] = v, the key by a property -/
theorem s_dputK {a : Addr} {kvs : List (List Key × V)} {k : List Key} (hv : Ev tv σ H v) (hd : Ev td σ H (.ref a)) (hy : EvP ty σ H (fun y H1 => ∃ b, y = .ref b ∧ H1 b = some (.tup (k.map kV)))) (h : H a = some (.dT kvs)) (hl : kvs.length < 100000)
    (q : ∀ H1, Ex H H1 → D.nx σ (upd H1 a (.dT (putK kvs k v)))) : sDPut td ty tv D σ H :=
  hv H (Ex.refl H) _ fun H1 e1 => hd H1 e1 _ fun H2 e2 => hy H2 (e1.trans e2) _ fun y H3 e3 ⟨b, ey, hb⟩ => ⟨a, _, rfl, .inr ⟨kvs, k, b, ((e1.trans e2).trans e3) a _ h, ey, hb, sz_lt hl, rfl⟩, q H3 ((e1.trans e2).trans e3)⟩
/-- list(d) -/
theorem en_listD {a : Addr} {kvs : List (List Key × V)} {G : List Fil} (hd : Ev td σ H (.ref a)) (h : Rd H a (.dT kvs)) (hk : KeysOf kvs G) : EvN (tCB (fun xs H Q => ∃ d kvs, xs = [V.ref d] ∧ Rd H d (.dT kvs) ∧ ∀ p bs, H p = none → IsKeys H kvs bs → Q (.ref p) (upd H p (.lst (bs.map V.ref)))) (tCons td tNil)) σ H (fun p H' => ∃ bs : List Addr, H' p = some (.lst (bs.map V.ref)) ∧ Paired (TupI H') (bs.map V.ref) G) := fun H1 e Q q =>
  hd H1 e _ fun H2 e2 => ⟨a, kvs, rfl, ex_rd (e.trans e2) h, fun p bs hp hI => q p _ (fresh_back e2 hp) (e2.trans (Ex.new hp)) ⟨bs, upd_same, by
    have hl := Paired.length hI
    have hkl := keys_len hk
    refine paired_get2 (by rw [List.length_map]; omega) fun i x y hx hy => ?_
    rw [List.getElem?_map] at hx
    obtain ⟨b, hb, rfl⟩ := Option.map_eq_some_iff.mp hx
    obtain ⟨kv, hkv, hf⟩ := paired_at hI hb
    obtain ⟨y', hy', ek⟩ := keys_get hk (k := kv.1) (v := kv.2) hkv
    rw [hy] at hy'
    cases hy'
    rw [ek] at hf
    exact ⟨b, rfl, (Ex.new hp) b _ (tupK hf)⟩⟩⟩
theorem perm_paired {α β : Type} {F : α → β → Prop} {xs ys : List α} (hp : xs.Perm ys) : ∀ {zs : List β}, Paired F ys zs → ∃ us : List β, us.Perm zs ∧ Paired F xs us := by
  induction hp with
  | nil => exact fun h => ⟨_, List.Perm.refl _, h⟩
  | cons x _ ih =>
    intro zs h
    cases h with
    | cons r s =>
      obtain ⟨us, h1, h2⟩ := ih s
      exact ⟨_, h1.cons _, .cons r h2⟩
  | swap x y l =>
    intro zs h
    cases h with
    | cons r s =>
      cases s with
      | cons r2 s2 => exact ⟨_, List.Perm.swap _ _ _, .cons r2 (.cons r s2)⟩
  | trans _ _ ih1 ih2 =>
    intro zs h
    obtain ⟨us, h1, h2⟩ := ih2 h
    obtain ⟨ws, h3, h4⟩ := ih1 h2
    exact ⟨ws, h3.trans h1, h4⟩
/-- sorted(list(d)) -/
theorem en_sortedD {ta : TE} {G : List Fil} (h : EvN ta σ H (fun p H' => ∃ bs : List Addr, H' p = some (.lst (bs.map V.ref)) ∧ Paired (TupI H') (bs.map V.ref) G)) (hG : ∀ y ∈ G, y ≠ []) : EvN (tCB rSortTs (tCons ta tNil)) σ H (fun p H' => ∃ vs ss, H' p = some (.lst vs) ∧ Paired (TupI H') vs ss ∧ ss.Perm G) := fun H1 e Q q =>
  h H1 e _ fun p H2 _ e2 ⟨bs, hp, hP⟩ => ⟨p, bs, rfl, hp, fun b hb => by
    obtain ⟨i, hi⟩ := List.mem_iff_getElem?.mp hb
    obtain ⟨y, hy, b', eb, ht⟩ := paired_get' hP (i := i) (x := V.ref b) (by rw [List.getElem?_map, hi]; rfl)
    cases eb
    exact ⟨y, hG y (List.mem_of_getElem? hy), ht⟩, fun r cs hperm hr => by
    obtain ⟨ss, h1, h2⟩ := perm_paired (hperm.map V.ref) hP
    exact q r _ (fresh_back e2 hr) (e2.trans (Ex.new hr)) ⟨_, ss, upd_same, paired_imp (fun _ _ q => q.ex (Ex.new hr)) h2, h1⟩⟩
/-- xs.extend(ys) -/
theorem s_ext {l b : Addr} {xs zs : List V} (hl : H l = some (.lst xs)) (ha : Ev ta σ H (.ref l)) (h : Ev te σ H (.ref b)) (hb : H b = some (.lst zs)) (hz : xs.length + zs.length ≤ 100000) (k : ∀ H1, Ex H H1 → D.nx σ (upd H1 l (.lst (xs ++ zs)))) :
    tDrop (tBM K "list" rExtend ta (tCons te tNil)) D σ H := ha H (Ex.refl H) _ fun H1 e1 =>
  ⟨Or.inl ⟨rfl, xs, sq_of (e1 l _ hl)⟩, h H1 e1 _ fun H2 e2 => ⟨l, b, xs, zs, rfl, rfl, (e1.trans e2) l _ hl, (e1.trans e2) b _ hb, sz_of hz, k H2 (e1.trans e2)⟩⟩
end
end TW
namespace TW
open PySem PySem.Spec PyProof.Rows L2 Evl
theorem paired_last {α β : Type} {F : α → β → Prop} {y : β} : ∀ {ys : List β} {xs : List α}, Paired F xs (ys ++ [y]) → ∃ xs' x, xs = xs' ++ [x] ∧ Paired F xs' ys ∧ F x y
  | [], _, .cons r .nil => ⟨[], _, rfl, .nil, r⟩
  | _ :: ys, _, .cons r s => by
    obtain ⟨xs', x, h1, h2, h3⟩ := paired_last (ys := ys) s
    exact ⟨_ :: xs', x, by rw [h1]; rfl, .cons r h2, h3⟩
theorem last_of {α : Type} : ∀ {l : List α}, l ≠ [] → ∃ l' x, l = l' ++ [x]
  | [], h => absurd rfl h
  | [x], _ => ⟨[], x, rfl⟩
  | x :: y :: r, _ => by
    obtain ⟨l', z, h⟩ := last_of (l := y :: r) (fun h => nomatch h)
    exact ⟨x :: l', z, by rw [h]; rfl⟩
theorem llots_len (single : Bool) (ns : List Int) (h : ns.length ≤ 3) (i : Nat) (hi : i ≤ ns.length) : (llots single (nzs ns i)).length ≤ 8 := by
  unfold llots
  cases single with
  | true =>
    have := nzs_len ns i
    simp
    omega
  | false => exact (subs_bd ns i (by omega)).1
theorem nexts_mem {ws : List Int} {ps : List Pipe} {single : Bool} {x y : Fil} : y ∈ nexts ws ps single x ↔ ∃ o ∈ (llots single (nzs (flowsAt ws ps x) (flowsAt ws ps x).length)).drop 1, y = tickAt ws ps x (some o) := by
  rw [mem_nexts]
  constructor
  · rintro ⟨o, ho, e⟩
    exact ⟨o, (mem_lots _ _ _).mp ho, e⟩
  · rintro ⟨o, ho, e⟩
    exact ⟨o, (mem_lots _ _ _).mpr ho, e⟩
theorem insAll_take1 {f : List Int → Fil} {os : List (List Int)} {i : Nat} {o : List Int} (h : os[i]? = some o) (ks : List Fil) : insAll f (os.take (i + 1)) ks = insK (insAll f (os.take i) ks) (f o) := by
  unfold insAll
  rw [List.take_add_one, h, Option.toList_some, List.foldl_append]
  rfl
section
variable {K : PySem.W.Frag} {σ : L2.St} {H H' : Hp} {te tl ta tb : TE} {t : TT} {P : VP}
theorem ep_if {b : Bool} (h : EvT t σ H b) (h1 : b = true → EvP ta σ H P) (h2 : b = false → EvP tb σ H P) : EvP (tIf t ta tb) σ H P := fun H1 e Q q => h H1 e _ fun H2 e2 => by
  cases b with
  | true =>
    rw [if_pos rfl]
    exact h1 rfl H2 (e.trans e2) Q fun v H3 e3 p => q v H3 (e2.trans e3) p
  | false =>
    rw [if_neg Bool.false_ne_true]
    exact h2 rfl H2 (e.trans e2) Q fun v H3 e3 p => q v H3 (e2.trans e3) p
end
section
variable {P : Program} {w : World} {K : PySem.W.Frag} {mg : Str → Option Value} {base : Heap} {C : Addr} {mgX : Str → Option Value}
local macro_rules | `(tactic| walk_at "rv") => `(tactic| first
  | exact rv_I0
  | exact rv_eq rfl
  | exact rv_ne rfl
  | exact rv_isN
  | exact rv_notN
  | (apply rv_I; (try dsimp only); first | omega | assumption | exact ⟨by omega, by omega⟩ | exact Or.inl ⟨by omega, by omega⟩ | exact Or.inr ⟨by omega, by omega⟩)
  | (apply rv_ix0; assumption; rfl)
  | (apply rv_ix1; assumption; rfl)
  | (apply rv_ix2; assumption; rfl)
  | (apply rv_ix4; assumption; rfl))
local macro_rules | `(tactic| walk_at "ea") => `(tactic| first
  | exact ea_nil
  | (apply ea_cons; walk_at "ev"; walk_at "ea"))
local macro_rules | `(tactic| walk_at "ev") => `(tactic| first
  | exact ev_c
  | (apply ev_var; rfl)
  | (apply ev_op; walk_at "ev"; walk_at "ev"; walk_at "rv")
  | (apply ev_un; walk_at "ev"; exact ru_neg)
  | (apply ev_isiII; walk_at "ea")
  | (apply ev_isiIB; walk_at "ea")
  | (apply ev_isiTT; assumption; walk_at "ea")
  | (apply ev_lenT; assumption; walk_at "ev")
  | (apply ev_lenL; assumption; walk_at "ev")
  | (apply ev_andV; walk_at "ev"; intro _; walk_at "ev")
  | (apply ev_orV; walk_at "ev"; intro _; walk_at "ev")
  | (apply ev_notV; walk_at "ev")
  | (apply ev_chain; walk_at "ev"; walk_at "ev"; walk_at "ev"; walk_at "rv"; walk_at "rv")
  | (apply ev_abs; walk_at "ea")
  | (apply ev_int; walk_at "ea"))
local macro_rules | `(tactic| walk_at "et") => `(tactic| first
  | (apply et_test; walk_at "ev")
  | (apply et_B; walk_at "ev")
  | (apply et_not; walk_at "et")
  | (apply et_and; walk_at "et"; intro _; walk_at "et")
  | (apply et_or; walk_at "et"; intro _; walk_at "et"))

local macro_rules | `(tactic| walk_at "ev") => `(tactic| ((with_reducible apply ev_is_integer); walk_at "ea"))
local macro_rules | `(tactic| walk_at "ev") => `(tactic| ((with_reducible apply ev_is_between); walk_at "ea"))
local macro_rules | `(tactic| walk_at "ev") => `(tactic| ((with_reducible apply ev_divisor); walk_at "ea"))
local macro_rules | `(tactic| walk_at "ev") => `(tactic| ((with_reducible apply ev_is_width); walk_at "ea"))
def ClR (sc : Fil → List Fil) (x : Fil) (R : List Fil) : Prop := x ∈ R ∧ ∀ x ∈ R, ∀ y ∈ sc x, y ∈ R
abbrev LCA := WPF × Nat × Bool
def LCP (a : LCA) (v : V) (H : Hp) : Prop :=
  (v = .non ∧ ∀ R, ClR (nexts a.1.1 a.1.2.1 a.2.2) a.1.2.2 R → a.2.1 < R.length) ∨ ∃ p keys, v = .ref p ∧ ComOk (nexts a.1.1 a.1.2.1 a.2.2) a.1.2.2 keys ∧ keys.length ≤ a.2.1 ∧ ComLAt H p keys (nexts a.1.1 a.1.2.1 a.2.2)
abbrev sp_l_comings : Sp := fsp (fun (a : LCA) vs H => ∃ wv pq fv, vs = [wv, pq, fv, .int (a.2.1 : Int), .bl a.2.2] ∧ PreL a.1 wv pq fv H ∧ a.2.1 ≤ 60) LCP
theorem has_l_comings (T : Tops K mg C) : Has P w K mg base 3 "_law_comings" ["_law_widths", "_law_pipes", "_law_filling_here", "_law_most", "_law_single"] sp_l_comings := by
  refine T.d_l_comings.has sc_l_comings (fun vs H Q E h => ?_) (fun f cdv A outer s H vs Q E hr h => ?_)
  · obtain ⟨_, ⟨_, _, _, rfl, _⟩, _⟩ := h; rfl
  · obtain ⟨⟨⟨ws, ps, fill⟩, most, single⟩, ⟨wv, pq, fv, rfl, hP, hmost⟩, q⟩ := h
    refine ⟨_, (pss_cons (ps_set (i := 5) sc_l_comings.nd rfl (.inl rfl) pe_dnewT)
      (pss_cons (ps_set (i := 6) sc_l_comings.nd rfl (.inl rfl) (pe_lst (pa_cons (pv 2) pa_nil)))
      (pss_cons (ps_while PassesOwn.never (pt_cmpR op_gt (pe_callB (r := rLenS K) call_len_seq (by rfl) T.b_len (by decide +kernel) (pa_cons (pv 6) pa_nil)) pe_int (nomark _))
        (pss_cons (ps_set (i := 7) sc_l_comings.nd rfl (.inl rfl) (pe_bm0 PySem.F.plainAttrs_list PySem.F.slot_list_pop PySem.F.type_list_pop mt_pop (pv 6)))
        (pss_one (ps_if (pt_cmp (pc_dnotin (hu_of hr) (pv 7) (pv 5)) rfl)
          (pss_cons (ps_if (pt_cmpR op_eq (pe_callB call_len_dT (by rfl) T.b_len (by decide +kernel) (pa_cons (pv 5) pa_nil)) (pv 3) (nomark _))
            (pss_one (ps_ret pe_non))
            pss_nil)
          (pss_cons (ps_set (i := 8) sc_l_comings.nd rfl (.inr rfl) (pe_fn (has_l_flows T) (hr.mono (by decide)) (by rfl) (pa_cons (pv 0) (pa_cons (pv 1) (pa_cons (pv 7) pa_nil)))))
          (pss_cons (ps_set (i := 9) sc_l_comings.nd rfl (.inl rfl) (pe_lst (pa_cons (pe_op op_rep (pe_lst (pa_cons pe_int pa_nil)) (pe_callB (r := rLenS K) call_len_seq (by rfl) T.b_len (by decide +kernel) (pa_cons (pv 1) pa_nil))) pa_nil)))
          (pss_cons (ps_for PassesOwn.never rfl (pi_range1 (by rfl) T.b_range (pa_cons (pe_callB (r := rLenS K) call_len_seq (by rfl) T.b_len (by decide +kernel) (pa_cons (pv 1) pa_nil)) pa_nil)) (pg_name (i := 10) sc_l_comings.nd rfl (Or.inr rfl))
            (pss_one (ps_if (pt_cmpR op_ne (pe_ix (r := rIxL K) ix_list (pv 8) (pv 10) (fun _ _ => rfl)) pe_int (nomark _))
              (pss_cons (ps_set (i := 11) sc_l_comings.nd rfl (.inl rfl) (pe_ifExp (pt_val (pv 4)) (pe_slice (r := rSlL K) sl_list (pv 9) po_none (po_some pe_int)) (pv 9)))
              (pss_one (ps_set (i := 9) sc_l_comings.nd rfl (.inl rfl) (pe_op op_cat (pv 9) (pe_lc (own := [("_law_row", 12)]) rfl sc_l_comings.nd (pi_list (pv 11)) (blkOk_by (own := [("_law_row", 12)]) (N := N_l_comings) (sc := defScope s_l_comings) (by decide +kernel)) (fun _ _ _ _ _ => (pg_name (i := 12) sc_l_comings.nd rfl (Or.inl rfl))) (fun _ _ _ _ _ => pts_nil) (fun _ _ _ _ _ => (pe_op op_cat (pe_op op_cat (pe_slice (r := rSlL K) sl_list (pv 12) po_none (po_some (pv 10))) (pe_lst (pa_cons (pe_ix (r := rIxL K) ix_list (pv 8) (pv 10) (fun _ _ => rfl)) pa_nil))) (pe_slice (r := rSlL K) sl_list (pv 12) (po_some (pe_op op_add (pv 10) pe_int)) po_none))))))))
              pss_nil)))
          (pss_cons (ps_set (i := 13) sc_l_comings.nd rfl (.inl rfl) pe_dnewT)
          (pss_cons (ps_for PassesOwn.never rfl (pi_list (pe_slice (r := rSlL K) sl_list (pv 9) (po_some pe_int) po_none)) (pg_name (i := 12) sc_l_comings.nd rfl (Or.inl rfl))
            (pss_one (ps_dput (hu_of hr) (pv 13) (pe_fn (has_l_moved T) (hr.mono (by decide)) (by rfl) (pa_cons (pv 0) (pa_cons (pv 1) (pa_cons (pv 7) (pa_cons (pv 12) pa_nil))))) pe_bl rfl)))
          (pss_cons (ps_dput (hu_of hr) (pv 5) (pv 7) (pe_callB cr_sortTs (by rfl) T.b_sorted (by decide +kernel) (pa_cons (pe_callTy (call_list_dT rfl) (by rfl) T.b_list (by decide +kernel) (pa_cons (pv 13) pa_nil)) pa_nil)) rfl)
          (pss_one (ps_expr (pe_bm PySem.F.plainAttrs_list PySem.F.slot_list_extend PySem.F.type_list_extend mt_extend (pv 6) (pa_cons (pe_dget (hu_of hr) (pv 5) (pv 7) (fun _ _ => rfl)) pa_nil)))))))))))
          pss_nil))))
      (pss_one (ps_ret (pv 5)))))), ?_⟩
    simp only at hP hmost
    unfold LCP at q
    simp only at q
    generalize hsc : nexts ws ps single = sc at q
    obtain ⟨hwv, ⟨pp, pvs, rfl, hpp, hps⟩, ⟨fp, rfl, hf⟩, hW, hF⟩ := id hP
    simp only at hf hF
    have hl3 : ps.length ≤ 3 := hW.pip
    have hpl : pvs.length = ps.length := Paired.length hps
    refine p_asgN en_dnew fun D5 H1 hD5 e1 h1 => ?_
    refine q_asgL (xs := [.ref fp]) (el_lst (ea_cons (ev_var rfl) ea_nil) (by show 1 ≤ 100000; decide)) fun D6 H2 hD6 e2 h2 => ?_
    have nD5 : H D5 = none := hD5
    have nD6 : H D6 = none := fresh_back e1 hD6
    have d56 : D5 ≠ D6 := fun z => by rw [← z, h1] at hD6; cases hD6
    have e12 := e1.trans e2
    let S : Addr → Prop := fun a => a = D5 ∨ a = D6
    have nS : ∀ a, S a → H a = none := fun a z => by
      rcases z with z | z <;> rw [z] <;> assumption
    have nT : ∀ a xs, S a → H2 a ≠ some (.tup xs) := fun a xs z h => by
      rcases z with z | z
      · rw [z, e2 _ _ h1] at h
        cases h
      · rw [z, h2] at h
        cases h
    refine q_while (fun m σ' H' => ∃ (fk wt : List Fil) (wvs : List V) (kvf : List (List Key × V)) (x7 x8 x9 x10 x11 x12 x13 : Option V),
      σ' = [some wv, some (.ref pp), some (.ref fp), some (.int (most : Int)), some (.bl single), some (.ref D5), some (.ref D6), x7, x8, x9, x10, x11, x12, x13] ∧ m = 8 * (most + 1 - fk.length) + wt.length ∧ fk.length ≤ most ∧ wt.length ≤ 1 + 8 * fk.length ∧ ExS S H2 H' ∧
      H' D5 = some (.dT kvf) ∧ KeysOf kvf fk ∧ fk.Nodup ∧ H' D6 = some (.lst wvs) ∧ Paired (TupI H') wvs wt ∧ (fill ∈ fk ∨ fill ∈ wt) ∧ (∀ x, x ∈ fk ∨ x ∈ wt → FillOk ws x ∧ ∀ R, ClR sc fill R → x ∈ R) ∧
      ∀ x ∈ fk, (∀ y ∈ sc x, y ∈ fk ∨ y ∈ wt) ∧ ∃ l vs ss, valV kvf (kI x) = some (.ref l) ∧ ¬ S l ∧ H' l = some (.lst vs) ∧ Paired (TupI H') vs ss ∧ (∀ y, y ∈ ss ↔ y ∈ sc x) ∧ ss.length ≤ 8) (8 * (most + 1 - 0) + 1)
      ⟨[], [fill], [.ref fp], [], none, none, none, none, none, none, none, rfl, rfl, Nat.zero_le _, by show 1 ≤ 1 + 8 * 0; decide, ExS.refl _, e2 _ _ h1, rfl, List.nodup_nil, h2, .cons ⟨fp, rfl, e12 _ _ hf⟩ .nil, .inr (by simp), fun x hx => by
        rcases hx with hx | hx
        · cases hx
        · rw [List.mem_singleton] at hx
          subst hx
          exact ⟨hF, fun R hR => hR.1⟩, fun x hx => nomatch hx⟩ ?_
    rintro m σ' H' ⟨fk, wt, wvs, kvf, x7, x8, x9, x10, x11, x12, x13, rfl, rfl, hfm, hwl8, ex, h5, h5k, hnd, h6, h6p, hst, hall, hdat⟩
    have hwl := Paired.length h6p
    refine ⟨decide (0 < (wvs.length : Int)), et_test (ev_op (ev_lenL h6 (ev_var rfl)) ev_c rv_I0), fun hb Ha ea => ?_, fun hb Ha ea => ?_⟩
    · have hw0 : wt ≠ [] := fun z => by
        rw [z] at hwl
        have := of_decide_eq_true hb
        rw [hwl] at this
        simp at this
      obtain ⟨wt0, x, rfl⟩ := last_of hw0
      obtain ⟨wvs0, v, rfl, hp0, qa, rfl, hqa⟩ := paired_last h6p
      rw [List.length_append, List.length_singleton] at hwl8
      refine ⟨_, fun σ2 H2 h => h, ?_⟩
      refine q_pop (ev_var rfl) (ea _ _ h6) fun Hb eb => ?_
      have eab := ea.trans eb
      have hxa := hall x (.inr (by simp))
      generalize hHc : upd Hb D6 (.lst wvs0) = Hc
      have xc : ExS S H' Hc := by
        rw [← hHc]
        exact (exs_of eab).mut (.inr rfl)
      have tc : TEx H' Hc := by
        rw [← hHc]
        exact (tex_of eab).trans (tex_lst (eab _ _ h6))
      have h5c : Hc D5 = some (.dT kvf) := by
        rw [← hHc, upd_ne d56]
        exact eab _ _ h5
      have h6c : Hc D6 = some (.lst wvs0) := by rw [← hHc, upd_same]
      have hqc := tc _ _ hqa
      have hp0c := paired_imp (fun _ _ q => TupI.tex tc q) hp0
      have e0c : Ex H Hc := ((exs_of e12 : ExS S _ _).trans (ex.trans xc)).ex nS
      refine s_when (b := !(valV kvf (kI x)).isSome) (et_B (ev_dnotin (ev_var rfl) (ev_var rfl) (.inl h5c) (kTup hqc))) (fun hn Hd ed => ?_) (fun hn Hd ed => ?_)
      · have hxf : x ∉ fk := by
          rw [keys_some h5k] at hn
          exact of_decide_eq_false (by simpa using hn)
        have hkf := keys_len h5k
        refine q_when (b := decide ((kvf.length : Int) = (most : Int))) (et_is (et_test (ev_op (ev_lenD (ev_var rfl) (ed _ _ h5c)) (ev_var rfl) (rv_eq rfl))) (by simp)) (fun hm He ee => ?_) (fun hm He ee => ?_)
        · refine s_ret (v := .non) ev_c fun Hf ef => q _ _ (((e0c.trans ed).trans ee).trans ef) (.inl ⟨rfl, fun R hR => ?_⟩)
          have hm := of_decide_eq_true hm
          have h1 := nodup_sub (l := fk ++ [x]) (R := R) (by
            rw [List.nodup_append]
            exact ⟨hnd, by simp, fun a ha b hb z => hxf (by rw [List.mem_singleton] at hb; rw [← hb, ← z]; exact ha)⟩) (fun y hy => by
            rcases List.mem_append.mp hy with h | h
            · exact (hall y (.inl h)).2 R hR
            · rw [List.mem_singleton] at h
              rw [h]
              exact hxa.2 R hR)
          rw [List.length_append, List.length_singleton] at h1
          show most < R.length
          omega
        have hm := of_decide_eq_false hm
        have ede := ed.trans ee
        have hPc : PreL (ws, ps, x) wv (.ref pp) (.ref qa) He := ⟨hwv.ex (e0c.trans ede), ⟨pp, pvs, rfl, (e0c.trans ede) _ _ hpp, paired_imp (fun _ _ q => q.tex (tex_of (e0c.trans ede))) hps⟩, ⟨qa, rfl, ede _ _ hqc⟩, hW, hxa.1⟩
        refine p_asg (ep_l_flows (ws, ps, x) (by walk_at "ea") hPc) fun v Hf ef hv => ?_
        obtain ⟨np, rfl, hn⟩ := hv
        simp only at hn
        have fl := flows_len ws ps x
        generalize hns : flowsAt ws ps x = ns at hn fl
        have eaf := ede.trans ef
        refine p_asgN (en_lst1 (P := fun v H' => LstI H' v (rowOf ns [])) ((epL_of (el_rep (el_lst (ea_cons ev_c ea_nil) (by show 1 ≤ 100000; decide)) (ev_lenT ((e0c.trans eaf) _ _ hpp) (ev_var rfl)) (by omega))).imp fun v H1 e1 ⟨p, ev, hp⟩ => ⟨p, ev, by rw [hp, rowOf_nil, hpl, fl]; simp [vI]⟩) (fun v H1 H2 e h => h.ex e)) fun D9 Hg hD9 eg ⟨rv, h9, h9r⟩ => ?_
        have eag := eaf.trans eg
        refine q_forI (ei_rng1 (j := (pvs.length : Int)) (ea_cons (ev_lenT ((e0c.trans eag) _ _ hpp) (ev_var rfl)) ea_nil) ⟨by omega, by omega⟩) fun Hh eh => ⟨fun i σ' H'' => Ex Hh H'' ∧ ∃ (x10 x11 x12 : Option V) (d : Addr) (us : List V), σ' = [some wv, some (.ref pp), some (.ref fp), some (.int (most : Int)), some (.bl single), some (.ref D5), some (.ref D6), some (.ref qa), some (.ref np), some (.ref d), x10, x11, x12, x13] ∧ H'' d = some (.lst us) ∧ Paired (LstI H'') us ((llots single (nzs ns i)).map (rowOf ns)),
          ⟨Ex.refl _, x10, x11, x12, D9, [rv], rfl, eh _ _ h9, by
            have : llots single (nzs ns 0) = [[]] := by cases single <;> rfl
            rw [this]
            exact .cons (h9r.ex eh) .nil⟩, fun i σ' H' h => h.1, ?_, ?_⟩
        · rintro i z σ' Hi Hj hi ⟨exi, x10, x11, x12, d, us, rfl, hd, hus⟩ ej rfl
          rw [Int.toNat_natCast] at hi
          have hii : i < ns.length := by omega
          refine eg_name _ ?_
          have hnj : Hj np = some (.lst (vI ns)) := (((eg.trans eh).trans exi).trans ej) _ _ hn
          have husj := paired_imp (fun _ _ q => LstI.ex ej q) hus
          have hdj := ej _ _ hd
          have hul := Paired.length husj
          rw [List.length_map] at hul
          have hll := llots_len single ns (by omega) i (by omega)
          refine s_when (b := !decide (V.int (wd ns i) = V.int 0)) (et_test (ev_op (ev_op (ev_var rfl) (ev_var rfl) (rv_ixLl hnj (vI_get hii))) ev_c (rv_ne rfl))) (fun hz Hk ek => ?_) (fun hz Hk ek => ?_)
          · have hz0 : wd ns i ≠ 0 := by simpa using hz
            have husk := paired_imp (fun _ _ q => LstI.ex ek q) husj
            refine p_asg (P := fun v H' => ∃ d' us', v = .ref d' ∧ H' d' = some (.lst us') ∧ Paired (LstI H') us' ((if single then (llots single (nzs ns i)).take 1 else llots single (nzs ns i)).map (rowOf ns))) (ep_if (b := single) (by walk_at "et") (fun hs => ?_) (fun hs => ?_)) fun v Hl el ⟨d', us', ev, hd', hus'⟩ => ?_
            · rw [if_pos hs]
              refine (epL_of (el_sl (K := K) (ev_var rfl) eo_none (eo_some ev_c) (sq_of (ek _ _ hdj)))).imp fun v Hl el ⟨p, ev, hp⟩ => ⟨p, us.take 1, ev, ?_, ?_⟩
              · rw [hp]
                congr 2
                exact cut_take us 1
              · have h := paired_imp (fun _ _ q => LstI.ex el q) husk
                have : ∀ {xs : List V} {ys : List (List Int)}, Paired (LstI Hl) xs ys → Paired (LstI Hl) (xs.take 1) (ys.take 1) := fun h => by
                  cases h with
                  | nil => exact .nil
                  | cons r s => exact .cons r .nil
                rw [List.map_take]
                exact this h
            · rw [if_neg (by rw [hs]; exact Bool.false_ne_true)]
              exact (ep_of (ev_var (v := .ref d) rfl)).imp fun v Hl el hv => ⟨d, us, hv, el _ _ (ek _ _ hdj), paired_imp (fun _ _ q => LstI.ex el q) husk⟩
            subst ev
            have hul' := Paired.length hus'
            generalize hOs : (if single then (llots single (nzs ns i)).take 1 else llots single (nzs ns i)) = Os at hus' hul'
            have hOl : Os.length ≤ 8 := by
              rw [← hOs]
              split
              · rw [List.length_take]
                omega
              · exact hll
            rw [List.length_map] at hul'
            have hnl := (ek.trans el) _ _ hnj
            have hdl := (ek.trans el) _ _ hdj
            refine s_asgN (en_cat (P := fun ys H' => Paired (LstI H') ys (Os.map fun o => rowOf ns (o ++ [(i : Int)]))) (ev_var rfl) hdl (EvN.imp (en_lcD (fun _ => true) (fun D j v H' => ∀ o, Os[j]? = some o → ∃ p, v = .ref p ∧ p ≠ D ∧ H' p = some (.lst (vI (rowOf ns (o ++ [(i : Int)]))))) (ei_list (ev_var rfl) (sq_of hd')) (by omega) (fun D j v H1 H2 e h o ho => ?_) (fun D zs j v H1 hD hDz e1 hj hv => ⟨_, eg_name, rfl, (fun H4 _ Q q => q H4 (Ex.refl H4)), fun _ => ?_⟩)) fun p Hm em ⟨ys, hy1, hy2⟩ => ⟨ys, hy1, ?_⟩) (fun ys H1 h => ?_) (fun ys H1 H2 e h => paired_imp (fun _ _ q => LstI.ex e q) h)) fun p Hm hpn em ⟨ys, hy1, hy2⟩ => ?_
            · obtain ⟨p, ev, np, hp⟩ := h o ho
              exact ⟨p, ev, np, e p _ np hp⟩
            · obtain ⟨r, hr, rp, rfl, hrp⟩ := paired_get' hus' hv
              rw [List.getElem?_map] at hr
              obtain ⟨o, ho, rfl⟩ := Option.map_eq_some_iff.mp hr
              have hrp := e1 _ _ hrp
              have hcast : V.int ((i : Int) + 1) = V.int ((i + 1 : Nat) : Int) := rfl
              have el := el_catLL (el_catLL (el_sl (K := K) (σ := ([some wv, some (.ref pp), some (.ref fp), some (.int (most : Int)), some (.bl single), some (.ref D5), some (.ref D6), some (.ref qa), some (.ref np), some (.ref d), some (.int (i : Int)), some (.ref d'), some (.ref rp), x13] : L2.St)) (ev_var (i := 12) rfl) eo_none (eo_some (ev_var (i := 10) rfl)) (sq_of hrp))
                (el_lst (ea_cons (ev_op (ev_var (i := 8) rfl) (ev_var (i := 10) rfl) (rv_ixLl (K := K) (e1 _ _ hnl) (vI_get hii))) ea_nil) (by show 1 ≤ 100000; decide)) (by
                  rw [cut_take, List.length_take, List.length_map, List.length_singleton]
                  omega))
                (el_sl (K := K) (ev_var (i := 12) rfl) (eo_some (ev_is (ev_op (ev_var (i := 10) rfl) (ev_c (v := .int 1)) (rv_I0 (g := fun a b => .int (a + b)))) hcast)) eo_none (sq_of hrp)) (by
                  rw [cut_take, cut_drop, List.length_append, List.length_take, List.length_drop, List.length_map, rowOf_len, List.length_singleton]
                  omega)
              rw [cut_take, cut_drop] at el
              have hvv : (vI (rowOf ns o)).take i ++ [V.int (wd ns i)] ++ (vI (rowOf ns o)).drop (i + 1) = vI (rowOf ns (o ++ [(i : Int)])) := by
                rw [← rowOf_step ns o i hii]
                simp [vI, List.map_take, List.map_drop]
              rw [hvv] at el
              intro Hq eq Q' q'
              refine el Hq eq _ fun l Hr nl er hl => q' _ _ er fun o' ho' => ?_
              rw [ho] at ho'
              cases ho'
              exact ⟨l, rfl, (fun z => by
                rw [z, eq _ _ hDz] at nl
                cases nl), hl⟩
            · obtain ⟨l1, l2⟩ := paired_range hy2
              refine paired_get2 (by rw [List.length_map]; omega) fun j v r hv hr => ?_
              rw [List.getElem?_map] at hr
              obtain ⟨o, ho, rfl⟩ := Option.map_eq_some_iff.mp hr
              obtain ⟨p, ev, _, hp⟩ := l2 j v hv o ho
              exact ⟨p, ev, hp⟩
            · have := Paired.length h
              rw [List.length_map] at this
              omega
            · refine ⟨(((exi.trans ej).trans ek).trans el).trans em, some (.int i), some (.ref d'), x12, p, us ++ ys, rfl, hy1, ?_⟩
              rw [nzs_succ, if_pos hz0, llots_snoc, List.map_append, hOs, List.map_map]
              exact paired_append (paired_imp (fun _ _ q => LstI.ex (el.trans em) q) husk) hy2
          · have hz0 : ¬ wd ns i ≠ 0 := by simpa using hz
            refine ⟨(exi.trans ej).trans ek, some (.int i), x11, x12, d, us, rfl, ek _ _ hdj, ?_⟩
            rw [nzs_succ, if_neg hz0]
            exact paired_imp (fun _ _ q => LstI.ex ek q) husj
        · rintro σ' Hi ⟨exi, x10, x11, x12, d, us, rfl, hd, hus⟩
          rw [Int.toNat_natCast, hpl, ← fl] at hus
          generalize hLs : llots single (nzs ns ns.length) = Ls at hus
          have hLl : Ls.length ≤ 8 := by
            rw [← hLs]
            exact llots_len single ns (by omega) _ (Nat.le_refl _)
          have eci : Ex Hc Hi := (eag.trans eh).trans exi
          refine p_asgN en_dnew fun D13 Hj hD13 ej h13 => ?_
          have hdj := ej _ _ hd
          have hdrop : Paired (LstI Hj) (us.drop 1) ((Ls.drop 1).map (rowOf ns)) := by
            rw [List.map_drop]
            exact paired_imp (fun _ _ q => LstI.ex ej q) (paired_drop hus)
          have hdl := Paired.length hdrop
          rw [List.length_map] at hdl
          generalize hOs : Ls.drop 1 = Os at hdrop hdl
          have hOl : Os.length ≤ 8 := by
            rw [← hOs, List.length_drop]
            omega
          have ecj := eci.trans ej
          have nS2 : ∀ a, S a ∨ a = D13 → H a = none := fun a z => by
            rcases z with z | z
            · exact nS a z
            · rw [z]
              exact fresh_back (e0c.trans eci) hD13
          refine q_forJ (S := (· = D13)) (n := Os.length) (Y := fun i v H'' => ∃ o, Os[i]? = some o ∧ LstI H'' v (rowOf ns o)) (ej_newL (Pn := fun xs H'' => xs = us.drop 1 ∧ Ex Hj H'') (fun a z => by rw [z, h13]; exact fun y => nomatch y) (fun Hk ek Q' q' => el_sl (K := K) (ev_var rfl) (eo_some ev_c) eo_none (sq_of hdj) Hk ek Q' fun p Hl np el hp => q' p Hl np el ⟨us.drop 1, by rw [hp]; congr 2; exact cut_drop us 1, hdl, rfl, ek.trans el⟩) fun xs Hk Hl i v ek el ⟨hx1, hx2⟩ hxi => ?_) fun Hk ek => ?_
          · subst hx1
            obtain ⟨r, hr, rp, rfl, hrp⟩ := paired_get' hdrop hxi
            rw [List.getElem?_map] at hr
            obtain ⟨o, ho, rfl⟩ := Option.map_eq_some_iff.mp hr
            exact ⟨o, ho, rp, rfl, el _ _ (fun z => by rw [z, h13] at hrp; cases hrp) (hx2 _ _ hrp)⟩
          · refine ⟨fun i σ' H'' => ExS (· = D13) Hk H'' ∧ (∃ x12, σ' = [some wv, some (.ref pp), some (.ref fp), some (.int (most : Int)), some (.bl single), some (.ref D5), some (.ref D6), some (.ref qa), some (.ref np), some (.ref d), x10, x11, x12, some (.ref D13)]) ∧ ∃ kvs, H'' D13 = some (.dT kvs) ∧ KeysOf kvs (insAll (fun o => tickAt ws ps x (some o)) (Os.take i) []),
              ⟨ExS.refl _, ⟨_, rfl⟩, [], ek _ _ h13, rfl⟩, fun i σ' H' h => h.1, ?_, ?_⟩
            · rintro i v σ' Hl Hm hi ⟨exl, ⟨x12, rfl⟩, kvs, hk, hks⟩ em ⟨o, ho, hvo⟩
              refine eg_name _ ?_
              have ecm : Ex Hc Hm := ((exs_of (ecj.trans ek)).trans (exl.trans (exs_of em))).ex (fun a z => by
                rw [z]
                exact fresh_back eci hD13)
              have hPm : PreL (ws, ps, x) wv (.ref pp) (.ref qa) Hm := ⟨hwv.ex (e0c.trans ecm), ⟨pp, pvs, rfl, (e0c.trans ecm) _ _ hpp, paired_imp (fun _ _ q => q.tex (tex_of (e0c.trans ecm))) hps⟩, ⟨qa, rfl, ecm _ _ hqc⟩, hW, hxa.1⟩
              have hst := insAll_take1 (f := fun o => tickAt ws ps x (some o)) ho []
              generalize hG : insAll (fun o => tickAt ws ps x (some o)) (Os.take i) [] = G at hks hst
              have hGl : G.length ≤ 8 := by
                have h1 := insAll_len (f := fun o => tickAt ws ps x (some o)) (os := Os.take i) (ks := [])
                rw [hG, List.length_take, List.length_nil] at h1
                omega
              have hkl := keys_len hks
              refine s_dputK (k := kI (tickAt ws ps x (some o))) (v := .bl true) ev_c (ev_var rfl) ((ep_l_moved (ws, ps, x) (ns := rowOf ns o) (ea_cons (ev_var rfl) (ea_cons (ev_var rfl) (ea_cons (ev_var rfl) (ea_cons (ev_var rfl) ea_nil)))) hPm hvo (by rw [rowOf_len, fl])).imp fun v Hn en hv => ?_) (em _ _ hk) (by omega) fun Hn en => ⟨((exl.trans (exs_of em)).trans (exs_of en)).mut rfl, ⟨_, rfl⟩, _, upd_same, ?_⟩
              · obtain ⟨b, rfl, hb⟩ := hv
                refine ⟨b, rfl, kTup ?_⟩
                rw [hb]
                unfold tickAt rowOf
                rw [hns]
              · rw [hst]
                unfold insK
                split
                · rename_i hin
                  unfold KeysOf
                  rw [putK_keys (by rw [keys_some hks]; exact decide_eq_true hin)]
                  exact hks
                · rename_i hin
                  exact (keys_put hks hin _).2
            · rintro σ' Hl ⟨exl, ⟨x12, rfl⟩, kvs, hk, hks⟩
              rw [List.take_of_length_le (Nat.le_refl _)] at hks
              have hGl : (insAll (fun o => tickAt ws ps x (some o)) Os []).length ≤ 8 := by
                have h1 := insAll_len (f := fun o => tickAt ws ps x (some o)) (os := Os) (ks := [])
                rw [List.length_nil] at h1
                omega
              have hGm : ∀ y, y ∈ insAll (fun o => tickAt ws ps x (some o)) Os [] ↔ y ∈ sc x := fun y => by
                rw [mem_insAll, ← hsc, nexts_mem, hns, hLs, hOs]
                simp
              have hGn : ∀ y ∈ insAll (fun o => tickAt ws ps x (some o)) Os [], FillOk ws y := fun y hy => by
                rw [hGm, ← hsc] at hy
                obtain ⟨o, _, rfl⟩ := mem_nexts.mp hy
                exact moved_ok
              generalize hG : insAll (fun o => tickAt ws ps x (some o)) Os [] = G at hks hGl hGm hGn
              have ecl : Ex Hc Hl := ((exs_of (ecj.trans ek)).trans exl).ex (fun a z => by
                rw [z]
                exact fresh_back eci hD13)
              have h5l := ecl _ _ h5c
              have h6l := ecl _ _ h6c
              have hql := ecl _ _ hqc
              refine q_dputN (k := kI x) (en_sortedD (en_listD (ev_var rfl) (.inl hk) hks) fun y hy z => by
                have h1 := (hGn y hy).len
                rw [z] at h1
                have h2 : 1 ≤ ws.length := hW.len.1
                rw [← h1] at h2
                exact absurd h2 (by decide)) (ev_var rfl) (ev_var rfl) h5l (kTup hql) (by omega) fun l Hm Hn nl em ⟨vs, ss, hl1, hl2, hl3⟩ en => ?_
              have emn := em.trans en
              have lS : ¬ S l := fun z => by
                rcases z with z | z
                · rw [z, h5l] at nl
                  cases nl
                · rw [z, h6l] at nl
                  cases nl
              have l5 : l ≠ D5 := fun z => lS (.inl z)
              obtain ⟨pk1, pk2⟩ := keys_put h5k hxf (.ref l)
              generalize hHo : upd Hn D5 (.dT (putK kvf (kI x) (.ref l))) = Ho
              have xo : ExS S Hc Ho := by
                rw [← hHo]
                exact (exs_of (ecl.trans emn)).mut (.inl rfl)
              have to : TEx Hn Ho := by
                rw [← hHo]
                exact tex_dT (emn _ _ h5l)
              have h5o : Ho D5 = some (.dT (putK kvf (kI x) (.ref l))) := by rw [← hHo, upd_same]
              have h6o : Ho D6 = some (.lst wvs0) := by
                rw [← hHo, upd_ne (Ne.symm d56)]
                exact emn _ _ h6l
              have hlo : Ho l = some (.lst vs) := by
                rw [← hHo, upd_ne l5]
                exact en _ _ hl1
              have hqo := to _ _ (emn _ _ hql)
              have hvl := Paired.length hl2
              have hsl := hl3.length_eq
              have hp0l := Paired.length hp0
              refine s_ext h6o (ev_var rfl) (ev_dget (k := kI x) (ev_var rfl) (ev_var rfl) (.inl h5o) (kTup hqo) (by rw [valV_put, if_pos rfl])) hlo (by omega) fun Hp ep => ?_
              have tp : TEx Hp (upd Hp D6 (.lst (wvs0 ++ vs))) := tex_lst (ep _ _ h6o)
              have xz : ExS S Hc (upd Hp D6 (.lst (wvs0 ++ vs))) := (xo.trans (exs_of ep)).mut (.inr rfl)
              have mss : ∀ y, y ∈ ss ↔ y ∈ sc x := fun y => by rw [hl3.mem_iff, hGm]
              have hvz : Paired (TupI (upd Hp D6 (.lst (wvs0 ++ vs)))) vs ss := paired_imp (fun _ _ q => (((TupI.ex en q).tex to).ex ep).tex tp) hl2
              refine ⟨8 * (most + 1 - (fk ++ [x]).length) + (wt0 ++ ss).length, ?_, fk ++ [x], wt0 ++ ss, wvs0 ++ vs, putK kvf (kI x) (.ref l), _, _, _, _, _, _, _, rfl, rfl, ?_, ?_, (ex.trans xc).trans xz, by rw [upd_ne d56]; exact ep _ _ h5o, pk2, ?_, upd_same, paired_append (paired_imp (fun _ _ q => ((((TupI.ex (ecl.trans emn) q).tex to).ex ep).tex tp)) hp0c) hvz, ?_, ?_, ?_⟩
              · rw [List.length_append, List.length_append, List.length_append, List.length_singleton]
                omega
              · rw [List.length_append, List.length_singleton]
                omega
              · rw [List.length_append, List.length_append, List.length_singleton]
                omega
              · rw [List.nodup_append]
                exact ⟨hnd, by simp, fun a ha b hb z => hxf (by rw [List.mem_singleton] at hb; rw [← hb, ← z]; exact ha)⟩
              · rcases hst with h | h
                · exact .inl (List.mem_append_left _ h)
                · rcases List.mem_append.mp h with h | h
                  · exact .inr (List.mem_append_left _ h)
                  · exact .inl (List.mem_append_right _ h)
              · intro y hy
                have hcase : (y ∈ fk ∨ y ∈ wt0 ++ [x]) ∨ y ∈ ss := by
                  rcases hy with h | h
                  · rcases List.mem_append.mp h with h | h
                    · exact .inl (.inl h)
                    · exact .inl (.inr (List.mem_append_right _ h))
                  · rcases List.mem_append.mp h with h | h
                    · exact .inl (.inr (List.mem_append_left _ h))
                    · exact .inr h
                rcases hcase with h | h
                · exact hall y h
                · exact ⟨hGn y (hl3.mem_iff.mp h), fun R hR => hR.2 x (hxa.2 R hR) y ((mss y).mp h)⟩
              · intro y hy
                rcases List.mem_append.mp hy with h | h
                · obtain ⟨a, l', vs', ss', b, c, d, g, k, k8⟩ := hdat y h
                  refine ⟨fun z hz => ?_, l', vs', ss', ?_, c, xz _ _ c (xc _ _ c d), paired_imp (fun _ _ q => (((((TupI.tex tc q).ex (ecl.trans emn)).tex to).ex ep).tex tp)) g, k, k8⟩
                  · rcases a z hz with h | h
                    · exact .inl (List.mem_append_left _ h)
                    · rcases List.mem_append.mp h with h | h
                      · exact .inr (List.mem_append_left _ h)
                      · exact .inl (List.mem_append_right _ h)
                  · rw [valV_put, if_neg (fun z => hxf (by rw [← kI_inj z]; exact h))]
                    exact b
                · rw [List.mem_singleton] at h
                  subst h
                  refine ⟨fun z hz => .inr (List.mem_append_right _ ((mss z).mpr hz)), l, vs, ss, ?_, lS, ?_, hvz, mss, by omega⟩
                  · rw [valV_put, if_pos rfl]
                  · rw [upd_ne (fun z => lS (.inr z))]
                    exact ep _ _ hlo
      · have hxf : x ∈ fk := by
          rw [keys_some h5k] at hn
          simpa using hn
        refine ⟨8 * (most + 1 - fk.length) + wt0.length, by rw [List.length_append, List.length_singleton]; omega, fk, wt0, wvs0, kvf, _, _, _, _, _, _, _, rfl, rfl, hfm, by omega, (ex.trans xc).trans (exs_of ed), ed _ _ h5c, h5k, hnd, ed _ _ h6c, paired_imp (fun _ _ q => TupI.ex ed q) hp0c, ?_, ?_, ?_⟩
        · rcases hst with h | h
          · exact .inl h
          · rcases List.mem_append.mp h with h | h
            · exact .inr h
            · rw [List.mem_singleton] at h
              rw [h]
              exact .inl hxf
        · intro y hy
          exact hall y (hy.imp id fun h => List.mem_append_left _ h)
        · intro y hy
          obtain ⟨a, l', vs', ss', b, c, d, g, k, k8⟩ := hdat y hy
          refine ⟨fun z hz => ?_, l', vs', ss', b, c, ed _ _ (xc _ _ c d), paired_imp (fun _ _ q => (TupI.tex tc q).ex ed) g, k, k8⟩
          rcases a z hz with h | h
          · exact .inl h
          · rcases List.mem_append.mp h with h | h
            · exact .inr h
            · rw [List.mem_singleton] at h
              rw [h]
              exact .inl hxf
    · have hw0 : wt = [] := by
        have := of_decide_eq_false hb
        exact List.length_eq_zero_iff.mp (by omega)
      subst hw0
      have e0a : Ex H Ha := (((exs_of e12 : ExS S _ _).trans ex).trans (exs_of ea)).ex nS
      refine s_ret (v := .ref D5) (ev_var rfl) fun Hb eb => q _ _ (e0a.trans eb) (.inr ⟨D5, fk, rfl, ⟨hnd, hst.resolve_right (fun h => nomatch h), fun x hx y hy => ((hdat x hx).1 y hy).resolve_right (fun h => nomatch h), by omega⟩, hfm, kvf, (ea.trans eb) _ _ h5, h5k, fun x hx => ?_⟩)
      obtain ⟨a, l', vs', ss', b, c, d, g, k, k8⟩ := hdat x hx
      exact ⟨l', vs', ss', b, (ea.trans eb) _ _ d, paired_imp (fun _ _ q => TupI.ex (ea.trans eb) q) g, k, k8⟩
theorem ep_l_comings {E : XK} {σ : L2.St} {H : Hp} {ta : TA} {wv pq fv : V} {most : Nat} {single : Bool} (a : WPF) (h : EvA ta σ H [wv, pq, fv, .int (most : Int), .bl single]) (hp : PreL a wv pq fv H) (hm : most ≤ 60) : EvP (tCall sp_l_comings [] E ta) σ H (LCP (a, most, single)) :=
  ep_call (a, most, single) h fun H1 e => ⟨wv, pq, fv, rfl, hp.ex e, hm⟩
end
end TW
namespace TW
open PySem PySem.Spec PyProof.Rows L2 Evl
section
variable {K : PySem.W.Frag} {σ : L2.St} {H H' : Hp} {te tl td ty tx ta tb : TE} {v z : V} {D : Ends} {tz : TS}
theorem ev_lenNP {n : Nat} (h : EvN te σ H (fun p H' => ∃ ys, H' p = some (.lst ys) ∧ ys.length = n)) : Ev (tCB (rLenS K) (tCons te tNil)) σ H (.int (n : Int)) := fun H1 e Q q =>
  h H1 e _ fun p H2 _ e2 ⟨ys, hp, hl⟩ => ⟨p, ys, rfl, Or.inl (sq_of hp), by
    rw [hl]
    exact q H2 e2⟩
theorem ev_dget2 {a b : Addr} {kvs : List (List Key × V)} {k : List Key} (hd : Ev td σ H (.ref a)) (hy : Ev ty σ H (.ref b)) (hx : Ev tx σ H z) (h : Rd H a (.dT kvs)) (hb : H b = some (.tup (k.map kV))) : Ev (tDGet2 td ty tx) σ H ((valV kvs k).getD z) := fun H1 e Q q =>
  hd H1 e _ fun H2 e2 => ⟨a, rfl, .inr ⟨kvs, ex_rd (e.trans e2) h⟩, hy H2 (e.trans e2) _ fun H3 e3 => hx H3 ((e.trans e2).trans e3) _ fun H4 e4 =>
    have ea := ((e.trans e2).trans e3).trans e4
    ⟨valV kvs k, .inr ⟨kvs, k, b, ex_rd ea h, rfl, ea b _ hb, rfl⟩, q H4 ((e2.trans e3).trans e4)⟩⟩
theorem ep_add1 {P P' : VP} (h : EvP ta σ H P) (hP : ∀ v H1, P v H1 → ∃ m : Int, v = .int m ∧ P' (.int (m + 1)) H1) : EvP (tOp (rI0 fun a b => .int (a + b)) ta (tC (.int 1))) σ H P' := fun H1 e Q q =>
  h H1 e _ fun v H2 e2 pv => by
    obtain ⟨m, ev, hp⟩ := hP v H2 pv
    exact ⟨m, 1, ev, rfl, q _ H2 e2 hp⟩
end
section
variable {P : Program} {w : World} {K : PySem.W.Frag} {mg : Str → Option Value} {base : Heap} {C : Addr} {mgX : Str → Option Value}
local macro_rules | `(tactic| walk_at "rv") => `(tactic| first
  | exact rv_I0
  | exact rv_eq rfl
  | exact rv_ne rfl
  | exact rv_isN
  | exact rv_notN
  | (apply rv_I; (try dsimp only); first | omega | assumption | exact ⟨by omega, by omega⟩ | exact Or.inl ⟨by omega, by omega⟩ | exact Or.inr ⟨by omega, by omega⟩)
  | (apply rv_ix0; assumption; rfl)
  | (apply rv_ix1; assumption; rfl)
  | (apply rv_ix2; assumption; rfl)
  | (apply rv_ix4; assumption; rfl))
local macro_rules | `(tactic| walk_at "ea") => `(tactic| first
  | exact ea_nil
  | (apply ea_cons; walk_at "ev"; walk_at "ea"))
local macro_rules | `(tactic| walk_at "ev") => `(tactic| first
  | exact ev_c
  | (apply ev_var; rfl)
  | (apply ev_op; walk_at "ev"; walk_at "ev"; walk_at "rv")
  | (apply ev_un; walk_at "ev"; exact ru_neg)
  | (apply ev_isiII; walk_at "ea")
  | (apply ev_isiIB; walk_at "ea")
  | (apply ev_isiTT; assumption; walk_at "ea")
  | (apply ev_lenT; assumption; walk_at "ev")
  | (apply ev_lenL; assumption; walk_at "ev")
  | (apply ev_andV; walk_at "ev"; intro _; walk_at "ev")
  | (apply ev_orV; walk_at "ev"; intro _; walk_at "ev")
  | (apply ev_notV; walk_at "ev")
  | (apply ev_chain; walk_at "ev"; walk_at "ev"; walk_at "ev"; walk_at "rv"; walk_at "rv")
  | (apply ev_abs; walk_at "ea")
  | (apply ev_int; walk_at "ea"))
local macro_rules | `(tactic| walk_at "et") => `(tactic| first
  | (apply et_test; walk_at "ev")
  | (apply et_B; walk_at "ev")
  | (apply et_not; walk_at "et")
  | (apply et_and; walk_at "et"; intro _; walk_at "et")
  | (apply et_or; walk_at "et"; intro _; walk_at "et"))

local macro_rules | `(tactic| walk_at "ev") => `(tactic| ((with_reducible apply ev_is_integer); walk_at "ea"))
local macro_rules | `(tactic| walk_at "ev") => `(tactic| ((with_reducible apply ev_is_between); walk_at "ea"))
local macro_rules | `(tactic| walk_at "ev") => `(tactic| ((with_reducible apply ev_divisor); walk_at "ea"))
local macro_rules | `(tactic| walk_at "ev") => `(tactic| ((with_reducible apply ev_is_width); walk_at "ea"))
structure KeysOk (sc : Fil → List Fil) (keys : List Fil) : Prop where
  nd : keys.Nodup
  clo : ∀ x ∈ keys, ∀ y ∈ sc x, y ∈ keys
  len : keys.length ≤ 60
abbrev sp_l_longest : Sp := fsp (fun (a : (List Fil × (Fil → List Fil)) × Fil) vs H => ∃ p fv, vs = [.ref p, fv] ∧ ComLAt H p a.1.1 a.1.2 ∧ KeysOk a.1.2 a.1.1 ∧ TupI H fv a.2 ∧ a.2 ∈ a.1.1) (fun a => IsV (toldV a.1.2 a.2))
theorem has_l_longest (T : Tops K mg C) : Has P w K mg base 1 "_law_longest" ["_law_comings_here", "_law_filling_here"] sp_l_longest := by
  refine T.d_l_longest.has sc_l_longest (fun vs H Q E h => ?_) (fun f cdv A outer s H vs Q E hr h => ?_)
  · obtain ⟨_, ⟨_, _, rfl, _⟩, _⟩ := h; rfl
  · obtain ⟨⟨⟨keys, sc⟩, fill⟩, ⟨p, fv, rfl, hCom, hG, ⟨fp, rfl, hf⟩, hfk⟩, q⟩ := h
    refine ⟨_, (pss_cons (ps_set (i := 2) sc_l_longest.nd rfl (.inr rfl) pe_dnewT)
      (pss_cons (ps_set (i := 3) sc_l_longest.nd rfl (.inl rfl) (pe_callTy (call_list_dT rfl) (by rfl) T.b_list (by decide +kernel) (pa_cons (pv 0) pa_nil)))
      (pss_cons (ps_set (i := 4) sc_l_longest.nd rfl (.inl rfl) (pe_un un_neg pe_int))
      (pss_cons (ps_while PassesOwn.never (pt_cmpR op_ne (pe_callB (r := rLenS K) call_len_seq (by rfl) T.b_len (by decide +kernel) (pa_cons (pv 3) pa_nil)) (pv 4) (nomark _))
        (pss_cons (ps_set (i := 4) sc_l_longest.nd rfl (.inl rfl) (pe_callB (r := rLenS K) call_len_seq (by rfl) T.b_len (by decide +kernel) (pa_cons (pv 3) pa_nil)))
        (pss_cons (ps_set (i := 5) sc_l_longest.nd rfl (.inl rfl) (pe_lst pa_nil))
        (pss_cons (ps_for PassesOwn.never rfl (pi_list (pv 3)) (pg_name (i := 6) sc_l_longest.nd rfl (Or.inl rfl))
          (pss_one (ps_if (pt_cmpR op_eq (pe_callB (r := rLenS K) call_len_seq (by rfl) T.b_len (by decide +kernel) (pa_cons (pe_lc (own := [("_law_there", 7)]) rfl sc_l_longest.nd (pi_list (pe_dget (hu_of hr) (pv 0) (pv 6) (fun _ _ => rfl))) (blkOk_by (own := [("_law_there", 7)]) (N := N_l_longest) (sc := defScope s_l_longest) (by decide +kernel)) (fun _ _ _ _ _ => (pg_name (i := 7) sc_l_longest.nd rfl (Or.inl rfl))) (fun _ _ _ _ _ => (pts_one (pt_cmp (pc_dnotin (hu_of hr) (pv 7) (pv 2)) rfl))) (fun _ _ _ _ _ => (pv 7))) pa_nil)) pe_int (nomark _))
            (pss_one (ps_dput (hu_of hr) (pv 2) (pv 6) (pe_op op_add (pe_callB (cr_max rfl) (by rfl) T.b_max (by decide +kernel) (pa_cons (pe_op op_cat (pe_lst (pa_cons (pe_un un_neg pe_int) pa_nil)) (pe_lc (own := [("_law_there", 7)]) rfl sc_l_longest.nd (pi_list (pe_dget (hu_of hr) (pv 0) (pv 6) (fun _ _ => rfl))) (blkOk_by (own := [("_law_there", 7)]) (N := N_l_longest) (sc := defScope s_l_longest) (by decide +kernel)) (fun _ _ _ _ _ => (pg_name (i := 7) sc_l_longest.nd rfl (Or.inl rfl))) (fun _ _ _ _ _ => pts_nil) (fun _ _ _ _ _ => (pe_dget (hu_of hr) (pv 2) (pv 7) (fun _ _ => rfl))))) pa_nil)) pe_int) rfl))
            (pss_one (ps_expr (pe_bm PySem.F.plainAttrs_list PySem.F.slot_list_append PySem.F.type_list_append mt_append (pv 5) (pa_cons (pv 6) pa_nil)))))))
        (pss_one (ps_set (i := 3) sc_l_longest.nd rfl (.inl rfl) (pv 5)))))))
      (pss_one (ps_ret (pe_dget2 (hu_of hr) (pv 2) (pv 1) pe_non mk_m2))))))), ?_⟩
    simp only at hCom hG hf hfk
    obtain ⟨kvs, hp, hk, hin⟩ := id hCom
    have hk60 := hG.len
    refine p_asgN en_dnew fun D2 H1 hD2 e1 h1 => ?_
    refine p_asgN (en_listD (ev_var rfl) (.inl (e1 _ _ hp)) hk) fun Dl H2 hDl e2 ⟨bs, h2, h2p⟩ => ?_
    refine q_asg (v := .int (-1)) (ev_un ev_c ru_neg) fun H3 e3 => ?_
    have e13 := (e1.trans e2).trans e3
    have nT : ∀ a xs, a = D2 → H3 a ≠ some (.tup xs) := fun a xs z h => by
      rw [z, (e2.trans e3) _ _ h1] at h
      cases h
    refine q_while (fun m σ' H' => ∃ (lf Fk : List Fil) (lvs : List V) (d : Addr) (b : Int) (x5 x6 x7 : Option V), σ' = [some (.ref p), some (.ref fp), some (.ref D2), some (.ref d), some (.int b), x5, x6, x7] ∧ m = 2 * lf.length + (if b = (lf.length : Int) then 0 else 1) ∧ ExS (· = D2) H3 H' ∧
      H' d = some (.lst lvs) ∧ d ≠ D2 ∧ Paired (TupI H') lvs lf ∧ lf.Nodup ∧ (∀ x ∈ lf, x ∈ keys) ∧ (∀ x ∈ lf, x ∉ Fk) ∧ HgtAt H' D2 Fk sc ∧ Fk.length + lf.length ≤ keys.length ∧ (∀ x ∈ keys, x ∈ Fk ∨ x ∈ lf) ∧ (b = (lf.length : Int) → ∀ x ∈ lf, ∃ y ∈ sc x, y ∉ Fk)) _
      ⟨keys, [], bs.map V.ref, Dl, -1, none, none, none, rfl, rfl, ExS.refl _, e3 _ _ h2, (fun z => by rw [z, h1] at hDl; cases hDl), paired_imp (fun _ _ q => TupI.ex e3 q) h2p, hG.nd, (fun x h => h), (fun x _ h => nomatch h), ⟨[], (e2.trans e3) _ _ h1, rfl, fun x h => nomatch h⟩, by simp, (fun x h => .inr h), fun h => by omega⟩ ?_
    rintro m σ' H' ⟨lf, Fk, lvs, d, b, x5, x6, x7, rfl, rfl, ex, hd, hdD, hlp, hnd, hlk, hlF, hH, hcount, hcov, hstab⟩
    have hll := Paired.length hlp
    refine ⟨!decide (V.int (lvs.length : Int) = V.int b), et_test (ev_op (ev_lenL hd (ev_var rfl)) (ev_var rfl) (rv_ne rfl)), fun hb Ha ea => ?_, fun hb Ha ea => ?_⟩
    · have hbn : ¬ b = (lf.length : Int) := fun z => by
        rw [hll, z] at hb
        simp at hb
      rw [if_neg hbn]
      refine ⟨_, fun σ2 H2 h => h, ?_⟩
      refine q_asg (v := .int (lvs.length : Int)) (ev_lenL (ea _ _ hd) (ev_var rfl)) fun Hb eb => ?_
      refine q_asgL (xs := []) (el_lst ea_nil (by show 0 ≤ 100000; decide)) fun D5 Hc hD5 ec h5 => ?_
      have eac := (ea.trans eb).trans ec
      have hdc := eac _ _ hd
      have exc := ex.trans (exs_of eac)
      have hHc := hH.at fun o h => eac _ _ h
      have hlpc := paired_imp (fun _ _ q => TupI.ex eac q) hlp
      have hD25 : D5 ≠ D2 := fun z => by
        obtain ⟨_, h, _⟩ := hH
        rw [z, (ea.trans eb) _ _ h] at hD5
        cases hD5
      have hd5 : d ≠ D5 := fun z => by
        rw [z] at hd
        rw [(ea.trans eb) _ _ hd] at hD5
        cases hD5
      refine q_forJ (S := fun a => a = D2 ∨ a = D5) (ej_list (ev_var rfl) hdc (fun z => by
        rcases z with z | z
        · exact hdD z
        · exact hd5 z)) fun Hd ed => ?_
      have nTd : ∀ a xs, (a = D2 ∨ a = D5) → Hd a ≠ some (.tup xs) := fun a xs z h => by
        rcases z with z | z
        · obtain ⟨_, h', _⟩ := hHc
          rw [z, ed _ _ h'] at h
          cases h
        · rw [z, ed _ _ h5] at h
          cases h
      refine ⟨fun j σ' H' => ExS (fun a => a = D2 ∨ a = D5) Hd H' ∧ (∃ x6 x7, σ' = [some (.ref p), some (.ref fp), some (.ref D2), some (.ref d), some (.int (lvs.length : Int)), some (.ref D5), x6, x7]) ∧ ∃ (Fj lt : List Fil) (ltv : List V), HgtAt H' D2 Fj sc ∧ H' D5 = some (.lst ltv) ∧ Paired (TupI H') ltv lt ∧ lt.Sublist (lf.take j) ∧ Fj.length + lt.length + (lf.length - j) ≤ keys.length ∧
        (∀ x ∈ Fk, x ∈ Fj) ∧ (∀ x ∈ lf.take j, x ∈ Fj ∨ x ∈ lt) ∧ (∀ x ∈ Fj, x ∈ Fk ∨ x ∈ lf.take j) ∧ (∀ x ∈ lt, x ∉ Fj) ∧ (lt.length = j → Fj = Fk ∧ ∀ x ∈ lt, ∃ y ∈ sc x, y ∉ Fk),
        ⟨ExS.refl _, ⟨_, _, rfl⟩, Fk, [], [], hHc.at fun o h => ed _ _ h, ed _ _ h5, .nil, by simp, by simp; omega, (fun x h => h), (fun x h => by simp at h), (fun x h => .inl h), (fun x h => nomatch h), fun _ => ⟨rfl, fun x h => nomatch h⟩⟩, fun j σ' H' h => h.1, ?_, ?_⟩
      · rintro j z σ' He Hf hj ⟨exe, ⟨x6, x7, rfl⟩, Fj, lt, ltv, hHe, h5e, hltp, hsub, hcnt, hFs, hcv, hFi, hdis, hst⟩ ef hz
        obtain ⟨x, hx, qa, rfl, hqa⟩ := paired_get' hlpc hz
        have hxk := hlk x (List.mem_of_getElem? hx)
        have hjl : j < lf.length := (List.getElem?_eq_some_iff.mp hx).1
        have xnot := nodup_take hnd hx
        have htk := take_snoc hx
        have hsl := hsub.length_le
        rw [List.length_take] at hsl
        refine eg_name _ ?_
        have hqf : Hf qa = some (.tup (vI x)) := ef _ _ ((exe.tex nTd) _ _ (ed _ _ hqa))
        have hHf := hHe.at fun o h => ef _ _ h
        obtain ⟨kvh, hh1, hh2, hh3⟩ := id hHf
        have hkh := keys_len hh2
        have h5f := ef _ _ h5e
        have hltf := paired_imp (fun _ _ q => TupI.ex ef q) hltp
        obtain ⟨l, vs, ss, hv1, hv2, hv3, hv4, hv5⟩ := hin x hxk
        -- the whole of what stood at the start
        have eHf : Ex H Hf := by
          have h0 : ExS (fun a => a = D2 ∨ H1 a = none) H Hf := ((exs_of e13).trans ((exc.trans (exs_of ed)).wk fun a z => .inl z)).trans ((exe.trans (exs_of ef)).wk fun a z => by
            rcases z with z | z
            · exact .inl z
            · refine .inr ?_
              rw [z]
              cases hh : H1 D5 with
              | none => rfl
              | some o =>
                have h3 := (e2.trans e3) _ _ hh
                have h4 := (ea.trans eb) _ _ (ex _ _ hD25 h3)
                rw [hD5] at h4
                cases h4)
          refine h0.ex fun a z => ?_
          rcases z with z | z
          · rw [z]
            exact hD2
          · exact fresh_back e1 z
        have hvl := eHf _ _ hv2
        have hvp := paired_imp (fun _ _ q => TupI.ex eHf q) hv3
        have hvsl := Paired.length hv3
        have hpf := eHf _ _ hp
        have hfil : ((List.range vs.length).filter fun i => !decide (ss.getD i [] ∈ Fj)).length = 0 ↔ ∀ y ∈ sc x, y ∈ Fj := by
          rw [List.length_eq_zero_iff, List.filter_eq_nil_iff]
          constructor
          · intro h y hy
            obtain ⟨i, hi, hyi⟩ := List.mem_iff_getElem.mp ((hv4 y).mpr hy)
            have h1 := h i (List.mem_range.mpr (by omega))
            rw [List.getD_eq_getElem?_getD, List.getElem?_eq_getElem hi, hyi] at h1
            simpa using h1
          · intro h i hi
            have hi' := List.mem_range.mp hi
            have : ss.getD i [] ∈ Fj := h _ ((hv4 _).mp (by
              rw [List.getD_eq_getElem?_getD, List.getElem?_eq_getElem (by omega)]
              exact List.getElem_mem _))
            rw [decide_eq_true this]
            exact Bool.false_ne_true
        have hno : ∀ y : Fil, valV kvh (kI y) = none ↔ y ∉ Fj := fun y => by
          have h := keys_some hh2 y
          constructor
          · intro hn
            rw [hn] at h
            exact of_decide_eq_false h.symm
          · intro hn
            rw [decide_eq_false hn] at h
            cases hv : valV kvh (kI y) with
            | none => rfl
            | some v => rw [hv] at h; cases h
        have gl : Ev (tDGet (tVar 0) (tVar 6)) [some (.ref p), some (.ref fp), some (.ref D2), some (.ref d), some (.int (lvs.length : Int)), some (.ref D5), some (.ref qa), none] Hf (.ref l) := ev_dget (k := kI x) (kvs := kvs) (ev_var rfl) (ev_var rfl) (.inl hpf) (kTup hqf) hv1
        refine s_if (b := decide (∀ y ∈ sc x, y ∈ Fj)) ?_ (fun hb Hg eg => ?_) (fun hb Hg eg => ?_)
        · refine et_is (et_test (ev_op (ev_lenNP (n := ((List.range vs.length).filter fun i => !decide (ss.getD i [] ∈ Fj)).length) (EvN.imp (en_lc (fun i => !decide (ss.getD i [] ∈ Fj)) (fun i v H' => True) (ei_list (a := l) (xs := vs) (fun Hz ez Q q => ev_dget (k := kI x) (kvs := kvs) (a := p) (b := qa) (ev_var rfl) (ev_var rfl) (.inl hpf) (kTup hqf) hv1 Hz ez Q q) (sq_of hvl)) (by omega) (fun _ _ _ _ _ h => h) (fun i v Hz ez hi hv => ?_)) fun p1 H' e' ⟨ys, hy1, hy2⟩ => ⟨ys, hy1, (Paired.length hy2).symm⟩)) ev_c (rv_eq rfl))) ?_
          · obtain ⟨y, hy, qy, rfl, hqy⟩ := paired_get' hvp hv
            have ey : ss.getD i [] = y := by rw [List.getD_eq_getElem?_getD, hy]; rfl
            rw [ey]
            refine ⟨_, eg_name, rfl, et_is (et_B (ev_dnotin (k := kI y) (a := D2) (b := qy) (ev_var rfl) (ev_var rfl) (.inl (ez _ _ hh1)) (kTup (ez _ _ hqy)))) ?_, fun _ => (ep_of (ev_var rfl)).imp fun _ _ _ _ => trivial⟩
            rw [keys_some hh2]
          · rw [Bool.eq_iff_iff]
            simp only [decide_eq_true_eq, V.int.injEq]
            rw [← hfil]
            omega
        · have hall := of_decide_eq_true hb
          have hxF : x ∉ Fj := fun z => by
            rcases hFi x z with h | h
            · exact hlF x (List.mem_of_getElem? hx) h
            · exact xnot h
          refine s_dput (k := kI x) (P := fun v _ => v = .int (hgt sc x : Int) ∧ HT sc x (hgt sc x)) (ep_add1 (ep_max (ns := (-1) :: ss.map fun y => (hgt sc y : Int)) ?_ (by simp)) fun v H1 ⟨m, h1, h2, h3⟩ => ⟨m, h3, ?_⟩) (ev_var rfl) (ev_var rfl) (eg _ _ hh1) (kTup (eg _ _ hqf)) (by omega) fun v Hh Hi eh ⟨hvv, hvh⟩ ei => ?_
          · refine el_catLL (xs := [.int (-1)]) (ys := vI (ss.map fun y => (hgt sc y : Int))) (el_lst (ea_cons (ev_un ev_c ru_neg) ea_nil) (by show 1 ≤ 100000; decide)) ?_ (by
              rw [List.length_singleton, List.length_map, List.length_map]
              omega)
            have hm : vI (ss.map fun y => (hgt sc y : Int)) = (List.range vs.length).map fun i => V.int (hgt sc (ss.getD i []) : Int) := by
              rw [hvsl, map_getD [] (fun y => V.int (hgt sc y : Int)) ss, vI, List.map_map]
              rfl
            rw [hm]
            refine el_lcA _ (ei_list (a := l) (xs := vs) (fun Hz ez Q q => ev_dget (k := kI x) (kvs := kvs) (a := p) (b := qa) (ev_var rfl) (ev_var rfl) (.inl (eg _ _ hpf)) (kTup (eg _ _ hqf)) hv1 Hz ez Q q) (sq_of (eg _ _ hvl))) (by omega) fun i v Hz ez hi hv => ?_
            obtain ⟨y, hy, qy, rfl, hqy⟩ := paired_get' hvp hv
            have ey : ss.getD i [] = y := by rw [List.getD_eq_getElem?_getD, hy]; rfl
            rw [ey]
            refine ⟨_, eg_name, rfl, ?_⟩
            exact ev_dget (k := kI y) (kvs := kvh) (a := D2) (b := qy) (ev_var rfl) (ev_var rfl) (.inl ((eg.trans ez) _ _ hh1)) (kTup ((eg.trans ez) _ _ hqy)) (hh3 y (hall y ((hv4 y).mp (List.mem_of_getElem? hy)))).2
          · have hm0 : -1 ≤ m := h2 (-1) List.mem_cons_self
            have hHT : HT sc x (m + 1).toNat := by
              refine ht_max (hgt sc) (fun y hy => ⟨(hh3 y (hall y hy)).1, ?_⟩) ?_
              · have := h2 (hgt sc y : Int) (List.mem_cons_of_mem _ (List.mem_map.mpr ⟨y, (hv4 y).mpr hy, rfl⟩))
                omega
              · rcases List.mem_cons.mp h1 with h | h
                · exact .inl (by omega)
                · obtain ⟨y, hy, e⟩ := List.mem_map.mp h
                  exact .inr ⟨y, (hv4 y).mp hy, by omega⟩
            have hmm := hgt_of hHT
            rw [← hmm]
            exact ⟨by rw [Int.toNat_of_nonneg (by omega)], hHT⟩
          subst hvv
          have egi := (eg.trans eh).trans ei
          have tn : TEx Hi (upd Hi D2 (.dT (putK kvh (kI x) (.int (hgt sc x : Int))))) := tex_dT (egi _ _ hh1)
          obtain ⟨pk1, pk2⟩ := keys_put hh2 hxF (.int (hgt sc x : Int))
          have hxlt : x ∉ lt := fun z => xnot (hsub.subset z)
          refine ⟨(((exe.trans (exs_of ef)).trans (exs_of egi)).mut (.inl rfl)), ⟨_, _, rfl⟩, Fj ++ [x], lt, ltv, ⟨_, upd_same, pk2, fun y hy => ?_⟩, by rw [upd_ne hD25]; exact egi _ _ h5f, paired_imp (fun _ _ q => (TupI.ex egi q).tex tn) hltf, ?_, ?_, ?_, ?_, ?_, ?_, ?_⟩
          · rcases List.mem_append.mp hy with h | h
            · refine ⟨(hh3 y h).1, ?_⟩
              rw [valV_put, if_neg (fun z => hxF (by rw [← kI_inj z]; exact h))]
              exact (hh3 y h).2
            · rw [List.mem_singleton] at h
              subst h
              exact ⟨hvh, by rw [valV_put, if_pos rfl]⟩
          · rw [htk]
            exact hsub.trans (List.sublist_append_left _ _)
          · rw [List.length_append, List.length_singleton]
            omega
          · exact fun y hy => List.mem_append_left _ (hFs y hy)
          · intro y hy
            rw [htk] at hy
            rcases List.mem_append.mp hy with h | h
            · exact (hcv y h).imp (List.mem_append_left _) id
            · exact .inl (List.mem_append_right _ h)
          · intro y hy
            rw [htk]
            rcases List.mem_append.mp hy with h | h
            · exact (hFi y h).imp id (List.mem_append_left _)
            · exact .inr (List.mem_append_right _ h)
          · intro y hy z
            rcases List.mem_append.mp z with h | h
            · exact hdis y hy h
            · rw [List.mem_singleton] at h
              subst h
              exact hxlt hy
          · intro h
            omega
        · have hall := of_decide_eq_false hb
          have hex : ∃ y ∈ sc x, y ∉ Fj := Classical.byContradiction fun hc => hall fun y hy => Classical.byContradiction fun h2 => hc ⟨y, hy, h2⟩
          have hxF : x ∉ Fj := fun z => by
            rcases hFi x z with h | h
            · exact hlF x (List.mem_of_getElem? hx) h
            · exact xnot h
          have hlen5 := Paired.length hltp
          refine s_app (eg _ _ h5f) (ev_var rfl) (ev_var rfl) (by omega) fun Hh eh => ?_
          have egh := eg.trans eh
          have tn : TEx Hh (upd Hh D5 (.lst (ltv ++ [.ref qa]))) := tex_lst (egh _ _ h5f)
          refine ⟨(((exe.trans (exs_of ef)).trans (exs_of egh)).mut (.inr rfl)), ⟨_, _, rfl⟩, Fj, lt ++ [x], ltv ++ [.ref qa], (hHf.at fun o h => egh _ _ h).at (fun o h => by rw [upd_ne (Ne.symm hD25)]; exact h), upd_same, paired_snoc (paired_imp (fun _ _ q => (TupI.ex egh q).tex tn) hltf) ⟨qa, rfl, tn _ _ (egh _ _ hqf)⟩, ?_, ?_, hFs, ?_, ?_, ?_, ?_⟩
          · rw [htk]
            exact hsub.append (List.Sublist.refl _)
          · rw [List.length_append, List.length_singleton]
            omega
          · intro y hy
            rw [htk] at hy
            rcases List.mem_append.mp hy with h | h
            · exact (hcv y h).imp id (List.mem_append_left _)
            · exact .inr (List.mem_append_right _ h)
          · intro y hy
            rw [htk]
            exact (hFi y hy).imp id (List.mem_append_left _)
          · intro y hy z
            rcases List.mem_append.mp hy with h | h
            · exact hdis y h z
            · rw [List.mem_singleton] at h
              subst h
              exact hxF z
          · intro h
            rw [List.length_append, List.length_singleton] at h
            obtain ⟨h1, h2⟩ := hst (by omega)
            refine ⟨h1, fun y hy => ?_⟩
            rcases List.mem_append.mp hy with h | h
            · exact h2 y h
            · rw [List.mem_singleton] at h
              subst h
              rw [← h1]
              exact hex
      · rintro σ' He ⟨exe, ⟨x6, x7, rfl⟩, Fj, lt, ltv, hHe, h5e, hltp, hsub, hcnt, hFs, hcv, hFi, hdis, hst⟩
        rw [hll, List.take_of_length_le (Nat.le_refl _)] at hsub hcv hFi
        have hsl := hsub.length_le
        refine s_asg (v := .ref D5) (ev_var rfl) fun Hf ef => ⟨2 * lt.length + (if (lvs.length : Int) = (lt.length : Int) then 0 else 1), ?_, lt, Fj, ltv, D5, (lvs.length : Int), _, _, _, rfl, rfl, ?_, ef _ _ h5e, hD25, paired_imp (fun _ _ q => TupI.ex ef q) hltp, hnd.sublist hsub, (fun x hx => hlk x (hsub.subset hx)), hdis, hHe.at (fun o h => ef _ _ h), ?_, ?_, ?_⟩
        · split
          · omega
          · omega
        · have hx5 : ExS (fun a => a = D2 ∨ H3 a = none) H3 Hf := ((exc.trans (exs_of ed)).wk fun a z => .inl z).trans ((exe.trans (exs_of ef)).wk fun a z => by
            rcases z with z | z
            · exact .inl z
            · refine .inr ?_
              rw [z]
              cases hh : H3 D5 with
              | none => rfl
              | some o =>
                have h4 := (ea.trans eb) _ _ (ex _ _ hD25 hh)
                rw [hD5] at h4
                cases h4)
          exact fun a o n h => hx5 a o (fun z => by
            rcases z with z | z
            · exact n z
            · rw [z] at h
              cases h) h
        · omega
        · intro x hx
          rcases hcov x hx with h | h
          · exact .inl (hFs x h)
          · exact hcv x h
        · intro h
          obtain ⟨h1, h2⟩ := hst (by omega)
          rw [h1]
          exact h2
    · have hbn : b = (lf.length : Int) := by
        rw [hll] at hb
        have : V.int (lf.length : Int) = V.int b := by simpa using hb
        exact (V.int.inj this).symm
      have hstab := hstab hbn
      obtain ⟨kvh, hh1, hh2, hh3⟩ := hH
      have e0a : Ex H Ha := ((exs_of e13 : ExS (· = D2) H H3).trans (ex.trans (exs_of ea))).ex fun a z => by
        rw [z]
        exact hD2
      apply s_retI
      · exact ev_dget2 (k := kI fill) (kvs := kvh) (ev_var rfl) (ev_var rfl) (ev_c (v := .non)) (.inl (ea _ _ hh1)) (kTup (e0a _ _ hf))
      · exact q
      · exact e0a
      · by_cases hx : fill ∈ Fk
        · obtain ⟨a, b⟩ := hh3 fill hx
          rw [b, told_some a]
          rfl
        · have hn : ∀ n, ¬ HT sc fill n := fun n hn => hx (ht_in (sc := sc) (Pd := fun x => x ∈ Fk) (Cl := fun x => x ∈ keys) (fun x y hx hy => hG.clo x hx y hy) (fun x hx h => by
            rcases hcov x hx with h' | h'
            · exact h'
            · obtain ⟨y, hy, hyn⟩ := hstab x h'
              exact absurd (h y hy) hyn) hfk hn)
          have hv : valV kvh (kI fill) = none := by
            have h := keys_some hh2 fill
            rw [decide_eq_false hx] at h
            cases hv : valV kvh (kI fill) with
            | none => rfl
            | some v => rw [hv] at h; cases h
          rw [hv, told_none hn]
          rfl
theorem ev_l_longest {E : XK} {σ : L2.St} {H : Hp} {ta : TA} {p : Addr} {fv : V} {keys : List Fil} {sc : Fil → List Fil} {x : Fil} (h : EvA ta σ H [.ref p, fv]) (hc : ComLAt H p keys sc) (hG : KeysOk sc keys) (hf : TupI H fv x) (hx : x ∈ keys) : Ev (tCall sp_l_longest [] E ta) σ H (toldV sc x) :=
  ev_callV ((keys, sc), x) h (fun _ e => ⟨p, fv, rfl, hc.ex e, hG, hf.ex e, hx⟩) fun _ _ p => p
end
end TW
namespace TW
open PySem PySem.Spec PyProof.Rows L2 Evl
/-! ### the hand that is drawn from -/
def HandOk (H : Hp) (h : Addr × Addr) : Prop := ∃ (cs : List Int) (i : Nat) (m r n : Int), H h.1 = some (.lst [.ref h.2, .int (i : Int), .int m, .int r, .int n]) ∧ H h.2 = some (.lst (vI cs)) ∧ h.2 ≠ h.1
abbrev HX (h : Addr × Addr) (H H' : Hp) : Prop := ExS (· = h.1) H H'
theorem HandOk.ex {H H' : Hp} {h : Addr × Addr} (k : HandOk H h) (e : Ex H H') : HandOk H' h := by
  obtain ⟨cs, i, m, r, n, a, b, d⟩ := k
  exact ⟨cs, i, m, r, n, e _ _ a, e _ _ b, d⟩
theorem HandOk.tup {H : Hp} {h : Addr × Addr} (k : HandOk H h) : ∀ a xs, a = h.1 → H a ≠ some (.tup xs) := fun a xs z e => by
  obtain ⟨cs, i, m, r, n, a, b, d⟩ := k
  rw [z, a] at e
  cases e
theorem HX.tex {H H' : Hp} {h : Addr × Addr} (e : HX h H H') (k : HandOk H h) : TEx H H' := ExS.tex e k.tup
/-- another object may change -/
theorem HandOk.upd {H : Hp} {h : Addr × Addr} {p : Addr} {o : HO} (k : HandOk H h) (hp : p ≠ h.1) (hc : p ≠ h.2) : HandOk (upd H p o) h := by
  obtain ⟨cs, i, m, r, n, a, b, d⟩ := k
  refine ⟨cs, i, m, r, n, ?_, ?_, d⟩
  · rw [upd_ne (Ne.symm hp)]
    exact a
  · rw [upd_ne (Ne.symm hc)]
    exact b
/-- what is new is not the hand -/
theorem HandOk.ne {H : Hp} {h : Addr × Addr} {p : Addr} (k : HandOk H h) (hp : H p = none) : p ≠ h.1 ∧ p ≠ h.2 := by
  obtain ⟨cs, i, m, r, n, a, b, d⟩ := k
  exact ⟨(fun z => by rw [z, a] at hp; cases hp), (fun z => by rw [z, b] at hp; cases hp)⟩
theorem q_whenM {t : TT} {tu tz : TS} {D : Ends} {σ : L2.St} {H : Hp} {b : Bool} {M : L2.St → Hp → Prop} (h : EvT t σ H b) (k : ∀ σ' H', M σ' H' → tz D σ' H') (h1 : b = true → ∀ H1, Ex H H1 → ∀ N : L2.St → Hp → Prop, (∀ σ' H', M σ' H' → N σ' H') → tu { D with nx := N } σ H1) (h2 : b = false → ∀ H1, Ex H H1 → M σ H1) : tSeq (tIfS t tu tNext) tz D σ H :=
  q_when h (fun hb H1 e1 => h1 hb H1 e1 _ k) (fun hb H1 e1 => k _ _ (h2 hb H1 e1))
def hsp {α : Type} (pre : α → Addr × Addr → List V → Hp → Prop) (post : α → V → Hp → Prop) : Sp := fun vs H Q _ => ∃ a h, pre a h vs H ∧ HandOk H h ∧ ∀ v H', HX h H H' → HandOk H' h → post a v H' → Q v H'
section
variable {P : Program} {w : World} {K : PySem.W.Frag} {mg : Str → Option Value} {base : Heap} {C : Addr} {mgX : Str → Option Value}
local macro_rules | `(tactic| walk_at "rv") => `(tactic| first
  | exact rv_I0
  | exact rv_eq rfl
  | exact rv_ne rfl
  | exact rv_isN
  | exact rv_notN
  | (apply rv_I; (try dsimp only); first | omega | assumption | exact ⟨by omega, by omega⟩ | exact Or.inl ⟨by omega, by omega⟩ | exact Or.inr ⟨by omega, by omega⟩)
  | (apply rv_ix0; assumption; rfl)
  | (apply rv_ix1; assumption; rfl)
  | (apply rv_ix2; assumption; rfl)
  | (apply rv_ix4; assumption; rfl))
local macro_rules | `(tactic| walk_at "ea") => `(tactic| first
  | exact ea_nil
  | (apply ea_cons; walk_at "ev"; walk_at "ea"))
local macro_rules | `(tactic| walk_at "ev") => `(tactic| first
  | exact ev_c
  | (apply ev_var; rfl)
  | (apply ev_op; walk_at "ev"; walk_at "ev"; walk_at "rv")
  | (apply ev_un; walk_at "ev"; exact ru_neg)
  | (apply ev_isiII; walk_at "ea")
  | (apply ev_isiIB; walk_at "ea")
  | (apply ev_isiTT; assumption; walk_at "ea")
  | (apply ev_lenT; assumption; walk_at "ev")
  | (apply ev_lenL; assumption; walk_at "ev")
  | (apply ev_andV; walk_at "ev"; intro _; walk_at "ev")
  | (apply ev_orV; walk_at "ev"; intro _; walk_at "ev")
  | (apply ev_notV; walk_at "ev")
  | (apply ev_chain; walk_at "ev"; walk_at "ev"; walk_at "ev"; walk_at "rv"; walk_at "rv")
  | (apply ev_abs; walk_at "ea")
  | (apply ev_int; walk_at "ea"))
local macro_rules | `(tactic| walk_at "et") => `(tactic| first
  | (apply et_test; walk_at "ev")
  | (apply et_B; walk_at "ev")
  | (apply et_not; walk_at "et")
  | (apply et_and; walk_at "et"; intro _; walk_at "et")
  | (apply et_or; walk_at "et"; intro _; walk_at "et"))

local macro_rules | `(tactic| walk_at "ev") => `(tactic| ((with_reducible apply ev_is_integer); walk_at "ea"))
local macro_rules | `(tactic| walk_at "ev") => `(tactic| ((with_reducible apply ev_is_between); walk_at "ea"))
local macro_rules | `(tactic| walk_at "ev") => `(tactic| ((with_reducible apply ev_divisor); walk_at "ea"))
local macro_rules | `(tactic| walk_at "ev") => `(tactic| ((with_reducible apply ev_is_width); walk_at "ea"))
abbrev sp_l_hand : Sp := fspN (fun (ns : List Int) vs H => ∃ p, vs = [.ref p] ∧ SqL K H p (vI ns) ∧ ns.length ≤ 63) (fun _ p H => ∃ c, HandOk H (p, c))
theorem has_l_hand (T : Tops K mg C) : Has P w K mg base 1 "_law_hand" ["_law_script"] (sp_l_hand (K := K)) := by
  refine T.d_l_hand.has sc_l_hand (fun vs H Q E h => ?_) (fun f cdv A outer s H vs Q E hr h => ?_)
  · obtain ⟨_, ⟨_, rfl, _⟩, _⟩ := h; rfl
  · obtain ⟨ns, ⟨p, rfl, hp, hl⟩, q⟩ := h
    refine ⟨_, (pss_cons (ps_setLc (i := 1) (own := [("_law_cell", 2)]) rfl sc_l_hand.nd rfl rfl (sw_true rfl rfl rfl (by decide +kernel)) (pi_list (pe_slice (r := rSlL K) sl_list (pv 0) po_none (po_some pe_int))) (blkOk_by (own := [("_law_cell", 2)]) (N := N_l_hand) (sc := defScope s_l_hand) (by decide +kernel)) (fun _ _ _ _ _ => (pg_name (i := 2) sc_l_hand.nd rfl (Or.inl rfl))) (fun _ _ _ _ _ => pts_nil) (fun _ _ _ _ _ => (pe_callB call_abs (by rfl) T.b_abs (by decide +kernel) (pa_cons (pe_callTy call_int1 (by rfl) T.b_int (by decide +kernel) (pa_cons (pv 2) pa_nil)) pa_nil))))
      (pss_one (ps_ret (pe_lst (pa_cons (pv 1) (pa_cons pe_int (pa_cons pe_int (pa_cons (pe_op op_add pe_int (pe_callB (r := rLenS K) call_len_seq (by rfl) T.b_len (by decide +kernel) (pa_cons (pv 1) pa_nil))) (pa_cons pe_int pa_nil))))))))), ?_⟩
    have hcut : cutV (vI ns) none (some (63 : Int)) = (vI ns).take 63 := cut_take (vI ns) 63
    refine q_asgL (xs := (List.range ns.length).map fun i => V.int (absI (wd ns i))) (el_lcA _ (ei_newL (Pn := fun xs _ => xs = vI ns) (fun H1 e1 Q1 q1 => el_sl (K := K) (ev_var rfl) eo_none (eo_some ev_c) hp H1 e1 Q1 fun a H2 _ e2 ha => q1 _ H2 e2 ⟨a, vI ns, rfl, by rw [ha, hcut, List.take_of_length_le (by rw [List.length_map]; exact hl)], by rw [List.length_map], rfl⟩) fun xs H1 H2 i x _ _ hx hxi => by rw [hx] at hxi; exact hxi) (by omega) fun i x H1 e1 hi hx => ?_) fun c H1 hc e1 h1 => ?_
    · rw [vI_get hi] at hx
      cases hx
      exact ⟨_, eg_name, rfl, ev_abs (ea_cons (ev_int (ea_cons (ev_var rfl) ea_nil)) ea_nil)⟩
    · have h1' : H1 c = some (.lst (vI (ns.map absI))) := by
        rw [h1]
        congr 2
        rw [vI, List.map_map]
        exact map_getD 0 (V.int ∘ absI) ns
      refine s_retL (xs := [.ref c, .int 0, .int 0, .int (1 + (ns.length : Int)), .int 0]) (el_lst (ea_cons (ev_var rfl) (ea_cons ev_c (ea_cons ev_c (ea_cons (ev_op ev_c (ev_is (ev_lenL h1' (ev_var rfl)) (by rw [List.length_map, List.length_map])) rv_I0) (ea_cons ev_c ea_nil))))) (by show 5 ≤ 100000; decide)) fun l H2 hl e2 h2 => q _ _ (fresh_back e1 hl) (e1.trans e2) ⟨c, ns.map absI, 0, 0, _, 0, h2, e2 _ _ h1', fun z => by simp only at z; rw [← z, h1] at hl; cases hl⟩
abbrev sp_l_draw : Sp := hsp (fun (many : Int) h vs _ => vs = [.ref h.1, .int many] ∧ 0 < many ∧ many ≤ 1000) (fun many v _ => ∃ d : Int, v = .int d ∧ 0 ≤ d ∧ d < many)
theorem has_l_draw (T : Tops K mg C) : Has P w K mg base 1 "_law_draw" ["_law_hand_here", "_law_many"] sp_l_draw := by
  refine T.d_l_draw.has sc_l_draw (fun vs H Q E h => ?_) (fun f cdv A outer s H vs Q E hr h => ?_)
  · obtain ⟨_, _, ⟨rfl, _⟩, _⟩ := h; rfl
  · obtain ⟨many, ⟨h, c⟩, ⟨rfl, hm0, hm1⟩, ⟨cs, i, m, r, n, hh, hc, hch⟩, q⟩ := h
    refine ⟨_, (pss_cons (ps_if (PW.pt (pw_and (pt_cmpR op_eq (pe_ix (r := rIxL K) ix_list (pv 0) pe_int (fun _ _ => rfl)) pe_int (nomark _)) (pw_and1 (pt_cmpR op_lt (pe_ix (r := rIxL K) ix_list (pv 0) pe_int (fun _ _ => rfl)) (pe_callB (r := rLenS K) call_len_seq (by rfl) T.b_len (by decide +kernel) (pa_cons (pe_ix (r := rIxL K) ix_list (pv 0) pe_int (fun _ _ => rfl)) pa_nil)) (nomark _)))))
        (pss_cons (ps_set (i := 2) sc_l_draw.nd rfl (.inl rfl) (pe_ix (r := rIxL K) ix_list (pe_ix (r := rIxL K) ix_list (pv 0) pe_int (fun _ _ => rfl)) (pe_ix (r := rIxL K) ix_list (pv 0) pe_int (fun _ _ => rfl)) (fun _ _ => rfl)))
        (pss_cons (ps_asg (pe_op op_add (pe_ix (r := rIxL K) ix_list (pv 0) pe_int (fun _ _ => rfl)) pe_int) (pg_sub (pv 0) pe_int set_list))
        (pss_cons (ps_asg (pe_op op_mod (pe_callTy call_int1 (by rfl) T.b_int (by decide +kernel) (pa_cons (pe_op op_add (pe_op op_add (pe_op op_mul (pe_ix (r := rIxL K) ix_list (pv 0) pe_int (fun _ _ => rfl)) pe_int) (pv 2)) pe_int) pa_nil)) pe_int) (pg_sub (pv 0) pe_int set_list))
        (pss_one (ps_if (pt_cmpR op_ge (pv 2) (pe_op op_pow pe_int pe_int) (nomark _))
          (pss_one (ps_asg (pv 2) (pg_sub (pv 0) pe_int set_list)))
          pss_nil)))))
        pss_nil)
      (pss_cons (ps_if (pt_cmpR op_gt (pe_ix (r := rIxL K) ix_list (pv 0) pe_int (fun _ _ => rfl)) pe_int (nomark _))
        (pss_cons (ps_set (i := 3) sc_l_draw.nd rfl (.inl rfl) (pe_op op_mod (pe_callTy call_int1 (by rfl) T.b_int (by decide +kernel) (pa_cons (pe_ix (r := rIxL K) ix_list (pv 0) pe_int (fun _ _ => rfl)) pa_nil)) (pv 1)))
        (pss_cons (ps_asg (pe_op op_fdiv (pe_ix (r := rIxL K) ix_list (pv 0) pe_int (fun _ _ => rfl)) (pv 1)) (pg_sub (pv 0) pe_int set_list))
        (pss_one (ps_ret (pv 3)))))
        pss_nil)
      (pss_cons (ps_asg (pe_op op_add (pe_ix (r := rIxL K) ix_list (pv 0) pe_int (fun _ _ => rfl)) pe_int) (pg_sub (pv 0) pe_int set_list))
      (pss_cons (ps_set (i := 4) sc_l_draw.nd rfl (.inl rfl) (pe_op op_mod (pe_callTy call_int1 (by rfl) T.b_int (by decide +kernel) (pa_cons (pe_op op_mul (pe_callTy call_int1 (by rfl) T.b_int (by decide +kernel) (pa_cons (pe_op op_add (pe_ix (r := rIxL K) ix_list (pv 0) pe_int (fun _ _ => rfl)) (pe_op op_mul pe_int (pe_ix (r := rIxL K) ix_list (pv 0) pe_int (fun _ _ => rfl)))) pa_nil)) pe_int) pa_nil)) pe_int))
      (pss_cons (ps_set (i := 4) sc_l_draw.nd rfl (.inl rfl) (pe_op op_mod (pe_callTy call_int1 (by rfl) T.b_int (by decide +kernel) (pa_cons (pe_op op_mul (pv 4) (pe_op op_add (pe_op op_fdiv (pv 4) pe_int) pe_int)) pa_nil)) pe_int))
      (pss_cons (ps_set (i := 4) sc_l_draw.nd rfl (.inl rfl) (pe_op op_mod (pe_callTy call_int1 (by rfl) T.b_int (by decide +kernel) (pa_cons (pe_op op_mul (pv 4) (pe_op op_add (pe_op op_fdiv (pv 4) pe_int) pe_int)) pa_nil)) pe_int))
      (pss_one (ps_ret (pe_op op_mod (pe_callTy call_int1 (by rfl) T.b_int (by decide +kernel) (pa_cons (pe_op op_fdiv (pv 4) pe_int) pa_nil)) (pv 1)))))))))), ?_⟩
    simp only at hh hc hch
    refine q_whenM (M := fun σ' H' => ∃ (i : Nat) (m r n : Int) (x2 : Option V), σ' = [some (.ref h), some (.int many), x2, none, none] ∧ HX (h, c) H H' ∧ H' h = some (.lst [.ref c, .int (i : Int), .int m, .int r, .int n]))
      (b := decide (V.int m = V.int 0) && decide ((i : Int) < ((vI cs).length : Int))) ?_ ?_ (fun hb H1 e1 N kN => ?_) (fun hb H1 e1 => ⟨i, m, r, n, none, rfl, exs_of e1, e1 _ _ hh⟩)
    · apply et_and
      · exact et_test (ev_op (ev_op (ev_var rfl) ev_c (rv_ixLl (j := 2) hh rfl)) ev_c (rv_eq rfl))
      · intro _
        exact et_test (ev_op (ev_op (ev_var rfl) ev_c (rv_ixLl (j := 1) hh rfl)) (ev_lenL hc (ev_op (ev_var rfl) ev_c (rv_ixLl (j := 0) hh rfl))) rv_I0)
    · rintro σ' H' ⟨i, m, r, n, x2, rfl, ex, hh'⟩
      have hc' : H' c = some (.lst (vI cs)) := ex _ _ hch hc
      refine q_when (b := decide (0 < m)) (et_test (ev_op (ev_op (ev_var rfl) ev_c (rv_ixLl (j := 2) hh' rfl)) ev_c rv_I0)) (fun hb H1 e1 => ?_) (fun hb H1 e1 => ?_)
      · refine q_asg (v := .int (m % many)) (ev_op (ev_int (ea_cons (ev_op (ev_var rfl) ev_c (rv_ixLl (j := 2) (e1 _ _ hh') rfl)) ea_nil)) (ev_var rfl) (rv_I hm0)) fun H2 e2 => ?_
        have h2 := (e1.trans e2) _ _ hh'
        refine q_setL (j := 2) (v := .int (m / many)) h2 (ev_op (ev_op (ev_var rfl) ev_c (rv_ixLl (j := 2) h2 rfl)) (ev_var rfl) (rv_I (show CDiv m many from ⟨hm0, by omega⟩))) (ev_var rfl) ev_c (by show 2 < 5; decide) fun H3 e3 => ?_
        refine s_ret (v := .int (m % many)) (ev_var rfl) fun H4 e4 => q _ _ ?_ ?_ ⟨m % many, rfl, Int.emod_nonneg _ (by omega), Int.emod_lt_of_pos _ hm0⟩
        · exact ((ex.trans (exs_of ((e1.trans e2).trans e3))).mut rfl).trans (exs_of e4)
        · exact HandOk.ex ⟨cs, i, m / many, r, n, upd_same, by rw [upd_ne hch]; exact ((e1.trans e2).trans e3) _ _ hc', hch⟩ e4
      · have h1 := e1 _ _ hh'
        refine q_setL (j := 4) (v := .int (n + 1)) h1 (ev_op (ev_op (ev_var rfl) ev_c (rv_ixLl (j := 4) h1 rfl)) ev_c rv_I0) (ev_var rfl) ev_c (by show 4 < 5; decide) fun H2 e2 => ?_
        have h2 : (upd H2 h (.lst ([.ref c, .int (i : Int), .int m, .int r, .int n].set 4 (.int (n + 1))))) h = some (.lst [.ref c, .int (i : Int), .int m, .int r, .int (n + 1)]) := upd_same
        refine q_asg (v := .int ((r + 7919 * (n + 1)) * 48271 % 2147483647)) (ev_op (ev_int (ea_cons (ev_op (x := .int (r + 7919 * (n + 1))) (ev_int (ea_cons (ev_op (ev_op (ev_var rfl) ev_c (rv_ixLl (j := 3) h2 rfl)) (ev_op ev_c (ev_op (ev_var rfl) ev_c (rv_ixLl (j := 4) h2 rfl)) (rv_I (.inl ⟨by decide, by decide⟩))) rv_I0) ea_nil)) ev_c (rv_I (.inr ⟨by decide, by decide⟩))) ea_nil)) ev_c (rv_I (by decide))) fun H3 e3 => ?_
        have b1 := Int.emod_nonneg ((r + 7919 * (n + 1)) * 48271) (b := 2147483647) (by decide)
        have b2 := Int.emod_lt_of_pos ((r + 7919 * (n + 1)) * 48271) (b := 2147483647) (by decide)
        generalize (r + 7919 * (n + 1)) * 48271 % 2147483647 = n1 at b1 b2
        refine q_asg (v := .int (n1 * (n1 / 1009 + 69621) % 2147483647)) (ev_op (ev_int (ea_cons (ev_op (x := .int n1) (y := .int (n1 / 1009 + 69621)) (ev_var rfl) (ev_op (ev_op (ev_var rfl) ev_c (rv_I (show CDiv n1 1009 from ⟨by decide, by decide⟩))) ev_c rv_I0) (rv_I (.inl ⟨by omega, by omega⟩))) ea_nil)) ev_c (rv_I (by decide))) fun H4 e4 => ?_
        have b3 := Int.emod_nonneg (n1 * (n1 / 1009 + 69621)) (b := 2147483647) (by decide)
        have b4 := Int.emod_lt_of_pos (n1 * (n1 / 1009 + 69621)) (b := 2147483647) (by decide)
        generalize n1 * (n1 / 1009 + 69621) % 2147483647 = n2 at b3 b4
        refine q_asg (v := .int (n2 * (n2 / 2003 + 40692) % 2147483399)) (ev_op (ev_int (ea_cons (ev_op (x := .int n2) (y := .int (n2 / 2003 + 40692)) (ev_var rfl) (ev_op (ev_op (ev_var rfl) ev_c (rv_I (show CDiv n2 2003 from ⟨by decide, by decide⟩))) ev_c rv_I0) (rv_I (.inl ⟨by omega, by omega⟩))) ea_nil)) ev_c (rv_I (by decide))) fun H5 e5 => ?_
        generalize n2 * (n2 / 2003 + 40692) % 2147483399 = n3
        have e25 := (e3.trans e4).trans e5
        refine s_ret (v := .int (n3 / 16 % many)) (ev_op (ev_int (ea_cons (ev_op (ev_var rfl) ev_c (rv_I (show CDiv n3 16 from ⟨by decide, by decide⟩))) ea_nil)) (ev_var rfl) (rv_I hm0)) fun H6 e6 => q _ _ ?_ ?_ ⟨n3 / 16 % many, rfl, Int.emod_nonneg _ (by omega), Int.emod_lt_of_pos _ hm0⟩
        · exact ((ex.trans (exs_of (e1.trans e2))).mut rfl).trans (exs_of (e25.trans e6))
        · exact HandOk.ex ⟨cs, i, m, r, n + 1, h2, by rw [upd_ne hch]; exact (e1.trans e2) _ _ hc', hch⟩ (e25.trans e6)
    · have hil : i < cs.length := by
        rw [Bool.and_eq_true] at hb
        have := of_decide_eq_true hb.2
        rw [List.length_map] at this
        omega
      have h1 := e1 _ _ hh
      have hc1 := e1 _ _ hc
      refine q_asg (v := .int (wd cs i)) (ev_op (ev_op (ev_var rfl) ev_c (rv_ixLl (j := 0) h1 rfl)) (ev_op (ev_var rfl) ev_c (rv_ixLl (j := 1) h1 rfl)) (rv_ixLl hc1 (vI_get hil))) fun H2 e2 => ?_
      refine q_setL (j := 1) (v := .int ((i + 1 : Nat) : Int)) (e2 _ _ h1) (ev_is (ev_op (ev_op (ev_var rfl) ev_c (rv_ixLl (j := 1) (e2 _ _ h1) rfl)) ev_c rv_I0) rfl) (ev_var rfl) ev_c (by show 1 < 5; decide) fun H3 e3 => ?_
      have h3 : (upd H3 h (.lst ([.ref c, .int (i : Int), .int m, .int r, .int n].set 1 (.int ((i + 1 : Nat) : Int))))) h = some (.lst [.ref c, .int ((i + 1 : Nat) : Int), .int m, .int r, .int n]) := upd_same
      have x3 : HX (h, c) H (upd H3 h (.lst ([.ref c, .int (i : Int), .int m, .int r, .int n].set 1 (.int ((i + 1 : Nat) : Int))))) := (exs_of ((e1.trans e2).trans e3)).mut rfl
      generalize (upd H3 h (.lst ([.ref c, .int (i : Int), .int m, .int r, .int n].set 1 (.int ((i + 1 : Nat) : Int))))) = H4 at h3 x3
      refine q_setL (j := 3) (v := .int ((r * 69621 + wd cs i + 11) % 2147483629)) h3 (ev_op (ev_int (ea_cons (ev_op (ev_op (ev_op (ev_op (ev_var rfl) ev_c (rv_ixLl (j := 3) h3 rfl)) ev_c (rv_I (.inr ⟨by decide, by decide⟩))) (ev_var rfl) rv_I0) ev_c rv_I0) ea_nil)) ev_c (rv_I (by decide))) (ev_var rfl) ev_c (by show 3 < 5; decide) fun H5 e5 => ?_
      generalize (r * 69621 + wd cs i + 11) % 2147483629 = r'
      have h5 : (upd H5 h (.lst ([.ref c, .int ((i + 1 : Nat) : Int), .int m, .int r, .int n].set 3 (.int r')))) h = some (.lst [.ref c, .int ((i + 1 : Nat) : Int), .int m, .int r', .int n]) := upd_same
      have x5 : HX (h, c) H (upd H5 h (.lst ([.ref c, .int ((i + 1 : Nat) : Int), .int m, .int r, .int n].set 3 (.int r')))) := (x3.trans (exs_of e5)).mut rfl
      generalize (upd H5 h (.lst ([.ref c, .int ((i + 1 : Nat) : Int), .int m, .int r, .int n].set 3 (.int r')))) = H6 at h5 x5
      refine s_when (b := decide ((10 : Int) ^ (18 : Int).toNat ≤ wd cs i)) (et_test (ev_op (ev_var rfl) (ev_op ev_c ev_c (rv_I (show CPow 10 18 from ⟨by decide, by decide, by decide⟩))) rv_I0)) (fun hb H7 e7 => ?_) (fun hb H7 e7 => ?_)
      · exact s_setL (j := 2) (v := .int (wd cs i)) (e7 _ _ h5) (ev_var rfl) (ev_var rfl) ev_c (by show 2 < 5; decide) fun H8 e8 => kN _ _ ⟨i + 1, wd cs i, r', n, _, rfl, (x5.trans (exs_of (e7.trans e8))).mut rfl, upd_same⟩
      · exact kN _ _ ⟨i + 1, m, r', n, _, rfl, x5.trans (exs_of e7), e7 _ _ h5⟩
/-- a draw, wherever it stands -/
theorem draw_at {H : Hp} {h : Addr × Addr} {many : Int} {Q : VK} {E : XK} (k : HandOk H h) (hm : 0 < many ∧ many ≤ 1000) (q : ∀ (d : Int) H', 0 ≤ d → d < many → HX h H H' → HandOk H' h → Q (.int d) H') : sp_l_draw ([.ref h.1, .int many] ++ []) H Q E :=
  ⟨many, h, ⟨rfl, hm⟩, k, fun v H' e k' ⟨d, ev, h0, h1⟩ => by
    rw [ev]
    exact q d H' h0 h1 e k'⟩
end
end TW
namespace TW
open PySem PySem.Spec PyProof.Rows L2 Evl
/-! ### what a reading that draws evaluates to -/
def ER (h : Addr × Addr) (te : TE) (σ : L2.St) (H : Hp) (P : VP) : Prop := ∀ Q : VK, (∀ v H', HX h H H' → HandOk H' h → P v H' → Q v H') → te σ H Q
def ERA (h : Addr × Addr) (ta : TA) (σ : L2.St) (H : Hp) (P : List V → Hp → Prop) : Prop := ∀ Q : List V → Hp → Prop, (∀ v H', HX h H H' → HandOk H' h → P v H' → Q v H') → ta σ H Q
theorem HandOk.exs {S : Addr → Prop} {H H' : Hp} {h : Addr × Addr} (k : HandOk H h) (e : ExS S H H') (n1 : ¬ S h.1) (n2 : ¬ S h.2) : HandOk H' h := by
  obtain ⟨cs, i, m, r, n, a, b, d⟩ := k
  exact ⟨cs, i, m, r, n, e _ _ n1 a, e _ _ n2 b, d⟩
section
variable {h : Addr × Addr} {K : PySem.W.Frag} {σ : L2.St} {H H' : Hp} {te tl ta' tb : TE} {ta tr : TA} {P P' : VP} {D : Ends} {tz : TS} {wi : TI} {g : TG} {n : Nat} {Y : Nat → V → Hp → Prop}
theorem er_pure (e : EvP te σ H P) (k : HandOk H h) : ER h te σ H P := fun Q q => e H (Ex.refl H) _ fun v H1 e1 p => q v H1 (exs_of e1) (k.ex e1) p
theorem era_pure {vs : List V} (e : EvA ta σ H vs) (k : HandOk H h) : ERA h ta σ H (fun us _ => us = vs) := fun Q q => e H (Ex.refl H) _ fun H1 e1 => q _ H1 (exs_of e1) (k.ex e1) rfl
theorem ER.imp (e : ER h te σ H P) (k : ∀ v H1, HX h H H1 → HandOk H1 h → P v H1 → P' v H1) : ER h te σ H P' := fun Q q => e Q fun v H1 a b c => q v H1 a b (k v H1 a b c)
theorem er_draw {many : Int} {E : XK} (e : EvA ta σ H [.ref h.1, .int many]) (k : HandOk H h) (hm : 0 < many ∧ many ≤ 1000) : ER h (tCall sp_l_draw [] E ta) σ H (fun v _ => ∃ d, v = .int d ∧ 0 ≤ d ∧ d < many) := fun Q q =>
  e H (Ex.refl H) _ fun H1 e1 => draw_at (k.ex e1) hm fun d H' a b c d' => q _ H' ((exs_of e1).trans c) d' ⟨d, rfl, a, b⟩
theorem er_op {r : R2} {Pa Pz : VP} {Pb : V → VP} (ha : ER h ta' σ H Pa) (hb : ∀ x H1, HX h H H1 → HandOk H1 h → Pa x H1 → ER h tb σ H1 (Pb x)) (hr : ∀ x y H2, HandOk H2 h → Pb x y H2 → ∀ Q : VK, (∀ z H3, Ex H2 H3 → Pz z H3 → Q z H3) → r x y H2 Q) : ER h (tOp r ta' tb) σ H Pz := fun Q q =>
  ha _ fun x H1 a1 k1 p1 => hb x H1 a1 k1 p1 _ fun y H2 a2 k2 p2 => hr x y H2 k2 p2 Q fun z H3 e3 p3 => q z H3 ((a1.trans a2).trans (exs_of e3)) (k2.ex e3) p3
/-- an operation on two ints -/
theorem er_i {Cn : Int → Int → Prop} {f : Int → Int → V} {pa pb : Int → Prop} {Pz : VP} (ha : ER h ta' σ H (fun v _ => ∃ i, v = .int i ∧ pa i)) (hb : ∀ H1, HX h H H1 → HandOk H1 h → ER h tb σ H1 (fun v _ => ∃ i, v = .int i ∧ pb i)) (hc : ∀ i j, pa i → pb j → Cn i j ∧ ∀ H, Pz (f i j) H) : ER h (tOp (rI Cn f) ta' tb) σ H Pz :=
  er_op (Pb := fun x y _ => ∃ i j, x = .int i ∧ y = .int j ∧ pa i ∧ pb j) ha (fun x H1 a k ⟨i, ex, hi⟩ => (hb H1 a k).imp fun y H2 _ _ ⟨j, ey, hj⟩ => ⟨i, j, ex, ey, hi, hj⟩) fun x y H2 k ⟨i, j, ex, ey, hi, hj⟩ Q q => ⟨i, j, ex, ey, (hc i j hi hj).1, q _ H2 (Ex.refl H2) ((hc i j hi hj).2 H2)⟩
theorem er_i0 {f : Int → Int → V} {pa pb : Int → Prop} {Pz : VP} (ha : ER h ta' σ H (fun v _ => ∃ i, v = .int i ∧ pa i)) (hb : ∀ H1, HX h H H1 → HandOk H1 h → ER h tb σ H1 (fun v _ => ∃ i, v = .int i ∧ pb i)) (hc : ∀ i j, pa i → pb j → ∀ H, Pz (f i j) H) : ER h (tOp (rI0 f) ta' tb) σ H Pz :=
  er_op (Pb := fun x y _ => ∃ i j, x = .int i ∧ y = .int j ∧ pa i ∧ pb j) ha (fun x H1 a k ⟨i, ex, hi⟩ => (hb H1 a k).imp fun y H2 _ _ ⟨j, ey, hj⟩ => ⟨i, j, ex, ey, hi, hj⟩) fun x y H2 k ⟨i, j, ex, ey, hi, hj⟩ Q q => ⟨i, j, ex, ey, q _ H2 (Ex.refl H2) (hc i j hi hj H2)⟩
theorem er_v {v : V} (e : Ev te σ H v) (k : HandOk H h) : ER h te σ H (fun u _ => u = v) := er_pure (ep_of e) k
theorem er_int {i : Int} (e : Ev te σ H (.int i)) (k : HandOk H h) : ER h te σ H (fun u _ => ∃ j, u = .int j ∧ j = i) := (er_v e k).imp fun _ _ _ _ p => ⟨i, p, rfl⟩
theorem era_nil (k : HandOk H h) : ERA h tNil σ H (fun vs _ => vs = []) := fun Q q => q [] H (ExS.refl H) k rfl
theorem era_cons {Pa : VP} {Pr : V → List V → Hp → Prop} (ha : ER h ta' σ H Pa) (hr : ∀ x H1, HX h H H1 → HandOk H1 h → Pa x H1 → ERA h tr σ H1 (Pr x)) : ERA h (tCons ta' tr) σ H (fun vs H2 => ∃ x r, vs = x :: r ∧ Pr x r H2) := fun Q q =>
  ha _ fun x H1 a1 k1 p1 => hr x H1 a1 k1 p1 _ fun rs H2 a2 k2 p2 => q _ H2 (a1.trans a2) k2 ⟨x, rs, rfl, p2⟩
theorem ERA.imp {Pa Pb : List V → Hp → Prop} (e : ERA h ta σ H Pa) (k : ∀ v H1, HX h H H1 → HandOk H1 h → Pa v H1 → Pb v H1) : ERA h ta σ H Pb := fun Q q => e Q fun v H1 a b c => q v H1 a b (k v H1 a b c)
theorem er_callH {α : Type} {pre : α → Addr × Addr → List V → Hp → Prop} {post : α → V → Hp → Prop} {E : XK} {Pa : List V → Hp → Prop} (ha : ERA h ta σ H Pa) (hp : ∀ vs H1, HX h H H1 → HandOk H1 h → Pa vs H1 → ∃ a, pre a h vs H1 ∧ ∀ v H2, HX h H1 H2 → HandOk H2 h → post a v H2 → P v H2) : ER h (tCall (hsp pre post) [] E ta) σ H P := fun Q q =>
  ha _ fun vs H1 a1 k1 p1 => by
    rw [List.append_nil]
    obtain ⟨a, h1, h2⟩ := hp vs H1 a1 k1 p1
    exact ⟨a, h, h1, k1, fun v H2 a2 k2 p2 => q v H2 (a1.trans a2) k2 (h2 v H2 a2 k2 p2)⟩
theorem er_call {α : Type} {pre : α → List V → Hp → Prop} {post : α → V → Hp → Prop} {E : XK} {Pa : List V → Hp → Prop} (ha : ERA h ta σ H Pa) (hp : ∀ vs H1, HX h H H1 → HandOk H1 h → Pa vs H1 → ∃ a, pre a vs H1 ∧ ∀ v H2, Ex H1 H2 → post a v H2 → P v H2) : ER h (tCall (fsp pre post) [] E ta) σ H P := fun Q q =>
  ha _ fun vs H1 a1 k1 p1 => by
    rw [List.append_nil]
    obtain ⟨a, h1, h2⟩ := hp vs H1 a1 k1 p1
    exact ⟨a, h1, fun v H2 e2 p2 => q v H2 (a1.trans (exs_of e2)) (k1.ex e2) (h2 v H2 e2 p2)⟩
theorem er_lst {Pa : List V → Hp → Prop} (ha : ERA h ta σ H Pa) (hl : ∀ vs H1, Pa vs H1 → vs.length ≤ 100000) (hP : ∀ vs H1 H2, Ex H1 H2 → Pa vs H1 → Pa vs H2) : ER h (tLst ta) σ H (fun v H' => ∃ p vs, v = .ref p ∧ H' p = some (.lst vs) ∧ p ≠ h.1 ∧ Pa vs H') := fun Q q =>
  ha _ fun vs H1 a1 k1 p1 => ⟨sz_of (hl vs H1 p1), fun p hp => q _ _ (a1.trans (exs_of (Ex.new hp))) (k1.ex (Ex.new hp)) ⟨p, vs, rfl, upd_same, (k1.ne hp).1, hP _ _ _ (Ex.new hp) p1⟩⟩
theorem er_tup {Pa : List V → Hp → Prop} (ha : ERA h ta σ H Pa) (hl : ∀ vs H1, Pa vs H1 → vs.length ≤ 100000) (hP : ∀ vs H1 H2, Ex H1 H2 → Pa vs H1 → Pa vs H2) : ER h (tTup ta) σ H (fun v H' => ∃ p vs, v = .ref p ∧ H' p = some (.tup vs) ∧ Pa vs H') := fun Q q =>
  ha _ fun vs H1 a1 k1 p1 => ⟨sz_of (hl vs H1 p1), fun p hp => q _ _ (a1.trans (exs_of (Ex.new hp))) (k1.ex (Ex.new hp)) ⟨p, vs, rfl, upd_same, hP _ _ _ (Ex.new hp) p1⟩⟩
/-- [x, y, ..][a draw] -/
theorem er_pick {vs : List V} {many : Int} (hl : ER h te σ H (fun v H' => ∃ p xs, v = .ref p ∧ H' p = some (.lst xs) ∧ p ≠ h.1 ∧ ((xs.length : Int) = many ∧ ∀ x ∈ xs, P x H')))
    (hd : ∀ H1, HX h H H1 → HandOk H1 h → ER h tb σ H1 (fun v _ => ∃ d, v = .int d ∧ 0 ≤ d ∧ d < many)) (hP : ∀ v H1 H2, HX h H1 H2 → HandOk H1 h → P v H1 → P v H2) : ER h (tOp (rIxL K) te tb) σ H P :=
  er_op (Pb := fun x y H2 => ∃ p xs d, x = .ref p ∧ y = .int d ∧ 0 ≤ d ∧ d < many ∧ H2 p = some (.lst xs) ∧ (xs.length : Int) = many ∧ ∀ x ∈ xs, P x H2) hl
    (fun x H1 a k ⟨p, xs, ex, hx, np, hxl, hxP⟩ => (hd H1 a k).imp fun y H2 a2 k2 ⟨d, ey, h0, h1⟩ => ⟨p, xs, d, ex, ey, h0, h1, a2 _ _ np hx, hxl, fun z hz => hP z H1 H2 a2 k (hxP z hz)⟩)
    fun x y H2 k ⟨p, xs, d, ex, ey, h0, h1, hx, hxl, hxP⟩ Q q => by
      have hdl : d.toNat < xs.length := by omega
      refine ⟨p, xs, d, xs[d.toNat], ex, ey, sq_of hx, ?_, q _ H2 (Ex.refl H2) (hxP _ (List.getElem_mem hdl))⟩
      have := atI_nat (xs := xs) (j := d.toNat) (List.getElem?_eq_getElem hdl)
      rw [Int.toNat_of_nonneg h0] at this
      exact this
theorem q_asgR {i : Nat} (e : ER h te σ H P) (k : ∀ v H1, HX h H H1 → HandOk H1 h → P v H1 → tz D (σ.set i (some v)) H1) : tSeq (tAsg te (gName i)) tz D σ H := e _ k
theorem s_retR (e : ER h te σ H P) (k : ∀ v H1, HX h H H1 → HandOk H1 h → P v H1 → D.rt v H1) : tRet te D σ H := e _ k
/-- xs.append(e), e draws -/
theorem s_appR {l : Addr} {xs : List V} (hl : H l = some (.lst xs)) (nl : l ≠ h.1) (ha : Ev ta' σ H (.ref l)) (he : ∀ H1, Ex H H1 → ER h te σ H1 P) (hz : xs.length < 100000) (k : ∀ v H1, HX h H H1 → HandOk H1 h → P v H1 → D.nx σ (upd H1 l (.lst (xs ++ [v])))) :
    tDrop (tBM K "list" rAppend ta' (tCons te tNil)) D σ H := ha H (Ex.refl H) _ fun H1 e1 =>
  ⟨Or.inl ⟨rfl, xs, sq_of (e1 l _ hl)⟩, he H1 e1 _ fun v H2 a2 k2 p2 => ⟨l, xs, v, rfl, rfl, a2 _ _ nl (e1 l _ hl), sz_lt hz, k v H2 ((exs_of e1).trans a2) k2 p2⟩⟩
/-- for k in range(an int that is drawn) -/
theorem q_forR {ta : TA} {tb : TS} {Pj : Int → Hp → Prop} (e : ERA h ta σ H (fun vs H1 => ∃ j, vs = [.int j] ∧ Pj j H1)) (k : ∀ j H1, HX h H H1 → HandOk H1 h → Pj j H1 → tSeq (tFor (iRng1 fun _ H Q => Q [.int j] H) g tb) tz D σ H1) : tSeq (tFor (iRng1 ta) g tb) tz D σ H :=
  e _ fun vs H1 a1 k1 ⟨j, ev, p⟩ => by
    rw [ev]
    exact k j H1 a1 k1 p
theorem ea_const {vs : List V} : EvA (fun _ H Q => Q vs H) σ H vs := fun H1 _ Q q => q H1 (Ex.refl H1)
/-- a comprehension whose turns draw -/
theorem er_lc {vs : List Nat} (Pe : Nat → V → Prop) (k : HandOk H h) (hw : EvJ (· = h.1) wi σ H n Y) (hz : n ≤ 90000)
    (turn : ∀ i x H1, HX h H H1 → HandOk H1 h → i < n → Y i x H1 → ∃ σ2, EvG g x (wipe σ vs) H1 σ2 ∧ wipe σ2 vs = wipe σ vs ∧ ER h te σ2 H1 (fun v _ => Pe i v)) :
    ER h (tLc wi g tYes te vs) σ H (fun v H' => ∃ p ys, v = .ref p ∧ H' p = some (.lst ys) ∧ p ≠ h.1 ∧ ys.length = n ∧ ∀ i y, ys[i]? = some y → Pe i y) := fun Q q => by
  refine hw H (Ex.refl H) _ fun J H2 e2 go stop yld D hD => ?_
  have k2 := k.ex e2
  obtain ⟨d1, d2⟩ := k2.ne hD
  refine ⟨fun i m H' => i + m = n ∧ HX h H2 H' ∧ HandOk H' h ∧ ∃ ys, H' D = some (.lst ys) ∧ ys.length = i ∧ ∀ j y, ys[j]? = some y → Pe j y, ⟨n, Nat.zero_add n, exs_of (Ex.new hD), k2.ex (Ex.new hD), [], upd_same, rfl, fun j y hy => by simp at hy⟩, ?_⟩
  rintro i m H' ⟨hm, e3, k3, ys, hy, hl, hP⟩
  by_cases hi : i < n
  · refine .inr ⟨go i H' hi e3, fun H'' => HX h H2 H'' ∧ HandOk H'' h ∧ ∃ ys, H'' D = some (.lst ys) ∧ ys.length = i + 1 ∧ ∀ j y, ys[j]? = some y → Pe j y, fun H'' ⟨a, b, c⟩ => ⟨m - 1, by omega, by omega, a, b, c⟩, fun x H4 y => ?_⟩
    obtain ⟨e4, hY⟩ := yld i H' x H4 hi e3 y
    obtain ⟨σ2, hg, hwp, he⟩ := turn i x H4 (((exs_of e2).trans e3).trans (exs_of e4)) (k3.ex e4) hi hY
    refine hg _ ⟨hwp, ?_⟩
    unfold tYes
    dsimp only
    rw [if_pos rfl]
    refine he _ fun v H5 a5 k5 p5 => ⟨ys, a5 _ _ d1 (e4 _ _ hy), sz_lt (by omega), ?_, k5.upd d1 d2, ys ++ [v], upd_same, by rw [List.length_append, hl]; rfl, fun j y hj => ?_⟩
    · have e35 : HX h H2 H5 := (e3.trans (exs_of e4)).trans a5
      exact fun a o n ha => by
        rw [upd_ne (fun z => by rw [z, hD] at ha; cases ha)]
        exact e35 a o n ha
    · rw [List.getElem?_append] at hj
      split at hj
      · exact hP j y hj
      · rw [List.getElem?_singleton] at hj
        split at hj
        · cases hj
          have : j = i := by omega
          rw [this]
          exact p5
        · cases hj
  · have hn : i = n := by omega
    subst hn
    exact .inl ⟨stop H' e3, q _ H' ((exs_of e2).trans e3) k3 ⟨D, ys, rfl, hy, d1, hl, hP⟩⟩
/-- tuple(a new list) -/
theorem er_tuple {P : List V → Hp → Prop} (e : ER h te σ H (fun v H' => ∃ p ys, v = .ref p ∧ H' p = some (.lst ys) ∧ P ys H')) (hP : ∀ ys H1 H2, Ex H1 H2 → P ys H1 → P ys H2) :
    ER h (tCB (fun xs H Q => ∃ p ys, xs = [.ref p] ∧ ((SqL K H p ys ∧ ∀ l, H l = none → Q (.ref l) (upd H l (.tup ys))) ∨ (SqT K H p ys ∧ Q (.ref p) H))) (tCons te tNil)) σ H (fun v H' => ∃ p ys, v = .ref p ∧ H' p = some (.tup ys) ∧ P ys H') := fun Q q =>
  e _ fun v H1 a1 k1 ⟨p, ys, ev, hp, hPy⟩ => ⟨p, ys, by rw [ev], Or.inl ⟨sq_of hp, fun l hl => q _ _ (a1.trans (exs_of (Ex.new hl))) (k1.ex (Ex.new hl)) ⟨l, ys, rfl, upd_same, hP _ _ _ (Ex.new hl) hPy⟩⟩⟩
end
end TW
namespace TW
open PySem PySem.Spec PyProof.Rows L2 Evl
/-! ### fractions in order -/
def leF (f g : Int × Int) : Prop := f.1 * g.2 ≤ g.1 * f.2
theorem leF_trans {f g k : Int × Int} (hf : 0 < f.2) (hg : 0 < g.2) (hk : 0 < k.2) (a : leF f g) (b : leF g k) : leF f k := by
  unfold leF at *
  have h1 : f.1 * g.2 * k.2 ≤ g.1 * f.2 * k.2 := Int.mul_le_mul_of_nonneg_right a (Int.le_of_lt hk)
  have h2 : g.1 * k.2 * f.2 ≤ k.1 * g.2 * f.2 := Int.mul_le_mul_of_nonneg_right b (Int.le_of_lt hf)
  have h3 : f.1 * k.2 * g.2 ≤ k.1 * f.2 * g.2 := by
    have e1 : f.1 * k.2 * g.2 = f.1 * g.2 * k.2 := by rw [Int.mul_right_comm]
    have e2 : k.1 * f.2 * g.2 = k.1 * g.2 * f.2 := by rw [Int.mul_right_comm]
    have e3 : g.1 * f.2 * k.2 = g.1 * k.2 * f.2 := by rw [Int.mul_right_comm]
    rw [e1, e2]
    rw [e3] at h1
    exact Int.le_trans h1 h2
  exact Int.le_of_mul_le_mul_right h3 hg
theorem low_all : ∀ a : Fin 36, ∀ b : Fin 12, 1 ≤ (lowest ((a.val : Int) + 1) ((b.val : Int) + 1)).1 ∧ (lowest ((a.val : Int) + 1) ((b.val : Int) + 1)).1 ≤ 1000000 ∧ 1 ≤ (lowest ((a.val : Int) + 1) ((b.val : Int) + 1)).2 ∧ (lowest ((a.val : Int) + 1) ((b.val : Int) + 1)).2 ≤ 144 ∧ Int.gcd (lowest ((a.val : Int) + 1) ((b.val : Int) + 1)).1 (lowest ((a.val : Int) + 1) ((b.val : Int) + 1)).2 = 1 := by
  decide +kernel
theorem low_good {a b : Int} (ha : 1 ≤ a ∧ a ≤ 36) (hb : 1 ≤ b ∧ b ≤ 12) : Good (lowest a b) := by
  have h := low_all ⟨(a - 1).toNat, by omega⟩ ⟨(b - 1).toNat, by omega⟩
  have e1 : (((a - 1).toNat : Nat) : Int) + 1 = a := by omega
  have e2 : (((b - 1).toNat : Nat) : Int) + 1 = b := by omega
  simp only [e1, e2] at h
  exact h
theorem first_at {f : Int × Int} : ∀ {fl : List (Int × Int)}, f ∈ fl → ∃ j : Nat, fl[j]? = some f ∧ ∀ m : Nat, m < j → fl[m]? ≠ some f
  | g :: fl, h => by
    by_cases e : g = f
    · exact ⟨0, by rw [e]; rfl, fun m hm => absurd hm (Nat.not_lt_zero m)⟩
    · rcases List.mem_cons.mp h with h | h
      · exact absurd h.symm e
      · obtain ⟨j, h1, h2⟩ := first_at h
        refine ⟨j + 1, h1, fun m hm => ?_⟩
        cases m with
        | zero => exact fun z => e (Option.some.inj z)
        | succ m => exact h2 m (by omega)
theorem paired_erase {α β : Type} {F : α → β → Prop} : ∀ {xs : List α} {ys : List β} (j : Nat), Paired F xs ys → Paired F (xs.eraseIdx j) (ys.eraseIdx j)
  | _, _, _, .nil => .nil
  | _, _, 0, .cons _ s => s
  | _, _, j + 1, .cons r s => .cons r (paired_erase j s)
theorem sorted_snoc {ol : List (Int × Int)} {f : Int × Int} (h : Sorted ol) (hl : ∀ g, ol.getLast? = some g → leF g f) : Sorted (ol ++ [f]) := fun i g k hg hk => by
  rw [List.getElem?_append] at hg hk
  by_cases h1 : i + 1 < ol.length
  · rw [if_pos (by omega)] at hg
    rw [if_pos h1] at hk
    exact h i g k hg hk
  · rw [if_neg h1] at hk
    by_cases h2 : i < ol.length
    · rw [if_pos h2] at hg
      have e : i + 1 - ol.length = 0 := by omega
      rw [e] at hk
      cases hk
      refine hl g ?_
      rw [List.getLast?_eq_getElem?, show ol.length - 1 = i by omega]
      exact hg
    · rw [List.getElem?_singleton, if_neg (by omega)] at hk
      cases hk
section
variable {K : PySem.W.Frag} {σ : L2.St} {H : Hp} {te ta : TE}
theorem s_rem {σ : L2.St} {H : Hp} {ta te : TE} {D : Ends} {tz : TS} {l : Addr} {vs : List V} {fl : List (Int × Int)} {v : V} {f : Int × Int} {j : Nat} (hl : H l = some (.lst vs)) (hp : Paired (FrAt H) vs fl) (hv : FrAt H v f) (hj : fl[j]? = some f) (hn : ∀ m, m < j → fl[m]? ≠ some f) (ha : Ev ta σ H (.ref l)) (he : Ev te σ H v)
    (k : ∀ H1, Ex H H1 → tz D σ (upd H1 l (.lst (vs.eraseIdx j)))) : tSeq (tDrop (tBM K "list" rRemoveF ta (tCons te tNil))) tz D σ H := ha H (Ex.refl H) _ fun H1 e1 =>
  ⟨Or.inl ⟨rfl, vs, sq_of (e1 l _ hl)⟩, he H1 e1 _ fun H2 e2 => ⟨l, vs, fl, v, j, f, rfl, rfl, (e1.trans e2) l _ hl, paired_imp (fun _ _ q => FrAt.ex (tex_of (e1.trans e2)) q) hp, hv.ex (tex_of (e1.trans e2)), hj, hn, k H2 (e1.trans e2)⟩⟩
theorem eu_tupleV {p : Addr} {xs : List V} (ha : Ev ta σ H (.ref p)) (hp : H p = some (.lst xs)) : EvU (tCB (fun xs H Q => ∃ p ys, xs = [.ref p] ∧ ((SqL K H p ys ∧ ∀ l, H l = none → Q (.ref l) (upd H l (.tup ys))) ∨ (SqT K H p ys ∧ Q (.ref p) H))) (tCons ta tNil)) σ H xs := fun H1 e Q q =>
  ha H1 e _ fun H2 e2 => ⟨p, xs, rfl, Or.inl ⟨sq_of ((e.trans e2) _ _ hp), fun l hl => q l _ (fresh_back e2 hl) (e2.trans (Ex.new hl)) upd_same⟩⟩
end
section
variable {P : Program} {w : World} {K : PySem.W.Frag} {mg : Str → Option Value} {base : Heap} {C : Addr} {mgX : Str → Option Value}
local macro_rules | `(tactic| walk_at "rv") => `(tactic| first
  | exact rv_I0
  | exact rv_eq rfl
  | exact rv_ne rfl
  | exact rv_isN
  | exact rv_notN
  | (apply rv_I; (try dsimp only); first | omega | assumption | exact ⟨by omega, by omega⟩ | exact Or.inl ⟨by omega, by omega⟩ | exact Or.inr ⟨by omega, by omega⟩)
  | (apply rv_ix0; assumption; rfl)
  | (apply rv_ix1; assumption; rfl)
  | (apply rv_ix2; assumption; rfl)
  | (apply rv_ix4; assumption; rfl))
local macro_rules | `(tactic| walk_at "ea") => `(tactic| first
  | exact ea_nil
  | (apply ea_cons; walk_at "ev"; walk_at "ea"))
local macro_rules | `(tactic| walk_at "ev") => `(tactic| first
  | exact ev_c
  | (apply ev_var; rfl)
  | (apply ev_op; walk_at "ev"; walk_at "ev"; walk_at "rv")
  | (apply ev_un; walk_at "ev"; exact ru_neg)
  | (apply ev_isiII; walk_at "ea")
  | (apply ev_isiIB; walk_at "ea")
  | (apply ev_isiTT; assumption; walk_at "ea")
  | (apply ev_lenT; assumption; walk_at "ev")
  | (apply ev_lenL; assumption; walk_at "ev")
  | (apply ev_andV; walk_at "ev"; intro _; walk_at "ev")
  | (apply ev_orV; walk_at "ev"; intro _; walk_at "ev")
  | (apply ev_notV; walk_at "ev")
  | (apply ev_chain; walk_at "ev"; walk_at "ev"; walk_at "ev"; walk_at "rv"; walk_at "rv")
  | (apply ev_abs; walk_at "ea")
  | (apply ev_int; walk_at "ea"))
local macro_rules | `(tactic| walk_at "et") => `(tactic| first
  | (apply et_test; walk_at "ev")
  | (apply et_B; walk_at "ev")
  | (apply et_not; walk_at "et")
  | (apply et_and; walk_at "et"; intro _; walk_at "et")
  | (apply et_or; walk_at "et"; intro _; walk_at "et"))

local macro_rules | `(tactic| walk_at "ev") => `(tactic| ((with_reducible apply ev_is_integer); walk_at "ea"))
local macro_rules | `(tactic| walk_at "ev") => `(tactic| ((with_reducible apply ev_is_between); walk_at "ea"))
local macro_rules | `(tactic| walk_at "ev") => `(tactic| ((with_reducible apply ev_divisor); walk_at "ea"))
local macro_rules | `(tactic| walk_at "ev") => `(tactic| ((with_reducible apply ev_is_width); walk_at "ea"))
abbrev sp_l_some : Sp := hsp (fun (os : List (List Int)) h vs H => ∃ v, vs = [.ref h.1, v] ∧ RowsAt H v os ∧ v ≠ .ref h.1 ∧ os ≠ [] ∧ os.length ≤ 1000) (fun os v H => ∃ o ∈ os, TupI H v o)
theorem has_l_some (T : Tops K mg C) : Has P w K mg base 2 "_law_some" ["_law_hand_here", "_law_things"] sp_l_some := by
  refine T.d_l_some.has sc_l_some (fun vs H Q E h => ?_) (fun f cdv A outer s H vs Q E hr h => ?_)
  · obtain ⟨_, _, ⟨_, rfl, _⟩, _⟩ := h; rfl
  · obtain ⟨os, h, ⟨v, rfl, ⟨a, vs, rfl, ha, hP⟩, hne, ho, hol⟩, k, q⟩ := h
    refine ⟨_, (pss_one (ps_ret (pe_ix (r := rIxL K) ix_list (pv 1) (pe_fn (has_l_draw T) (hr.mono (by decide)) (by rfl) (pa_cons (pv 0) (pa_cons (pe_callB (r := rLenS K) call_len_seq (by rfl) T.b_len (by decide +kernel) (pa_cons (pv 1) pa_nil)) pa_nil))) (fun _ _ => rfl)))), ?_⟩
    have hl := Paired.length hP
    have ho0 := List.length_pos_iff.mpr ho
    have na : a ≠ h.1 := fun z => hne (by rw [z])
    refine s_retR (h := h) (P := fun v H => ∃ o ∈ os, TupI H v o) (er_op (Pa := fun x _ => x = .ref a) (Pb := fun x y H2 => x = .ref a ∧ ∃ d, y = .int d ∧ 0 ≤ d ∧ d < (vs.length : Int) ∧ H2 a = some (.lst vs) ∧ Paired (TupI H2) vs os) (er_v (ev_var rfl) k) (fun x H1 a1 k1 ex => (er_draw (many := (vs.length : Int)) (ea_cons (ev_var rfl) (ea_cons (ev_lenL (a1 _ _ na ha) (ev_var rfl)) ea_nil)) k1 ⟨by omega, by omega⟩).imp fun y H2 a2 k2 ⟨d, ey, h0, h1⟩ => ⟨ex, d, ey, h0, h1, a2 _ _ na (a1 _ _ na ha), paired_imp (fun _ _ q => TupI.tex (HX.tex (a1.trans a2) k) q) hP⟩) fun x y H2 k2 ⟨ex, d, ey, h0, h1, h2, hP2⟩ Q' q' => ?_) fun v H1 a1 k1 hv => q _ _ a1 k1 hv
    have hdl : d.toNat < vs.length := by omega
    have hg := List.getElem?_eq_getElem hdl
    have at' := atI_nat (xs := vs) (j := d.toNat) hg
    rw [Int.toNat_of_nonneg h0] at at'
    obtain ⟨o, hoo, ht⟩ := paired_get' hP2 hg
    exact ⟨a, vs, d, _, ex, ey, sq_of h2, at', q' _ H2 (Ex.refl H2) ⟨o, List.mem_of_getElem? hoo, ht⟩⟩
theorem er_one {h : Addr × Addr} {σ : L2.St} {H : Hp} {E : XK} {ta : TA} {many : Int} (e : ∀ H1, EvA ta σ H1 [.ref h.1, .int many]) (k : HandOk H h) (hm : 0 < many ∧ many ≤ 1000) : ER h (tOp (rI0 fun i j => .int (i + j)) (tC (.int 1)) (tCall sp_l_draw [] E ta)) σ H (fun v _ => ∃ d, v = .int d ∧ 1 ≤ d ∧ d ≤ many) :=
  er_i0 (pa := fun i => i = 1) (pb := fun d => 0 ≤ d ∧ d < many) (er_int ev_c k) (fun H1 a1 k1 => er_draw (e H1) k1 hm) fun i j hi hj H => ⟨_, rfl, by omega, by omega⟩
abbrev sp_l_steps_small : Sp := hsp (fun (most : Int) h vs _ => vs = [.ref h.1, .int most, .int 3] ∧ 1 ≤ most ∧ most ≤ 3) (fun _ v H => ∃ fs, StepsAt H v fs ∧ GoodL fs)
theorem has_l_steps_small (T : Tops K mg C) : Has P w K mg base 3 "_law_steps_small" ["_law_hand_here", "_law_most", "_law_top"] sp_l_steps_small := by
  refine T.d_l_steps_small.has sc_l_steps_small (fun vs H Q E h => ?_) (fun f cdv A outer s H vs Q E hr h => ?_)
  · obtain ⟨_, _, ⟨rfl, _⟩, _⟩ := h; rfl
  · obtain ⟨most, h, ⟨rfl, hm1, hm3⟩, k, q⟩ := h
    refine ⟨_, (pss_cons (ps_set (i := 3) sc_l_steps_small.nd rfl (.inl rfl) (pe_lst pa_nil))
      (pss_cons (ps_for PassesOwn.never rfl (pi_range1 (by rfl) T.b_range (pa_cons (pe_op op_add pe_int (pe_fn (has_l_draw T) (hr.mono (by decide)) (by rfl) (pa_cons (pv 0) (pa_cons (pv 1) pa_nil)))) pa_nil)) (pg_name (i := 4) sc_l_steps_small.nd rfl (Or.inl rfl))
        (pss_cons (ps_set (i := 5) sc_l_steps_small.nd rfl (.inl rfl) (pe_ix (r := rIxL K) ix_list (pe_lst (pa_cons pe_int (pa_cons pe_int (pa_cons pe_int (pa_cons pe_int (pa_cons pe_int (pa_cons (pe_op op_add pe_int (pe_fn (has_l_draw T) (hr.mono (by decide)) (by rfl) (pa_cons (pv 0) (pa_cons pe_int pa_nil)))) pa_nil))))))) (pe_fn (has_l_draw T) (hr.mono (by decide)) (by rfl) (pa_cons (pv 0) (pa_cons pe_int pa_nil))) (fun _ _ => rfl)))
        (pss_one (ps_expr (pe_bm PySem.F.plainAttrs_list PySem.F.slot_list_append PySem.F.type_list_append mt_append (pv 3) (pa_cons (pe_fn (has_l_made T) (hr.mono (by decide)) (by rfl) (pa_cons (pe_op op_add pe_int (pe_fn (has_l_draw T) (hr.mono (by decide)) (by rfl) (pa_cons (pv 0) (pa_cons (pe_op op_mul (pv 2) (pv 5)) pa_nil)))) (pa_cons (pv 5) pa_nil))) pa_nil))))))
      (pss_cons (ps_set (i := 6) sc_l_steps_small.nd rfl (.inl rfl) (pe_lst pa_nil))
      (pss_cons (ps_while PassesOwn.never (pt_cmpR op_gt (pe_callB (r := rLenS K) call_len_seq (by rfl) T.b_len (by decide +kernel) (pa_cons (pv 3) pa_nil)) pe_int (nomark _))
        (pss_cons (ps_set (i := 7) sc_l_steps_small.nd rfl (.inl rfl) (pe_ix (r := rIxL K) ix_list (pv 3) pe_int (fun _ _ => rfl)))
        (pss_cons (ps_for PassesOwn.never rfl (pi_list (pv 3)) (pg_name (i := 8) sc_l_steps_small.nd rfl (Or.inl rfl))
          (pss_one (ps_if (pt_val (pe_fn (has_l_below T) (hr.mono (by decide)) (by rfl) (pa_cons (pv 8) (pa_cons (pv 7) pa_nil))))
            (pss_one (ps_set (i := 7) sc_l_steps_small.nd rfl (.inl rfl) (pv 8)))
            pss_nil)))
        (pss_cons (ps_expr (pe_bm PySem.F.plainAttrs_list PySem.F.slot_list_remove PySem.F.type_list_remove (mt_removeD hr.units) (pv 3) (pa_cons (pv 7) pa_nil)))
        (pss_one (ps_expr (pe_bm PySem.F.plainAttrs_list PySem.F.slot_list_append PySem.F.type_list_append mt_append (pv 6) (pa_cons (pv 7) pa_nil))))))))
      (pss_one (ps_ret (pe_callTy call_tuple_of (by rfl) T.b_tuple (by decide +kernel) (pa_cons (pv 6) pa_nil)))))))), ?_⟩
    refine q_asgL (xs := []) (el_lst ea_nil (by show 0 ≤ 100000; decide)) fun D3 H1 hD3 e1 h1 => ?_
    have k1 := k.ex e1
    obtain ⟨n31, n32⟩ := k.ne hD3
    refine q_forR (h := h) (Pj := fun j _ => 1 ≤ j ∧ j ≤ 3) ((era_cons (Pr := fun x r _ => r = [] ∧ ∃ d, x = V.int d ∧ 1 ≤ d ∧ d ≤ most) (er_one (many := most) (fun H1 => ea_cons (ev_var rfl) (ea_cons (ev_var rfl) ea_nil)) k1 ⟨by omega, by omega⟩) (fun x H2 a2 k2 hx => (era_nil k2).imp fun vs _ _ _ ev => ⟨ev, hx⟩)).imp fun vs H2 a2 k2 ⟨x, r, ev, er, d, ed, h1, h3⟩ => ⟨d, by rw [ev, er, ed], h1, by omega⟩) fun jn H2 a2 k2 ⟨hj1, hj3⟩ => ?_
    have h2 : H2 D3 = some (.lst []) := a2 _ _ n31 h1
    have x02 : HX h H H2 := (exs_of e1).trans a2
    refine q_forJ (S := fun a => a = h.1 ∨ a = D3) (ej_rng1 (ta := fun _ H Q => Q [.int jn] H) ea_const ⟨by omega, by omega⟩) fun H3 e3 => ?_
    have nT3 : ∀ a xs, (a = h.1 ∨ a = D3) → H3 a ≠ some (.tup xs) := fun a xs z hh => by
      rcases z with z | z
      · exact (k2.ex e3).tup a xs z hh
      · rw [z, e3 _ _ h2] at hh
        cases hh
    refine ⟨fun i σ' H' => ExS (fun a => a = h.1 ∨ a = D3) H3 H' ∧ HandOk H' h ∧ (∃ x4 x5, σ' = [some (.ref h.1), some (.int most), some (.int 3), some (.ref D3), x4, x5, none, none, none]) ∧ ∃ vs fl, H' D3 = some (.lst vs) ∧ Paired (FrAt H') vs fl ∧ fl.length = i ∧ ∀ f ∈ fl, Good f,
      ⟨ExS.refl _, k2.ex e3, ⟨_, _, rfl⟩, [], [], e3 _ _ h2, .nil, rfl, fun f hf => nomatch hf⟩, fun i σ' H' hh => hh.1, ?_, ?_⟩
    · rintro i x σ' H4 H5 hi ⟨x3, k4, ⟨x4, x5, rfl⟩, vs, fl, hv, hp, hfl, hG⟩ e5 rfl
      refine eg_name _ ?_
      have k5 := k4.ex e5
      have hp5 := paired_imp (fun _ _ q => FrAt.ex (tex_of e5) q) hp
      refine q_asgR (h := h) (P := fun v _ => ∃ b, v = .int b ∧ 1 ≤ b ∧ b ≤ 12) (er_pick (vs := []) (many := 6) (P := fun v _ => ∃ b, v = .int b ∧ 1 ≤ b ∧ b ≤ 12) ((er_lst (Pa := fun vs _ => ∃ b, vs = [.int 1, .int 1, .int 1, .int 2, .int 3, .int b] ∧ 1 ≤ b ∧ b ≤ 12) ?_ (fun vs H1 ⟨b, ev, _⟩ => by rw [ev]; show 6 ≤ 100000; decide) (fun _ _ _ _ hh => hh)).imp fun v H6 a6 k6 ⟨p, xs, ev, hx, np, b, exs, hb⟩ => ⟨p, xs, ev, hx, np, by rw [exs]; rfl, fun z hz => ?_⟩) (fun H6 a6 k6 => er_draw (ea_cons (ev_var rfl) (ea_cons ev_c ea_nil)) k6 ⟨by decide, by decide⟩) (fun _ _ _ _ _ hh => hh)) fun v H6 a6 k6 ⟨bt, ev, hb1, hb2⟩ => ?_
      · refine (era_cons (Pr := fun x r _ => x = .int 1 ∧ ∃ b, r = [.int 1, .int 1, .int 2, .int 3, .int b] ∧ 1 ≤ b ∧ b ≤ 12) (er_v ev_c k5) fun x H6 a6 k6 ex => ((era_cons (Pr := fun x r _ => x = .int 1 ∧ ∃ b, r = [.int 1, .int 2, .int 3, .int b] ∧ 1 ≤ b ∧ b ≤ 12) (er_v ev_c k6) fun x H7 a7 k7 ex => ((era_cons (Pr := fun x r _ => x = .int 1 ∧ ∃ b, r = [.int 2, .int 3, .int b] ∧ 1 ≤ b ∧ b ≤ 12) (er_v ev_c k7) fun x H8 a8 k8 ex => ((era_cons (Pr := fun x r _ => x = .int 2 ∧ ∃ b, r = [.int 3, .int b] ∧ 1 ≤ b ∧ b ≤ 12) (er_v ev_c k8) fun x H9 a9 k9 ex => ((era_cons (Pr := fun x r _ => x = .int 3 ∧ ∃ b, r = [.int b] ∧ 1 ≤ b ∧ b ≤ 12) (er_v ev_c k9) fun x Ha aa ka ex => ((era_cons (Pa := fun v _ => ∃ b, v = V.int b ∧ 1 ≤ b ∧ b ≤ 12) (Pr := fun x r _ => r = [] ∧ ∃ b, x = .int b ∧ 1 ≤ b ∧ b ≤ 12) (er_one (many := 12) (fun H1 => ea_cons (ev_var rfl) (ea_cons ev_c ea_nil)) ka ⟨by decide, by decide⟩) fun x Hb ab kb hx => (era_nil kb).imp fun vs Hc _ _ hvs => ⟨hvs, hx⟩).imp fun vs Hc _ _ ⟨x, r, ev, er, b, eb, hb⟩ => ⟨ex, b, by rw [ev, er, eb], hb⟩)).imp fun vs Hc _ _ ⟨x, r, ev, ex', b, er, hb⟩ => ⟨ex, b, by rw [ev, ex', er], hb⟩)).imp fun vs Hc _ _ ⟨x, r, ev, ex', b, er, hb⟩ => ⟨ex, b, by rw [ev, ex', er], hb⟩)).imp fun vs Hc _ _ ⟨x, r, ev, ex', b, er, hb⟩ => ⟨ex, b, by rw [ev, ex', er], hb⟩)).imp fun vs Hc _ _ ⟨x, r, ev, ex', b, er, hb⟩ => ⟨ex, b, by rw [ev, ex', er], hb⟩)).imp fun vs Hc _ _ ⟨x, r, ev, ex', b, er, hb⟩ => ⟨b, by rw [ev, ex', er], hb⟩
      · rw [exs] at hz
        simp only [List.mem_cons, List.not_mem_nil, or_false] at hz
        rcases hz with hz | hz | hz | hz | hz | hz
        · exact ⟨1, hz, by decide, by decide⟩
        · exact ⟨1, hz, by decide, by decide⟩
        · exact ⟨1, hz, by decide, by decide⟩
        · exact ⟨2, hz, by decide, by decide⟩
        · exact ⟨3, hz, by decide, by decide⟩
        · exact ⟨b, hz, hb⟩
      · subst ev
        have hv6 : H6 D3 = some (.lst vs) := a6 _ _ n31 (e5 _ _ hv)
        have hvl := Paired.length hp
        refine s_appR (h := h) (P := fun v H' => ∃ f, FrAt H' v f ∧ Good f) hv6 n31 (ev_var rfl) (fun H7 e7 => er_call (Pa := fun vs _ => ∃ a, vs = [.int a, .int bt] ∧ 1 ≤ a ∧ a ≤ 36) ((era_cons (Pr := fun x r _ => r = [V.int bt] ∧ ∃ a, x = V.int a ∧ 1 ≤ a ∧ a ≤ 36) (Pa := fun v _ => ∃ a, v = V.int a ∧ 1 ≤ a ∧ a ≤ 36) ((er_i0 (pa := fun i => i = 1) (pb := fun d => 0 ≤ d ∧ d < 3 * bt) (Pz := fun v _ => ∃ a, v = .int a ∧ 1 ≤ a ∧ a ≤ 36) (er_int ev_c (k6.ex e7)) (fun H8 a8 k8 => er_draw (many := 3 * bt) (ea_cons (ev_var rfl) (ea_cons (ev_op (x := .int 3) (y := .int bt) (ev_var rfl) (ev_var rfl) (rv_I (.inl ⟨by decide, by decide⟩))) ea_nil)) k8 ⟨by omega, by omega⟩) fun i j hi hj H => ⟨_, rfl, by omega, by omega⟩)) fun x H8 a8 k8 hx => (era_pure (ea_cons (ev_var rfl) ea_nil) k8).imp fun vs H9 _ _ ev => ⟨ev, hx⟩).imp fun vs H8 _ _ ⟨x, r, ev, er, a, ea, ha⟩ => ⟨a, by rw [ev, er, ea], ha⟩) fun vs H8 a8 k8 ⟨a, ev, ha⟩ => ⟨(a, bt), ⟨ev, by omega, by omega, by omega⟩, fun v H9 e9 hv => ⟨lowest a bt, hv, low_good ha ⟨hb1, hb2⟩⟩⟩) (by omega) fun v H7 a7 k7 ⟨f, hf, hGf⟩ => ?_
        have hv7 := a7 _ _ n31 hv6
        have tn : TEx H7 (upd H7 D3 (.lst (vs ++ [v]))) := tex_lst hv7
        refine ⟨?_, k7.upd n31 n32, ⟨_, _, rfl⟩, vs ++ [v], fl ++ [f], upd_same, paired_snoc (paired_imp (fun _ _ q => (FrAt.ex (HX.tex (a6.trans a7) k5) q).ex tn) hp5) (hf.ex tn), by rw [List.length_append, hfl]; rfl, fun g hg => ?_⟩
        · exact (((x3.trans (exs_of e5)).trans ((a6.trans a7).wk fun a z => .inl z)).mut (.inr rfl))
        · rcases List.mem_append.mp hg with hh | hh
          · exact hG g hh
          · rw [List.mem_singleton] at hh
            rw [hh]
            exact hGf
    · rintro σ' H4 ⟨x3, k4, ⟨x4, x5, rfl⟩, vs0, fl0, hv0, hp0, hfl0, hG0⟩
      have x04 : HX h H H4 := fun a o n ha => (x3 a o (fun z => by
        rcases z with z | z
        · exact n z
        · rw [z, hD3] at ha
          cases ha) (e3 _ _ (x02 a o n ha)))
      refine q_asgL (xs := []) (el_lst ea_nil (by show 0 ≤ 100000; decide)) fun D6 H5 hD6 e5 h5 => ?_
      have k5 := k4.ex e5
      obtain ⟨n61, n62⟩ := k4.ne hD6
      have d36 : D3 ≠ D6 := fun z => by rw [← z, hv0] at hD6; cases hD6
      let S2 : Addr → Prop := fun a => a = D3 ∨ a = D6
      have nS1 : ¬ S2 h.1 := fun z => by
        rcases z with z | z
        · exact n31 z.symm
        · exact n61 z.symm
      have nS2 : ¬ S2 h.2 := fun z => by
        rcases z with z | z
        · exact n32 z.symm
        · exact n62 z.symm
      refine q_while (fun m σ' H' => ∃ (vs : List V) (fl : List (Int × Int)) (ov : List V) (ol : List (Int × Int)) (x7 x8 : Option V), σ' = [some (.ref h.1), some (.int most), some (.int 3), some (.ref D3), x4, x5, some (.ref D6), x7, x8] ∧ m = fl.length ∧ ExS S2 H5 H' ∧ H' D3 = some (.lst vs) ∧ Paired (FrAt H') vs fl ∧ H' D6 = some (.lst ov) ∧ Paired (FrAt H') ov ol ∧
        (∀ f ∈ fl, Good f) ∧ (∀ f ∈ ol, Good f) ∧ Sorted ol ∧ (∀ g, ol.getLast? = some g → ∀ f ∈ fl, leF g f) ∧ ol.length + fl.length = jn.toNat) fl0.length
        ⟨vs0, fl0, [], [], none, none, rfl, rfl, ExS.refl _, e5 _ _ hv0, paired_imp (fun _ _ q => FrAt.ex (tex_of e5) q) hp0, h5, .nil, hG0, (fun f hf => nomatch hf), (fun i f g hf => by simp at hf), (fun g hg => by simp at hg), by rw [hfl0]; simp⟩ ?_
      rintro m σ' H' ⟨vs, fl, ov, ol, x7, x8, rfl, rfl, ex, hv, hp, ho, hop, hG, hGo, hS, hle, hcnt⟩
      have hvl := Paired.length hp
      have hol := Paired.length hop
      refine ⟨decide (0 < (vs.length : Int)), et_test (ev_op (ev_lenL hv (ev_var rfl)) ev_c rv_I0), fun hb Ha ea => ?_, fun hb Ha ea => ?_⟩
      · have h0 : 0 < vs.length := by
          have := of_decide_eq_true hb
          omega
        obtain ⟨f0, hf0, hv0'⟩ := paired_get' hp (List.getElem?_eq_getElem h0)
        refine ⟨_, fun σ2 H2 hh => hh, ?_⟩
        refine q_asg (v := vs[0]) (ev_op (ev_var rfl) ev_c (rv_ixLl (j := 0) (ea _ _ hv) (List.getElem?_eq_getElem h0))) fun Hb eb => ?_
        have eab := ea.trans eb
        have hvb := eab _ _ hv
        refine q_forI (ei_list (ev_var rfl) (sq_of hvb)) fun Hc ec => ⟨fun j σ' H'' => Ex Hc H'' ∧ ∃ (lv : V) (lf : Int × Int) (x8 : Option V), σ' = [some (.ref h.1), some (.int most), some (.int 3), some (.ref D3), x4, x5, some (.ref D6), some lv, x8] ∧ FrAt H'' lv lf ∧ lf ∈ fl ∧ ∀ f ∈ fl.take j, leF lf f,
          ⟨Ex.refl _, vs[0], f0, x8, rfl, hv0'.ex (tex_of (eab.trans ec)), List.mem_of_getElem? hf0, fun f hf => by simp at hf⟩, fun j σ' H'' hh => hh.1, ?_, ?_⟩
        · rintro j x σ' Hd He hj ⟨exd, lv, lf, x8, rfl, hlv, hlf, hmin⟩ ee hx
          obtain ⟨f, hf, hfv⟩ := paired_get' hp hx
          have hfm := List.mem_of_getElem? hf
          have ae := ((eab.trans ec).trans exd).trans ee
          have g1 := hG f hfm
          have g2 := hG lf hlf
          refine eg_name _ ?_
          refine s_when (b := decide (f.1 * lf.2 < lf.1 * f.2)) (et_test (ev_l_below (f := f) (g := lf) (ea_cons (ev_var rfl) (ea_cons (ev_var rfl) ea_nil)) (hfv.ex (tex_of ae)) (hlv.ex (tex_of ee)) ⟨by have := g1.1; omega, by have := g1.2.1; omega⟩ ⟨by have := g2.1; omega, by have := g2.2.1; omega⟩)) (fun hb Hf ef => ?_) (fun hb Hf ef => ?_)
          · have hlt := of_decide_eq_true hb
            refine s_asg (ev_var rfl) fun Hg eg => ⟨((exd.trans ee).trans ef).trans eg, x, f, _, rfl, hfv.ex (tex_of ((ae.trans ef).trans eg)), hfm, fun y hy => ?_⟩
            rw [List.take_add_one, hf, Option.toList_some] at hy
            rcases List.mem_append.mp hy with hh | hh
            · have g3 := hG y (List.mem_of_mem_take hh)
              exact leF_trans (by have := g1.2.2.1; omega) (by have := g2.2.2.1; omega) (by have := g3.2.2.1; omega) (Int.le_of_lt hlt) (hmin y hh)
            · rw [List.mem_singleton] at hh
              rw [hh]
              exact Int.le_refl _
          · have hge := of_decide_eq_false hb
            refine ⟨(exd.trans ee).trans ef, lv, lf, _, rfl, hlv.ex (tex_of (ee.trans ef)), hlf, fun y hy => ?_⟩
            rw [List.take_add_one, hf, Option.toList_some] at hy
            rcases List.mem_append.mp hy with hh | hh
            · exact hmin y hh
            · rw [List.mem_singleton] at hh
              rw [hh]
              show lf.1 * f.2 ≤ f.1 * lf.2
              omega
        · rintro σ' Hd ⟨exd, lv, lf, x8, rfl, hlv, hlf, hmin⟩
          rw [hvl, List.take_of_length_le (Nat.le_refl _)] at hmin
          have ed := (eab.trans ec).trans exd
          have hvd := ed _ _ hv
          have hpd := paired_imp (fun _ _ q => FrAt.ex (tex_of ed) q) hp
          obtain ⟨j, hj1, hj2⟩ := first_at hlf
          refine s_rem (K := K) hvd hpd hlv hj1 hj2 (ev_var rfl) (ev_var rfl) fun He ee => ?_
          have tn : TEx He (upd He D3 (.lst (vs.eraseIdx j))) := tex_lst (ee _ _ hvd)
          have hoe : (upd He D3 (.lst (vs.eraseIdx j))) D6 = some (.lst ov) := by
            rw [upd_ne (Ne.symm d36)]
            exact (ed.trans ee) _ _ ho
          refine s_app hoe (ev_var rfl) (ev_var rfl) (by omega) fun Hf ef => ?_
          have tm : TEx Hf (upd Hf D6 (.lst (ov ++ [lv]))) := tex_lst (ef _ _ hoe)
          have tall : TEx Hd (upd Hf D6 (.lst (ov ++ [lv]))) := (((tex_of ee).trans tn).trans (tex_of ef)).trans tm
          have hjl : j < fl.length := (List.getElem?_eq_some_iff.mp hj1).1
          have hel : (fl.eraseIdx j).length = fl.length - 1 := List.length_eraseIdx_of_lt hjl
          have hsub : ∀ y ∈ fl.eraseIdx j, y ∈ fl := fun y hy => (List.eraseIdx_sublist fl j).subset hy
          refine ⟨fl.length - 1, by omega, vs.eraseIdx j, fl.eraseIdx j, ov ++ [lv], ol ++ [lf], _, _, rfl, hel.symm, (((((ex.trans (exs_of (ed.trans ee))).mut (.inl rfl)).trans (exs_of ef)).mut (.inr rfl))), ?_, paired_erase j (paired_imp (fun _ _ q => FrAt.ex tall q) hpd), upd_same, paired_snoc (paired_imp (fun _ _ q => (FrAt.ex (tex_of ed) q).ex tall) hop) (hlv.ex tall), (fun y hy => hG y (hsub y hy)), ?_, sorted_snoc hS (fun g hg => hle g hg lf hlf), ?_, ?_⟩
          · rw [upd_ne d36]
            exact ef _ _ upd_same
          · intro y hy
            rcases List.mem_append.mp hy with hh | hh
            · exact hGo y hh
            · rw [List.mem_singleton] at hh
              rw [hh]
              exact hG lf hlf
          · intro g hg y hy
            rw [List.getLast?_concat] at hg
            cases hg
            exact hmin y (hsub y hy)
          · rw [List.length_append, List.length_singleton, hel]
            omega
      · have hz : fl.length = 0 := by
          have := of_decide_eq_false hb
          omega
        refine s_retU (xs := ov) (eu_tupleV (ev_var rfl) (ea _ _ ho)) fun p Hb _ eb hpb => q _ _ ?_ ?_ ⟨ol, ⟨p, ov, rfl, hpb, paired_imp (fun _ _ q => FrAt.ex (tex_of (ea.trans eb)) q) hop⟩, hGo, by omega, by omega, hS⟩
        · have x5a : ExS (fun a => S2 a ∨ H5 a = none) H5 Hb := (ex.wk fun a z => .inl z).trans (exs_of (ea.trans eb))
          exact fun a o n ha => by
            have ha4 := x04 a o n ha
            have ha5 := e5 _ _ ha4
            refine x5a a o (fun z => ?_) ha5
            rcases z with (z | z) | z
            · rw [z, hD3] at ha
              cases ha
            · rw [z, hD6] at ha4
              cases ha4
            · rw [z] at ha5
              cases ha5
        · exact HandOk.exs k5 (ex.trans (exs_of (ea.trans eb))) nS1 nS2
end
end TW
namespace TW
open PySem PySem.Spec PyProof.Rows L2 Evl
def ERT (h : Addr × Addr) (tt : TT) (σ : L2.St) (H : Hp) : Prop := ∀ Q : Bool → Hp → Prop, (∀ b H', HX h H H' → HandOk H' h → Q b H') → tt σ H Q
theorem ints_of : ∀ {ys : List V} {p : Nat → Int → Prop}, (∀ i y, ys[i]? = some y → ∃ z, y = V.int z ∧ p i z) → ∃ zs : List Int, ys = vI zs ∧ ∀ (i : Nat) z, zs[i]? = some z → p i z
  | [], _, _ => ⟨[], rfl, fun i z h => by simp at h⟩
  | y :: ys, p, h => by
    obtain ⟨z, ez, hz⟩ := h 0 y rfl
    obtain ⟨zs, e, hzs⟩ := ints_of (ys := ys) (p := fun i => p (i + 1)) fun i y hy => h (i + 1) y hy
    refine ⟨z :: zs, by rw [ez, e]; rfl, fun i x hx => ?_⟩
    cases i with
    | zero =>
      cases Option.some.inj hx
      exact hz
    | succ i => exact hzs i x hx
section
variable {h : Addr × Addr} {K : PySem.W.Frag} {σ : L2.St} {H H' : Hp} {te tl ta' tb : TE} {ta tr : TA} {P P' : VP} {D : Ends} {tz : TS} {wi : TI} {g : TG} {n : Nat} {t u : TT}
theorem ert_pure {b : Bool} (e : EvT t σ H b) (k : HandOk H h) : ERT h t σ H := fun Q q => e H (Ex.refl H) _ fun H1 e1 => q b H1 (exs_of e1) (k.ex e1)
theorem ert_and (h1 : ERT h t σ H) (h2 : ∀ H1, HX h H H1 → HandOk H1 h → ERT h u σ H1) : ERT h (tAnd t u) σ H := fun Q q => h1 _ fun b H1 a1 k1 => by
  cases b with
  | true =>
    rw [if_pos rfl]
    exact h2 H1 a1 k1 Q fun b H2 a2 k2 => q b H2 (a1.trans a2) k2
  | false =>
    rw [if_neg Bool.false_ne_true]
    exact q false H1 a1 k1
theorem ert_test (e : ER h te σ H (fun v _ => ∃ b, v = .bl b)) : ERT h (tTest te) σ H := fun Q q => e _ fun v H1 a1 k1 ⟨b, ev⟩ => ⟨b, ev, q b H1 a1 k1⟩
theorem er_ifT (ht : ERT h t σ H) (h1 : ∀ H1, HX h H H1 → HandOk H1 h → ER h ta' σ H1 P) (h2 : ∀ H1, HX h H H1 → HandOk H1 h → ER h tb σ H1 P) : ER h (tIf t ta' tb) σ H P := fun Q q => ht _ fun b H1 a1 k1 => by
  cases b with
  | true =>
    rw [if_pos rfl]
    exact h1 H1 a1 k1 Q fun v H2 a2 k2 p => q v H2 (a1.trans a2) k2 p
  | false =>
    rw [if_neg Bool.false_ne_true]
    exact h2 H1 a1 k1 Q fun v H2 a2 k2 p => q v H2 (a1.trans a2) k2 p
theorem er_ifB {b : Bool} (ht : EvT t σ H b) (k : HandOk H h) (h1 : b = true → ∀ H1, HX h H H1 → HandOk H1 h → ER h ta' σ H1 P) (h2 : b = false → ∀ H1, HX h H H1 → HandOk H1 h → ER h tb σ H1 P) : ER h (tIf t ta' tb) σ H P := fun Q q => ht H (Ex.refl H) _ fun H1 e1 => by
  cases b with
  | true =>
    rw [if_pos rfl]
    exact h1 rfl H1 (exs_of e1) (k.ex e1) Q fun v H2 a2 k2 p => q v H2 ((exs_of e1).trans a2) k2 p
  | false =>
    rw [if_neg Bool.false_ne_true]
    exact h2 rfl H1 (exs_of e1) (k.ex e1) Q fun v H2 a2 k2 p => q v H2 ((exs_of e1).trans a2) k2 p
/-- an int that is drawn, equal to an int -/
theorem er_eq {p : Int → Prop} {j : Int} (e : ER h te σ H (fun v _ => ∃ i, v = .int i ∧ p i)) : ER h (tOp rEq te (tC (.int j))) σ H (fun v _ => ∃ b, v = .bl b) :=
  er_op (Pb := fun x y _ => ∃ i, x = .int i ∧ y = .int j) e (fun x H1 a k ⟨i, ex, _⟩ => (er_v ev_c k).imp fun y _ _ _ ey => ⟨i, ex, ey⟩) fun x y H2 k ⟨i, ex, ey⟩ Q q => ⟨by rw [ex, ey]; rfl, q _ H2 (Ex.refl H2) ⟨_, rfl⟩⟩
theorem er_lstC {xs : List V} {many : Int} (e : EvL te σ H xs) (k : HandOk H h) (hl : (xs.length : Int) = many) (hx : ∀ x ∈ xs, ∀ H1, P x H1) : ER h te σ H (fun v H' => ∃ p xs, v = .ref p ∧ H' p = some (.lst xs) ∧ p ≠ h.1 ∧ ((xs.length : Int) = many ∧ ∀ x ∈ xs, P x H')) := fun Q q =>
  e H (Ex.refl H) _ fun p H1 hp e1 h1 => q _ H1 (exs_of e1) (k.ex e1) ⟨p, xs, rfl, h1, (k.ne hp).1, hl, fun x hm => hx x hm H1⟩
theorem q_asgRT (e : ER h te σ H P) (k : ∀ v H1, HX h H H1 → HandOk H1 h → P v H1 → g v σ H1 (tz D)) : tSeq (tAsg te g) tz D σ H := e _ k
end
section
variable {P : Program} {w : World} {K : PySem.W.Frag} {mg : Str → Option Value} {base : Heap} {C : Addr} {mgX : Str → Option Value}
local macro_rules | `(tactic| walk_at "rv") => `(tactic| first
  | exact rv_I0
  | exact rv_eq rfl
  | exact rv_ne rfl
  | exact rv_isN
  | exact rv_notN
  | (apply rv_I; (try dsimp only); first | omega | assumption | exact ⟨by omega, by omega⟩ | exact Or.inl ⟨by omega, by omega⟩ | exact Or.inr ⟨by omega, by omega⟩)
  | (apply rv_ix0; assumption; rfl)
  | (apply rv_ix1; assumption; rfl)
  | (apply rv_ix2; assumption; rfl)
  | (apply rv_ix4; assumption; rfl))
local macro_rules | `(tactic| walk_at "ea") => `(tactic| first
  | exact ea_nil
  | (apply ea_cons; walk_at "ev"; walk_at "ea"))
local macro_rules | `(tactic| walk_at "ev") => `(tactic| first
  | exact ev_c
  | (apply ev_var; rfl)
  | (apply ev_op; walk_at "ev"; walk_at "ev"; walk_at "rv")
  | (apply ev_un; walk_at "ev"; exact ru_neg)
  | (apply ev_isiII; walk_at "ea")
  | (apply ev_isiIB; walk_at "ea")
  | (apply ev_isiTT; assumption; walk_at "ea")
  | (apply ev_lenT; assumption; walk_at "ev")
  | (apply ev_lenL; assumption; walk_at "ev")
  | (apply ev_andV; walk_at "ev"; intro _; walk_at "ev")
  | (apply ev_orV; walk_at "ev"; intro _; walk_at "ev")
  | (apply ev_notV; walk_at "ev")
  | (apply ev_chain; walk_at "ev"; walk_at "ev"; walk_at "ev"; walk_at "rv"; walk_at "rv")
  | (apply ev_abs; walk_at "ea")
  | (apply ev_int; walk_at "ea"))
local macro_rules | `(tactic| walk_at "et") => `(tactic| first
  | (apply et_test; walk_at "ev")
  | (apply et_B; walk_at "ev")
  | (apply et_not; walk_at "et")
  | (apply et_and; walk_at "et"; intro _; walk_at "et")
  | (apply et_or; walk_at "et"; intro _; walk_at "et"))

local macro_rules | `(tactic| walk_at "ev") => `(tactic| ((with_reducible apply ev_is_integer); walk_at "ea"))
local macro_rules | `(tactic| walk_at "ev") => `(tactic| ((with_reducible apply ev_is_between); walk_at "ea"))
local macro_rules | `(tactic| walk_at "ev") => `(tactic| ((with_reducible apply ev_divisor); walk_at "ea"))
local macro_rules | `(tactic| walk_at "ev") => `(tactic| ((with_reducible apply ev_is_width); walk_at "ea"))
abbrev sp_l_filling : Sp := hsp (fun (a : List Int × Int × Int) h vs H => ∃ wv, vs = [.ref h.1, wv, .int a.2.1, .int a.2.2] ∧ TupI H wv a.1 ∧ a.1.length ≤ 4 ∧ a.2.1 ≤ a.2.2 ∧ a.2.2 - a.2.1 ≤ 100) (fun a v H => ∃ fill, TupI H v fill ∧ FillOk a.1 fill)
theorem has_l_filling (T : Tops K mg C) : Has P w K mg base 2 "_law_filling" ["_law_hand_here", "_law_widths", "_law_least", "_law_most"] sp_l_filling := by
  refine T.d_l_filling.has sc_l_filling (fun vs H Q E h => ?_) (fun f cdv A outer s H vs Q E hr h => ?_)
  · obtain ⟨_, _, ⟨_, rfl, _⟩, _⟩ := h; rfl
  · obtain ⟨⟨ws, lo, hi_⟩, h, ⟨wv, rfl, ⟨wp, rfl, hw⟩, hl4, hlo, hd⟩, k, q⟩ := h
    refine ⟨_, (pss_one (ps_ret (pe_callTy call_tuple_of (by rfl) T.b_tuple (by decide +kernel) (pa_cons (pe_lc (own := [("_law_width", 4)]) rfl sc_l_filling.nd (pi_tup (pv 1)) (blkOk_by (own := [("_law_width", 4)]) (N := N_l_filling) (sc := defScope s_l_filling) (by decide +kernel)) (fun _ _ _ _ _ => (pg_name (i := 4) sc_l_filling.nd rfl (Or.inl rfl))) (fun _ _ _ _ _ => pts_nil) (fun _ _ _ _ _ => (pe_ifExp (pt_cmpR op_gt (pv 4) pe_int (nomark _)) (pe_op op_add (pv 2) (pe_fn (has_l_draw T) (hr.mono (by decide)) (by rfl) (pa_cons (pv 0) (pa_cons (pe_op op_add (pe_op op_sub (pv 3) (pv 2)) pe_int) pa_nil)))) pe_int))) pa_nil)))), ?_⟩
    simp only at hw hl4 hlo hd
    have nw : wp ≠ h.1 := fun z => k.tup wp _ z hw
    refine s_retR (h := h) (er_tuple (P := fun ys _ => ys.length = ws.length ∧ ∀ i y, ys[i]? = some y → ∃ z, y = V.int z ∧ (wd ws i = 0 → z = 0)) ((er_lc (fun i y => ∃ z, y = V.int z ∧ (wd ws i = 0 → z = 0)) k (ej_tup (ev_var rfl) hw nw) (by rw [List.length_map]; omega) fun i x H1 a1 k1 hi hx => ?_).imp fun v H1 _ _ ⟨p, ys, ev, hp, np, hl, hP⟩ => ⟨p, ys, ev, hp, by rw [hl, List.length_map], hP⟩) (fun _ _ _ _ hh => hh)) fun v H1 a1 k1 ⟨p, ys, ev, hp, hl, hP⟩ => ?_
    · rw [List.length_map] at hi
      rw [vI_get hi] at hx
      cases hx
      refine ⟨_, eg_name, rfl, er_ifB (b := decide (0 < wd ws i)) (et_test (ev_op (ev_var rfl) ev_c rv_I0)) k1 (fun hb H2 a2 k2 => ?_) fun hb H2 a2 k2 => (er_v ev_c k2).imp fun v _ _ _ ev => ⟨0, ev, fun _ => rfl⟩⟩
      have h0 := of_decide_eq_true hb
      exact er_i0 (pa := fun _ => True) (pb := fun _ => True) ((er_int (ev_var rfl) k2).imp fun v _ _ _ ⟨j, ev, _⟩ => ⟨j, ev, trivial⟩) (fun H3 a3 k3 => (er_draw (many := hi_ - lo + 1) (ea_cons (ev_var rfl) (ea_cons (ev_op (ev_op (ev_var rfl) (ev_var rfl) rv_I0) ev_c rv_I0) ea_nil)) k3 ⟨by omega, by omega⟩).imp fun v _ _ _ ⟨d, ev, _⟩ => ⟨d, ev, trivial⟩) fun i' j _ _ H => ⟨_, rfl, fun z => by omega⟩
    · obtain ⟨fill, e, hf⟩ := ints_of hP
      subst e
      rw [List.length_map] at hl
      refine q _ _ a1 k1 ⟨fill, ⟨p, ev, hp⟩, hl, fun i hi => ?_⟩
      by_cases hil : i < fill.length
      · exact hf i _ (wd_get hil) hi
      · unfold wd
        rw [List.getD_eq_getElem?_getD, List.getElem?_eq_none (by omega)]
        rfl
end
end TW
namespace TW
open PySem PySem.Spec PyProof.Rows L2 Evl
section
variable {P : Program} {w : World} {K : PySem.W.Frag} {mg : Str → Option Value} {base : Heap} {C : Addr} {mgX : Str → Option Value}
local macro_rules | `(tactic| walk_at "rv") => `(tactic| first
  | exact rv_I0
  | exact rv_eq rfl
  | exact rv_ne rfl
  | exact rv_isN
  | exact rv_notN
  | (apply rv_I; (try dsimp only); first | omega | assumption | exact ⟨by omega, by omega⟩ | exact Or.inl ⟨by omega, by omega⟩ | exact Or.inr ⟨by omega, by omega⟩)
  | (apply rv_ix0; assumption; rfl)
  | (apply rv_ix1; assumption; rfl)
  | (apply rv_ix2; assumption; rfl)
  | (apply rv_ix4; assumption; rfl))
local macro_rules | `(tactic| walk_at "ea") => `(tactic| first
  | exact ea_nil
  | (apply ea_cons; walk_at "ev"; walk_at "ea"))
local macro_rules | `(tactic| walk_at "ev") => `(tactic| first
  | exact ev_c
  | (apply ev_var; rfl)
  | (apply ev_op; walk_at "ev"; walk_at "ev"; walk_at "rv")
  | (apply ev_un; walk_at "ev"; exact ru_neg)
  | (apply ev_isiII; walk_at "ea")
  | (apply ev_isiIB; walk_at "ea")
  | (apply ev_isiTT; assumption; walk_at "ea")
  | (apply ev_lenT; assumption; walk_at "ev")
  | (apply ev_lenL; assumption; walk_at "ev")
  | (apply ev_andV; walk_at "ev"; intro _; walk_at "ev")
  | (apply ev_orV; walk_at "ev"; intro _; walk_at "ev")
  | (apply ev_notV; walk_at "ev")
  | (apply ev_chain; walk_at "ev"; walk_at "ev"; walk_at "ev"; walk_at "rv"; walk_at "rv")
  | (apply ev_abs; walk_at "ea")
  | (apply ev_int; walk_at "ea"))
local macro_rules | `(tactic| walk_at "et") => `(tactic| first
  | (apply et_test; walk_at "ev")
  | (apply et_B; walk_at "ev")
  | (apply et_not; walk_at "et")
  | (apply et_and; walk_at "et"; intro _; walk_at "et")
  | (apply et_or; walk_at "et"; intro _; walk_at "et"))

local macro_rules | `(tactic| walk_at "ev") => `(tactic| ((with_reducible apply ev_is_integer); walk_at "ea"))
local macro_rules | `(tactic| walk_at "ev") => `(tactic| ((with_reducible apply ev_is_between); walk_at "ea"))
local macro_rules | `(tactic| walk_at "ev") => `(tactic| ((with_reducible apply ev_divisor); walk_at "ea"))
local macro_rules | `(tactic| walk_at "ev") => `(tactic| ((with_reducible apply ev_is_width); walk_at "ea"))
def WPAt (H : Hp) (v : V) : Prop := ∃ p wv pq ws ps, v = .ref p ∧ H p = some (.tup [wv, pq]) ∧ TupI H wv ws ∧ PipesAt H pq ps ∧ WebOk ws ps
abbrev sp_l_web_parts : Sp := hsp (fun (a : Int × Int) h vs H => vs = [.ref h.1, .int 4, .int a.1, .int a.2, .int 3] ∧ 1 ≤ a.1 ∧ a.1 ≤ 3 ∧ 1 ≤ a.2 ∧ a.2 ≤ 3) (fun _ v H => WPAt H v)
theorem has_l_web_parts (T : Tops K mg C) : Has P w K mg base 4 "_law_web_parts" ["_law_hand_here", "_law_most_vessels", "_law_most_pipes", "_law_most_steps", "_law_top"] sp_l_web_parts := by
  refine T.d_l_web_parts.has sc_l_web_parts (fun vs H Q E h => ?_) (fun f cdv A outer s H vs Q E hr h => ?_)
  · obtain ⟨_, _, ⟨rfl, _⟩, _⟩ := h; rfl
  · obtain ⟨⟨mp, ms⟩, h, ⟨rfl, hp1, hp3, hs1, hs3⟩, k, q⟩ := h
    refine ⟨_, (pss_cons (ps_set (i := 5) sc_l_web_parts.nd rfl (.inl rfl) (pe_op op_add pe_int (pe_fn (has_l_draw T) (hr.mono (by decide)) (by rfl) (pa_cons (pv 0) (pa_cons (pv 1) pa_nil)))))
      (pss_cons (ps_set (i := 6) sc_l_web_parts.nd rfl (.inr rfl) (pe_cmpR op_eq (pe_fn (has_l_draw T) (hr.mono (by decide)) (by rfl) (pa_cons (pv 0) (pa_cons pe_int pa_nil))) pe_int (nomark _)))
      (pss_cons (ps_set (i := 8) sc_l_web_parts.nd rfl (.inl rfl) (pe_callTy call_tuple_of (by rfl) T.b_tuple (by decide +kernel) (pa_cons (pe_lc (own := [("_law_k", 7)]) rfl sc_l_web_parts.nd (pi_range1 (by rfl) T.b_range (pa_cons (pv 5) pa_nil)) (blkOk_by (own := [("_law_k", 7)]) (N := N_l_web_parts) (sc := defScope s_l_web_parts) (by decide +kernel)) (fun _ _ _ _ _ => (pg_name (i := 7) sc_l_web_parts.nd rfl (Or.inl rfl))) (fun _ _ _ _ _ => pts_nil) (fun _ _ _ _ _ => (pe_ifExp (PW.pt (pw_and (pt_val (pv 6)) (pw_and1 (pt_cmpR op_eq (pe_fn (has_l_draw T) (hr.mono (by decide)) (by rfl) (pa_cons (pv 0) (pa_cons pe_int pa_nil))) pe_int (nomark _))))) pe_int (pe_op op_add pe_int (pe_fn (has_l_draw T) (hr.mono (by decide)) (by rfl) (pa_cons (pv 0) (pa_cons pe_int pa_nil))))))) pa_nil)))
      (pss_cons (ps_set (i := 9) sc_l_web_parts.nd rfl (.inl rfl) (pe_lst pa_nil))
      (pss_cons (ps_for PassesOwn.never rfl (pi_range1 (by rfl) T.b_range (pa_cons (pe_ifExp (pt_cmpR op_gt (pv 5) pe_int (nomark _)) (pe_fn (has_l_draw T) (hr.mono (by decide)) (by rfl) (pa_cons (pv 0) (pa_cons (pe_op op_add (pv 2) pe_int) pa_nil))) pe_int) pa_nil)) (pg_name (i := 7) sc_l_web_parts.nd rfl (Or.inl rfl))
        (pss_cons (ps_set (i := 10) sc_l_web_parts.nd rfl (.inl rfl) (pe_fn (has_l_draw T) (hr.mono (by decide)) (by rfl) (pa_cons (pv 0) (pa_cons (pe_op op_sub (pv 5) pe_int) pa_nil))))
        (pss_cons (ps_set (i := 11) sc_l_web_parts.nd rfl (.inl rfl) (pe_op op_add (pe_op op_add (pv 10) pe_int) (pe_fn (has_l_draw T) (hr.mono (by decide)) (by rfl) (pa_cons (pv 0) (pa_cons (pe_op op_sub (pe_op op_sub (pv 5) pe_int) (pv 10)) pa_nil)))))
        (pss_one (ps_expr (pe_bm PySem.F.plainAttrs_list PySem.F.slot_list_append PySem.F.type_list_append mt_append (pv 9) (pa_cons (pe_tup (pa_cons (pv 10) (pa_cons (pv 11) (pa_cons (pe_fn (has_l_steps_small T) (hr.mono (by decide)) (by rfl) (pa_cons (pv 0) (pa_cons (pv 3) (pa_cons (pv 4) pa_nil)))) pa_nil)))) pa_nil)))))))
      (pss_one (ps_ret (pe_tup (pa_cons (pv 8) (pa_cons (pe_callTy call_tuple_of (by rfl) T.b_tuple (by decide +kernel) (pa_cons (pv 9) pa_nil)) pa_nil)))))))))), ?_⟩
    simp only at hp1 hp3 hs1 hs3
    refine q_asgR (h := h) (er_one (many := 4) (fun H1 => ea_cons (ev_var rfl) (ea_cons (ev_var rfl) ea_nil)) k ⟨by decide, by decide⟩) fun v H1 a1 k1 ⟨many, ev, hm1, hm4⟩ => ?_
    subst ev
    refine q_asgR (h := h) (er_eq (p := fun _ => True) ((er_draw (many := 3) (ea_cons (ev_var rfl) (ea_cons ev_c ea_nil)) k1 ⟨by decide, by decide⟩).imp fun v _ _ _ ⟨d, ev, _⟩ => ⟨d, ev, trivial⟩)) fun v H2 a2 k2 ⟨sea, ev⟩ => ?_
    subst ev
    refine q_asgR (h := h) (er_tuple (P := fun ys _ => ys.length = many.toNat ∧ ∀ i y, ys[i]? = some y → ∃ z, y = V.int z ∧ (0 ≤ z ∧ z ≤ 3)) ((er_lc (fun i y => ∃ z, y = V.int z ∧ (0 ≤ z ∧ z ≤ 3)) k2 (ej_rng1 (j := many) (ea_cons (ev_var rfl) ea_nil) ⟨by omega, by omega⟩) (by omega) fun i x H3 a3 k3 hi hx => ?_).imp fun v H3 _ _ ⟨p, ys, ev, hp, np, hl, hP⟩ => ⟨p, ys, ev, hp, hl, hP⟩) (fun _ _ _ _ hh => hh)) fun v H3 a3 k3 ⟨wp, ys, ev, hw, hyl, hyP⟩ => ?_
    · refine ⟨_, eg_name, rfl, er_ifT (ert_and (ert_pure (b := sea) (et_test (ev_var rfl)) k3) fun H4 a4 k4 => ert_test (er_eq (p := fun _ => True) ((er_draw (many := 3) (ea_cons (ev_var rfl) (ea_cons ev_c ea_nil)) k4 ⟨by decide, by decide⟩).imp fun v _ _ _ ⟨d, ev, _⟩ => ⟨d, ev, trivial⟩))) (fun H4 a4 k4 => (er_v ev_c k4).imp fun v _ _ _ ev => ⟨0, ev, by decide, by decide⟩) fun H4 a4 k4 => (er_one (many := 3) (fun H1 => ea_cons (ev_var rfl) (ea_cons ev_c ea_nil)) k4 ⟨by decide, by decide⟩).imp fun v _ _ _ ⟨d, ev, h1, h3⟩ => ⟨d, ev, by omega, by omega⟩⟩
    subst ev
    obtain ⟨ws, e, hws⟩ := ints_of hyP
    subst e
    rw [List.length_map] at hyl
    have nw : wp ≠ h.1 := fun z => k3.tup wp _ z hw
    refine q_asgL (xs := []) (el_lst ea_nil (by show 0 ≤ 100000; decide)) fun D9 H4 hD9 e4 h4 => ?_
    have k4 := k3.ex e4
    obtain ⟨n91, n92⟩ := k3.ne hD9
    have a04 : HX h H H4 := ((a1.trans a2).trans a3).trans (exs_of e4)
    have hw4 := e4 _ _ hw
    have nw9 : wp ≠ D9 := fun z => by rw [z, hD9] at hw; cases hw
    have nD9 : H D9 = none := by
      cases hh : H D9 with
      | none => rfl
      | some o =>
        have := ((a1.trans a2).trans a3) D9 o n91 hh
        rw [hD9] at this
        cases this
    refine q_forR (h := h) (Pj := fun j _ => 0 ≤ j ∧ j ≤ 3 ∧ (¬ 1 < many → j = 0)) ((era_cons (Pr := fun x r _ => r = [] ∧ ∃ j, x = V.int j ∧ 0 ≤ j ∧ j ≤ 3 ∧ (¬ 1 < many → j = 0)) (er_ifB (P := fun v _ => ∃ j, v = V.int j ∧ 0 ≤ j ∧ j ≤ 3 ∧ (¬ 1 < many → j = 0)) (b := decide (1 < many)) (et_test (ev_op (ev_var rfl) ev_c rv_I0)) k4 (fun hb H5 a5 k5 => (er_draw (many := mp + 1) (ea_cons (ev_var rfl) (ea_cons (ev_op (ev_var rfl) ev_c rv_I0) ea_nil)) k5 ⟨by omega, by omega⟩).imp fun v _ _ _ ⟨d, ev, h0, h1⟩ => ⟨d, ev, h0, by omega, fun z => absurd (of_decide_eq_true hb) z⟩) (fun hb H5 a5 k5 => (er_v ev_c k5).imp fun v _ _ _ ev => ⟨0, ev, by decide, by decide, fun _ => rfl⟩)) (fun x H5 a5 k5 hx => (era_nil k5).imp fun vs _ _ _ ev => ⟨ev, hx⟩)).imp fun vs H5 _ _ ⟨x, r, ev, er, j, ej, hj⟩ => ⟨j, by rw [ev, er, ej], hj⟩) fun jn H5 a5 k5 ⟨hj0, hj3, hjm⟩ => ?_
    have h5 : H5 D9 = some (.lst []) := a5 _ _ n91 h4
    have hw5 := a5 _ _ nw hw4
    refine q_forJ (S := fun a => a = h.1 ∨ a = D9) (ej_rng1 (ta := fun _ H Q => Q [.int jn] H) ea_const ⟨hj0, by omega⟩) fun H6 e6 => ?_
    have nT6 : ∀ a xs, (a = h.1 ∨ a = D9) → H6 a ≠ some (.tup xs) := fun a xs z hh => by
      rcases z with z | z
      · exact (k5.ex e6).tup a xs z hh
      · rw [z, e6 _ _ h5] at hh
        cases hh
    refine ⟨fun i σ' H' => ExS (fun a => a = h.1 ∨ a = D9) H6 H' ∧ HandOk H' h ∧ (∃ x7 x10 x11, σ' = [some (.ref h.1), some (.int 4), some (.int mp), some (.int ms), some (.int 3), some (.int many), some (.bl sea), x7, some (.ref wp), some (.ref D9), x10, x11]) ∧ ∃ vs ps, H' D9 = some (.lst vs) ∧ Paired (PipeAt H') vs ps ∧ ps.length = i ∧ ∀ p ∈ ps, PipeOk many.toNat p,
      ⟨ExS.refl _, k5.ex e6, ⟨_, _, _, rfl⟩, [], [], e6 _ _ h5, .nil, rfl, fun f hf => nomatch hf⟩, fun i σ' H' hh => hh.1, ?_, ?_⟩
    · rintro i x σ' H7 H8 hi ⟨x7, k7, ⟨y7, y10, y11, rfl⟩, vs, ps, hv, hp, hpl, hG⟩ e8 rfl
      have hmany : 1 < many := Classical.byContradiction fun z => by
        have := hjm z
        omega
      refine eg_name _ ?_
      have k8 := k7.ex e8
      refine q_asgR (h := h) (er_draw (many := many - 1) (ea_cons (ev_var rfl) (ea_cons (ev_op (ev_var rfl) ev_c rv_I0) ea_nil)) k8 ⟨by omega, by omega⟩) fun v H9 a9 k9 ⟨one, ev, ho0, ho1⟩ => ?_
      subst ev
      refine q_asgR (h := h) (P := fun v _ => ∃ t, v = .int t ∧ one < t ∧ t < many) (er_i0 (pa := fun i => i = one + 1) (pb := fun d => 0 ≤ d ∧ d < many - 1 - one) (er_int (ev_op (ev_var rfl) ev_c rv_I0) k9) (fun H10 a10 k10 => er_draw (many := many - 1 - one) (ea_cons (ev_var rfl) (ea_cons (ev_op (ev_op (ev_var rfl) ev_c rv_I0) (ev_var rfl) rv_I0) ea_nil)) k10 ⟨by omega, by omega⟩) fun i j hi hj H => ⟨_, rfl, by omega, by omega⟩) fun v H10 a10 k10 ⟨other, ev, ht0, ht1⟩ => ?_
      subst ev
      have a810 := a9.trans a10
      have hv10 : H10 D9 = some (.lst vs) := a810 _ _ n91 (e8 _ _ hv)
      have hp8 := paired_imp (fun _ _ q => PipeAt.tex (tex_of e8) q) hp
      have hvl := Paired.length hp
      refine s_appR (h := h) (P := fun v H' => ∃ p, PipeAt H' v p ∧ PipeOk many.toNat p) hv10 n91 (ev_var rfl) (fun H11 e11 => (er_tup (Pa := fun vs H' => ∃ sv fs, vs = [.int one, .int other, sv] ∧ StepsAt H' sv fs ∧ GoodL fs) ((era_cons (Pr := fun x r H' => x = .int one ∧ ∃ sv fs, r = [.int other, sv] ∧ StepsAt H' sv fs ∧ GoodL fs) (er_v (ev_var rfl) (k10.ex e11)) fun x H12 a12 k12 ex => ((era_cons (Pr := fun x r H' => x = .int other ∧ ∃ sv fs, r = [sv] ∧ StepsAt H' sv fs ∧ GoodL fs) (er_v (ev_var rfl) k12) fun x H13 a13 k13 ex => ((era_cons (Pa := fun v H' => ∃ fs, StepsAt H' v fs ∧ GoodL fs) (Pr := fun x r H' => r = [] ∧ ∃ fs, StepsAt H' x fs ∧ GoodL fs) (er_callH (Pa := fun us _ => us = [.ref h.1, .int ms, .int 3]) (era_pure (ea_cons (ev_var rfl) (ea_cons (ev_var rfl) (ea_cons (ev_var rfl) ea_nil))) k13) fun vs H14 a14 k14 ev => ⟨ms, ⟨ev, by omega, by omega⟩, fun v H15 a15 k15 hv => hv⟩) fun x H14 a14 k14 ⟨fs, hfs, hg⟩ => (era_nil k14).imp fun us H15 a15 k15 ev => ⟨ev, fs, hfs.ex (HX.tex a15 k14), hg⟩).imp fun us H14 _ _ ⟨x, r, ev, er, fs, hfs⟩ => ⟨ex, x, fs, by rw [ev, er], hfs⟩)).imp fun us H13 _ _ ⟨x, r, ev, ex', sv, fs, er, hfs⟩ => ⟨ex, sv, fs, by rw [ev, ex', er], hfs⟩)).imp fun us H12 _ _ ⟨x, r, ev, ex', sv, fs, er, hfs⟩ => ⟨sv, fs, by rw [ev, ex', er], hfs⟩) (fun us H1 ⟨sv, fs, ev, _⟩ => by rw [ev]; show 3 ≤ 100000; decide) (fun us H1 H2 e ⟨sv, fs, ev, hs, hg⟩ => ⟨sv, fs, ev, hs.ex (tex_of e), hg⟩)).imp fun v H12 a12 k12 ⟨p, us, ev, hpp, sv, fs, eus, hs, hg⟩ => ⟨(one.toNat, other.toNat, fs), ⟨p, sv, ev, by
          rw [hpp, eus]
          simp only
          rw [Int.toNat_of_nonneg ho0, Int.toNat_of_nonneg (by omega)], hs⟩, by show one.toNat < other.toNat; omega, by show other.toNat < many.toNat; omega, hg⟩) (by omega) fun v H11 a11 k11 ⟨p, hpa, hpo⟩ => ?_
      have hv11 := a11 _ _ n91 hv10
      have tn : TEx H11 (upd H11 D9 (.lst (vs ++ [v]))) := tex_lst hv11
      refine ⟨(((x7.trans (exs_of e8)).trans ((a810.trans a11).wk fun a z => .inl z)).mut (.inr rfl)), k11.upd n91 n92, ⟨_, _, _, rfl⟩, vs ++ [v], ps ++ [p], upd_same, paired_snoc (paired_imp (fun _ _ q => (PipeAt.tex (HX.tex (a810.trans a11) k8) q).tex tn) hp8) (hpa.tex tn), by rw [List.length_append, hpl]; rfl, fun g hg => ?_⟩
      rcases List.mem_append.mp hg with hh | hh
      · exact hG g hh
      · rw [List.mem_singleton] at hh
        rw [hh]
        exact hpo
    · rintro σ' H7 ⟨x7, k7, ⟨y7, y10, y11, rfl⟩, vs, ps, hv, hp, hpl, hG⟩
      have hw7 : H7 wp = some (.tup (vI ws)) := x7 _ _ (fun z => by
        rcases z with z | z
        · exact nw z
        · exact nw9 z) (e6 _ _ hw5)
      refine p_ret (ep_n (en_tup (Pa := fun us H' => ∃ pt, us = [.ref wp, pt] ∧ PipesAt H' pt ps ∧ H' wp = some (.tup (vI ws))) ((eq_ev (x := .ref wp) (ev_var rfl) (eq_one (epU_of (eu_tupleV (K := K) (ev_var rfl) hv)))).imp fun us H8 e8 ⟨r, ev, x, er, p, ex, hpp⟩ => ⟨.ref p, by rw [ev, er, ex], ⟨p, vs, rfl, hpp, paired_imp (fun _ _ q => PipeAt.tex (tex_of e8) q) hp⟩, e8 _ _ hw7⟩) (fun us H1 ⟨pt, ev, _⟩ => by rw [ev]; show 2 ≤ 100000; decide) (fun us H1 H2 e ⟨pt, ev, hpt, hwp⟩ => ⟨pt, ev, hpt.tex (tex_of e), e _ _ hwp⟩))) fun v H8 e8 ⟨p, ev, us, hp8, pt, eus, hpt, hwp⟩ => q _ _ ?_ (k7.ex e8) ⟨p, .ref wp, pt, ws, ps, ev, by rw [hp8, eus], ⟨wp, rfl, hwp⟩, hpt, ?_⟩
      · have a57 : HX h H H5 := a04.trans a5
        exact fun a o n ha => e8 _ _ (x7 a o (fun z => by
          rcases z with z | z
          · exact n z
          · rw [z, nD9] at ha
            cases ha) (e6 _ _ (a57 a o n ha)))
      · refine ⟨⟨by omega, by omega⟩, fun z hz => ?_, by omega, fun p hp => by
          rw [hyl]
          exact hG p hp⟩
        obtain ⟨i, hi⟩ := List.mem_iff_getElem?.mp hz
        exact hws i z hi
end
end TW
namespace TW
open PySem PySem.Spec PyProof.Rows L2 Evl
/-! ### the small case that always is there -/
def ws0 : List Int := [1, 1]
def ps0 : List Pipe := [(0, 1, [(1, 1)])]
def fill0 : List Int := [3, 0]
theorem web0 : WebOk ws0 ps0 := by
  refine ⟨by decide, by decide, by decide, fun p hp => ?_⟩
  unfold ps0 at hp
  rw [List.mem_singleton] at hp
  subst hp
  refine ⟨by decide, by decide, fun f hf => ?_, by decide, by decide, fun i f g hf hg => ?_⟩
  · rw [List.mem_singleton] at hf
    subst hf
    exact ⟨by decide, by decide, by decide, by decide, by decide⟩
  · rw [List.getElem?_singleton, if_neg (by omega)] at hg
    cases hg
theorem fillok0 : FillOk ws0 fill0 := ⟨rfl, fun i hi => by
  match i with
  | 0 => exact absurd hi (by decide)
  | 1 => exact absurd hi (by decide)
  | i + 2 => rfl⟩
theorem closed0 : ∀ x ∈ ([[3, 0], [2, 1], [1, 2]] : List Fil), ∀ y ∈ nexts ws0 ps0 false x, y ∈ ([[3, 0], [2, 1], [1, 2]] : List Fil) := by decide +kernel
section
variable {P : Program} {w : World} {K : PySem.W.Frag} {mg : Str → Option Value} {base : Heap} {C : Addr} {mgX : Str → Option Value}
local macro_rules | `(tactic| walk_at "rv") => `(tactic| first
  | exact rv_I0
  | exact rv_eq rfl
  | exact rv_ne rfl
  | exact rv_isN
  | exact rv_notN
  | (apply rv_I; (try dsimp only); first | omega | assumption | exact ⟨by omega, by omega⟩ | exact Or.inl ⟨by omega, by omega⟩ | exact Or.inr ⟨by omega, by omega⟩)
  | (apply rv_ix0; assumption; rfl)
  | (apply rv_ix1; assumption; rfl)
  | (apply rv_ix2; assumption; rfl)
  | (apply rv_ix4; assumption; rfl))
local macro_rules | `(tactic| walk_at "ea") => `(tactic| first
  | exact ea_nil
  | (apply ea_cons; walk_at "ev"; walk_at "ea"))
local macro_rules | `(tactic| walk_at "ev") => `(tactic| first
  | exact ev_c
  | (apply ev_var; rfl)
  | (apply ev_op; walk_at "ev"; walk_at "ev"; walk_at "rv")
  | (apply ev_un; walk_at "ev"; exact ru_neg)
  | (apply ev_isiII; walk_at "ea")
  | (apply ev_isiIB; walk_at "ea")
  | (apply ev_isiTT; assumption; walk_at "ea")
  | (apply ev_lenT; assumption; walk_at "ev")
  | (apply ev_lenL; assumption; walk_at "ev")
  | (apply ev_andV; walk_at "ev"; intro _; walk_at "ev")
  | (apply ev_orV; walk_at "ev"; intro _; walk_at "ev")
  | (apply ev_notV; walk_at "ev")
  | (apply ev_chain; walk_at "ev"; walk_at "ev"; walk_at "ev"; walk_at "rv"; walk_at "rv")
  | (apply ev_abs; walk_at "ea")
  | (apply ev_int; walk_at "ea"))
local macro_rules | `(tactic| walk_at "et") => `(tactic| first
  | (apply et_test; walk_at "ev")
  | (apply et_B; walk_at "ev")
  | (apply et_not; walk_at "et")
  | (apply et_and; walk_at "et"; intro _; walk_at "et")
  | (apply et_or; walk_at "et"; intro _; walk_at "et"))

local macro_rules | `(tactic| walk_at "ev") => `(tactic| ((with_reducible apply ev_is_integer); walk_at "ea"))
local macro_rules | `(tactic| walk_at "ev") => `(tactic| ((with_reducible apply ev_is_between); walk_at "ea"))
local macro_rules | `(tactic| walk_at "ev") => `(tactic| ((with_reducible apply ev_divisor); walk_at "ea"))
local macro_rules | `(tactic| walk_at "ev") => `(tactic| ((with_reducible apply ev_is_width); walk_at "ea"))
def SCAt (H : Hp) (v : V) : Prop := ∃ (p c : Addr) (wv pq fv : V) (ws : List Int) (ps : List Pipe) (fill : List Int) (keys : List Fil), v = .ref p ∧ H p = some (.tup [wv, pq, fv, .ref c]) ∧ PreL (ws, ps, fill) wv pq fv H ∧ ComOk (nexts ws ps false) fill keys ∧ ComLAt H c keys (nexts ws ps false)
abbrev sp_l_small_case : Sp := hsp (fun (_ : Unit) h vs H => vs = [.ref h.1, .int 60]) (fun _ v H => SCAt H v)
theorem has_l_small_case (T : Tops K mg C) : Has P w K mg base 5 "_law_small_case" ["_law_hand_here", "_law_most"] sp_l_small_case := by
  refine T.d_l_small_case.has sc_l_small_case (fun vs H Q E h => ?_) (fun f cdv A outer s H vs Q E hr h => ?_)
  · obtain ⟨_, _, rfl, _⟩ := h; rfl
  · obtain ⟨_, h, rfl, k, q⟩ := h
    refine ⟨_, (pss_cons (ps_for PassesOwn.never rfl (pi_range1 (by rfl) T.b_range (pa_cons pe_int pa_nil)) (pg_name (i := 2) sc_l_small_case.nd rfl (Or.inl rfl))
        (pss_cons (ps_asg (pe_fn (has_l_web_parts T) (hr.mono (by decide)) (by rfl) (pa_cons (pv 0) (pa_cons pe_int (pa_cons (pe_ix (r := rIxL K) ix_list (pe_lst (pa_cons pe_int (pa_cons pe_int (pa_cons pe_int (pa_cons pe_int pa_nil))))) (pe_fn (has_l_draw T) (hr.mono (by decide)) (by rfl) (pa_cons (pv 0) (pa_cons pe_int pa_nil))) (fun _ _ => rfl)) (pa_cons (pe_ix (r := rIxL K) ix_list (pe_lst (pa_cons pe_int (pa_cons pe_int (pa_cons pe_int pa_nil)))) (pe_fn (has_l_draw T) (hr.mono (by decide)) (by rfl) (pa_cons (pv 0) (pa_cons pe_int pa_nil))) (fun _ _ => rfl)) (pa_cons pe_int pa_nil)))))) (pg_tupK (n := 2) rfl rfl (pgs_cons (pg_name (i := 3) sc_l_small_case.nd rfl (Or.inl rfl)) (pgs_cons (pg_name (i := 4) sc_l_small_case.nd rfl (Or.inl rfl)) pgs_nil))))
        (pss_cons (ps_set (i := 5) sc_l_small_case.nd rfl (.inl rfl) (pe_fn (has_l_filling T) (hr.mono (by decide)) (by rfl) (pa_cons (pv 0) (pa_cons (pv 3) (pa_cons (pe_ix (r := rIxL K) ix_list (pe_lst (pa_cons (pe_un un_neg pe_int) (pa_cons pe_int (pa_cons (pe_un un_neg pe_int) pa_nil)))) (pe_fn (has_l_draw T) (hr.mono (by decide)) (by rfl) (pa_cons (pv 0) (pa_cons pe_int pa_nil))) (fun _ _ => rfl)) (pa_cons (pe_ix (r := rIxL K) ix_list (pe_lst (pa_cons pe_int (pa_cons pe_int (pa_cons pe_int pa_nil)))) (pe_fn (has_l_draw T) (hr.mono (by decide)) (by rfl) (pa_cons (pv 0) (pa_cons pe_int pa_nil))) (fun _ _ => rfl)) pa_nil))))))
        (pss_cons (ps_set (i := 6) sc_l_small_case.nd rfl (.inl rfl) (pe_fn (has_l_comings T) (hr.mono (by decide)) (by rfl) (pa_cons (pv 3) (pa_cons (pv 4) (pa_cons (pv 5) (pa_cons (pv 1) (pa_cons pe_bl pa_nil)))))))
        (pss_one (ps_if (pt_cmpR op_notN (pv 6) pe_non (nomark _))
          (pss_one (ps_ret (pe_tup (pa_cons (pv 3) (pa_cons (pv 4) (pa_cons (pv 5) (pa_cons (pv 6) pa_nil)))))))
          pss_nil))))))
      (pss_cons (ps_asg (pe_tup (pa_cons (pe_tup (pa_cons pe_int (pa_cons pe_int pa_nil))) (pa_cons (pe_tup (pa_cons (pe_tup (pa_cons pe_int (pa_cons pe_int (pa_cons (pe_tup (pa_cons (pe_tup (pa_cons pe_int (pa_cons pe_int pa_nil))) pa_nil)) pa_nil)))) pa_nil)) (pa_cons (pe_tup (pa_cons pe_int (pa_cons pe_int pa_nil))) pa_nil)))) (pg_tupK (n := 3) rfl rfl (pgs_cons (pg_name (i := 3) sc_l_small_case.nd rfl (Or.inl rfl)) (pgs_cons (pg_name (i := 4) sc_l_small_case.nd rfl (Or.inl rfl)) (pgs_cons (pg_name (i := 5) sc_l_small_case.nd rfl (Or.inl rfl)) pgs_nil)))))
      (pss_one (ps_ret (pe_tup (pa_cons (pv 3) (pa_cons (pv 4) (pa_cons (pv 5) (pa_cons (pe_fn (has_l_comings T) (hr.mono (by decide)) (by rfl) (pa_cons (pv 3) (pa_cons (pv 4) (pa_cons (pv 5) (pa_cons (pv 1) (pa_cons pe_bl pa_nil)))))) pa_nil))))))))), ?_⟩
    refine q_forJ (S := (· = h.1)) (ej_rng1 (j := 4) (ea_cons ev_c ea_nil) ⟨by decide, by decide⟩) fun H1 e1 => ?_
    have k1 := k.ex e1
    refine ⟨fun i σ' H' => HX h H1 H' ∧ HandOk H' h ∧ ∃ x2 x3 x4 x5 x6, σ' = [some (.ref h.1), some (.int 60), x2, x3, x4, x5, x6], ⟨ExS.refl _, k1, _, _, _, _, _, rfl⟩, fun i σ' H' hh => hh.1, ?_, ?_⟩
    · rintro i x σ' H2 H3 hi ⟨a2, k2, y2, y3, y4, y5, y6, rfl⟩ e3 rfl
      refine eg_name _ ?_
      have k3 := k2.ex e3
      refine q_asgRT (h := h) (P := fun v H' => WPAt H' v) (er_callH (Pa := fun us _ => ∃ mp ms : Int, us = [.ref h.1, .int 4, .int mp, .int ms, .int 3] ∧ 1 ≤ mp ∧ mp ≤ 3 ∧ 1 ≤ ms ∧ ms ≤ 3)
        ((era_cons (Pr := fun x r _ => x = .ref h.1 ∧ ∃ mp ms : Int, r = [.int 4, .int mp, .int ms, .int 3] ∧ 1 ≤ mp ∧ mp ≤ 3 ∧ 1 ≤ ms ∧ ms ≤ 3) (er_v (ev_var rfl) k3) fun x H4 a4 k4 ex => ((era_cons (Pr := fun x r _ => x = .int 4 ∧ ∃ mp ms : Int, r = [.int mp, .int ms, .int 3] ∧ 1 ≤ mp ∧ mp ≤ 3 ∧ 1 ≤ ms ∧ ms ≤ 3) (er_v ev_c k4) fun x H5 a5 k5 ex => ((era_cons (Pa := fun v _ => ∃ z, v = V.int z ∧ 1 ≤ z ∧ z ≤ 3) (Pr := fun x r _ => (∃ z, x = V.int z ∧ 1 ≤ z ∧ z ≤ 3) ∧ ∃ ms : Int, r = [.int ms, .int 3] ∧ 1 ≤ ms ∧ ms ≤ 3)
          (er_pick (vs := []) (many := 4) (P := fun v _ => ∃ z, v = V.int z ∧ 1 ≤ z ∧ z ≤ 3) (er_lstC (xs := [.int 1, .int 2, .int 3, .int 3]) (el_lst (ea_cons ev_c (ea_cons ev_c (ea_cons ev_c (ea_cons ev_c ea_nil)))) (by show 4 ≤ 100000; decide)) k5 rfl (fun z hz H => by
            simp only [List.mem_cons, List.not_mem_nil, or_false] at hz
            rcases hz with hz | hz | hz | hz
            · exact ⟨1, hz, by decide, by decide⟩
            · exact ⟨2, hz, by decide, by decide⟩
            · exact ⟨3, hz, by decide, by decide⟩
            · exact ⟨3, hz, by decide, by decide⟩)) (fun H6 a6 k6 => er_draw (ea_cons (ev_var rfl) (ea_cons ev_c ea_nil)) k6 ⟨by decide, by decide⟩) (fun _ _ _ _ _ hh => hh)) fun x H6 a6 k6 hx => ((era_cons (Pa := fun v _ => ∃ z, v = V.int z ∧ 1 ≤ z ∧ z ≤ 3) (Pr := fun x r _ => r = [V.int 3] ∧ (∃ z, x = V.int z ∧ 1 ≤ z ∧ z ≤ 3))
          (er_pick (vs := []) (many := 3) (P := fun v _ => ∃ z, v = V.int z ∧ 1 ≤ z ∧ z ≤ 3) (er_lstC (xs := [.int 1, .int 2, .int 3]) (el_lst (ea_cons ev_c (ea_cons ev_c (ea_cons ev_c ea_nil))) (by show 3 ≤ 100000; decide)) k6 rfl (fun z hz H => by
            simp only [List.mem_cons, List.not_mem_nil, or_false] at hz
            rcases hz with hz | hz | hz
            · exact ⟨1, hz, by decide, by decide⟩
            · exact ⟨2, hz, by decide, by decide⟩
            · exact ⟨3, hz, by decide, by decide⟩)) (fun H7 a7 k7 => er_draw (ea_cons (ev_var rfl) (ea_cons ev_c ea_nil)) k7 ⟨by decide, by decide⟩) (fun _ _ _ _ _ hh => hh)) fun x H7 a7 k7 hx2 => (era_pure (ea_cons ev_c ea_nil) k7).imp fun us H8 _ _ ev => ⟨ev, hx2⟩).imp fun us H7 _ _ ⟨x', r, ev, er, ms, em, hms⟩ => ⟨hx, ms, by rw [ev, er, em], hms⟩)).imp fun us H6 _ _ ⟨x', r, ev, ⟨mp, emp, hmp⟩, ms, er, hms⟩ => ⟨ex, mp, ms, by rw [ev, er, emp], hmp.1, hmp.2, hms⟩)).imp fun us H5 _ _ ⟨x', r, ev, ex', mp, ms, er, hh⟩ => ⟨ex, mp, ms, by rw [ev, er, ex'], hh⟩)).imp fun us H4 _ _ ⟨x', r, ev, ex', mp, ms, er, hh⟩ => ⟨mp, ms, by rw [ev, er, ex'], hh⟩)
        fun us H4 a4 k4 ⟨mp, ms, ev, hh⟩ => ⟨(mp, ms), ⟨ev, hh⟩, fun v H5 _ _ hv => hv⟩) fun v H4 a4 k4 ⟨p, wv, pq, ws, ps, ev, hp, hwv, hpq, hW⟩ => ?_
      subst ev
      refine eg_tup2 hp _ ?_
      have hl4 := hW.len
      refine q_asgR (h := h) (P := fun v H' => (∃ fill, TupI H' v fill ∧ FillOk ws fill) ∧ TupI H' wv ws ∧ PipesAt H' pq ps) (er_callH (Pa := fun us H' => (∃ lo hi : Int, us = [.ref h.1, wv, .int lo, .int hi] ∧ -3 ≤ lo ∧ lo ≤ 0 ∧ 2 ≤ hi ∧ hi ≤ 7) ∧ TupI H' wv ws ∧ PipesAt H' pq ps)
        ((era_cons (Pr := fun x r H' => x = .ref h.1 ∧ (∃ lo hi : Int, r = [wv, .int lo, .int hi] ∧ -3 ≤ lo ∧ lo ≤ 0 ∧ 2 ≤ hi ∧ hi ≤ 7) ∧ TupI H' wv ws ∧ PipesAt H' pq ps) (er_v (ev_var rfl) k4) fun x H5 a5 k5 ex => ((era_cons (Pr := fun x r H' => x = wv ∧ (∃ lo hi : Int, r = [.int lo, .int hi] ∧ -3 ≤ lo ∧ lo ≤ 0 ∧ 2 ≤ hi ∧ hi ≤ 7) ∧ TupI H' wv ws ∧ PipesAt H' pq ps) (er_v (ev_var rfl) k5) fun x H6 a6 k6 ex => ((era_cons (Pa := fun v _ => ∃ z, v = V.int z ∧ -3 ≤ z ∧ z ≤ 0) (Pr := fun x r H' => (∃ z, x = V.int z ∧ -3 ≤ z ∧ z ≤ 0) ∧ (∃ hi : Int, r = [.int hi] ∧ 2 ≤ hi ∧ hi ≤ 7) ∧ TupI H' wv ws ∧ PipesAt H' pq ps)
          (er_pick (vs := []) (many := 3) (P := fun v _ => ∃ z, v = V.int z ∧ -3 ≤ z ∧ z ≤ 0) (er_lstC (xs := [.int (-3), .int 0, .int (-1)]) (el_lst (ea_cons (ev_un ev_c ru_neg) (ea_cons ev_c (ea_cons (ev_un ev_c ru_neg) ea_nil))) (by show 3 ≤ 100000; decide)) k6 rfl (fun z hz H => by
            simp only [List.mem_cons, List.not_mem_nil, or_false] at hz
            rcases hz with hz | hz | hz
            · exact ⟨-3, hz, by decide, by decide⟩
            · exact ⟨0, hz, by decide, by decide⟩
            · exact ⟨-1, hz, by decide, by decide⟩)) (fun H7 a7 k7 => er_draw (ea_cons (ev_var rfl) (ea_cons ev_c ea_nil)) k7 ⟨by decide, by decide⟩) (fun _ _ _ _ _ hh => hh)) fun x H7 a7 k7 hx => ((era_cons (Pa := fun v _ => ∃ z, v = V.int z ∧ 2 ≤ z ∧ z ≤ 7) (Pr := fun x r H' => r = [] ∧ (∃ z, x = V.int z ∧ 2 ≤ z ∧ z ≤ 7) ∧ TupI H' wv ws ∧ PipesAt H' pq ps)
          (er_pick (vs := []) (many := 3) (P := fun v _ => ∃ z, v = V.int z ∧ 2 ≤ z ∧ z ≤ 7) (er_lstC (xs := [.int 2, .int 4, .int 7]) (el_lst (ea_cons ev_c (ea_cons ev_c (ea_cons ev_c ea_nil))) (by show 3 ≤ 100000; decide)) k7 rfl (fun z hz H => by
            simp only [List.mem_cons, List.not_mem_nil, or_false] at hz
            rcases hz with hz | hz | hz
            · exact ⟨2, hz, by decide, by decide⟩
            · exact ⟨4, hz, by decide, by decide⟩
            · exact ⟨7, hz, by decide, by decide⟩)) (fun H8 a8 k8 => er_draw (ea_cons (ev_var rfl) (ea_cons ev_c ea_nil)) k8 ⟨by decide, by decide⟩) (fun _ _ _ _ _ hh => hh)) fun x H8 a8 k8 hx2 => (era_nil k8).imp fun us H9 a9 k9 ev => by
            have t49 : TEx H4 H9 := HX.tex ((((a5.trans a6).trans a7).trans a8).trans a9) k4
            exact ⟨ev, hx2, hwv.tex t49, hpq.tex t49⟩).imp fun us H8 _ _ ⟨x', r, ev, er, ⟨z, ez, hz⟩, ht⟩ => ⟨hx, ⟨z, by rw [ev, er, ez], hz⟩, ht⟩)).imp fun us H7 _ _ ⟨x', r, ev, ⟨z, ez, hz⟩, ⟨z2, er, hz2⟩, ht⟩ => ⟨ex, ⟨z, z2, by rw [ev, er, ez], hz.1, hz.2, hz2⟩, ht⟩)).imp fun us H6 _ _ ⟨x', r, ev, ex', ⟨z, z2, er, hz⟩, ht⟩ => ⟨ex, ⟨z, z2, by rw [ev, er, ex'], hz⟩, ht⟩)).imp fun us H5 _ _ ⟨x', r, ev, ex', ⟨z, z2, er, hz⟩, ht⟩ => ⟨⟨z, z2, by rw [ev, er, ex'], hz⟩, ht⟩)
        fun us H5 a5 k5 ⟨⟨lo, hi, ev, h1, h2, h3, h4⟩, ht1, ht2⟩ => ⟨(ws, lo, hi), ⟨wv, ev, ht1, hl4.2, by show lo ≤ hi; omega, by show hi - lo ≤ 100; omega⟩, fun v H6 a6 k6 hv => ⟨hv, ht1.tex (HX.tex a6 k5), ht2.tex (HX.tex a6 k5)⟩⟩) fun fv H5 a5 k5 ⟨⟨fill, hfv, hF⟩, hwv5, hpq5⟩ => ?_
      have hPL : PreL (ws, ps, fill) wv pq fv H5 := ⟨hwv5, hpq5, hfv, hW, hF⟩
      refine p_asg (ep_l_comings (ws, ps, fill) (most := 60) (single := false) (ea_cons (ev_var rfl) (ea_cons (ev_var rfl) (ea_cons (ev_var rfl) (ea_cons (ev_var rfl) (ea_cons ev_c ea_nil))))) hPL (by decide)) fun cv H6 e6 hcv => ?_
      have a26 : HX h H1 H6 := (((a2.trans (exs_of e3)).trans a4).trans a5).trans (exs_of e6)
      have k6 := k5.ex e6
      rcases hcv with ⟨rfl, _⟩ | ⟨c, keys, rfl, hck, hckl, hcl⟩
      · refine s_when (b := false) (et_is (et_test (ev_op (ev_var rfl) ev_c rv_notN)) (by simp)) (fun z => nomatch z) fun _ H7 e7 => ⟨a26.trans (exs_of e7), k6.ex e7, _, _, _, _, _, rfl⟩
      · refine s_when (b := true) (et_is (et_test (ev_op (ev_var rfl) ev_c rv_notN)) (by simp)) (fun _ H7 e7 => ?_) (fun z => nomatch z)
        refine s_retU (xs := [wv, pq, fv, .ref c]) (eu_tup (ea_cons (ev_var rfl) (ea_cons (ev_var rfl) (ea_cons (ev_var rfl) (ea_cons (ev_var rfl) ea_nil)))) (by show 4 ≤ 100000; decide)) fun pp H8 _ e8 h8 => q _ _ ((exs_of e1).trans (a26.trans (exs_of (e7.trans e8)))) (k6.ex (e7.trans e8)) ⟨pp, c, wv, pq, fv, ws, ps, fill, keys, rfl, h8, hPL.ex ((e6.trans e7).trans e8), hck, hcl.ex (e7.trans e8)⟩
    · rintro σ' H2 ⟨a2, k2, y2, y3, y4, y5, y6, rfl⟩
      have epF : ∀ {σ : L2.St} {H3 : Hp}, EvP (tTup (tCons (tC (.int 1)) (tCons (tC (.int 1)) tNil))) σ H3 (fun v H' => FrAt H' v (1, 1)) := fun {σ H3} => (epU_of (eu_tup (vs := [.int 1, .int 1]) (ea_cons ev_c (ea_cons ev_c ea_nil)) (by show 2 ≤ 100000; decide))).imp fun v H4 e4 ⟨p, ev, hp⟩ => ⟨p, ev, hp⟩
      have epS : ∀ {σ : L2.St} {H3 : Hp}, EvP (tTup (tCons (tTup (tCons (tC (.int 1)) (tCons (tC (.int 1)) tNil))) tNil)) σ H3 (fun v H' => StepsAt H' v [(1, 1)]) := fun {σ H3} => (ep_n (en_tup (eq_one epF) (fun us H1 ⟨x, ev, _⟩ => by rw [ev]; show 1 ≤ 100000; decide) (fun us H1 H2 e ⟨x, ev, hx⟩ => ⟨x, ev, hx.ex (tex_of e)⟩))).imp fun v H4 e4 ⟨p, ev, us, hp, x, eus, hx⟩ => ⟨p, us, ev, hp, by rw [eus]; exact .cons hx .nil⟩
      have epP : ∀ {σ : L2.St} {H3 : Hp}, EvP (tTup (tCons (tC (.int 0)) (tCons (tC (.int 1)) (tCons (tTup (tCons (tTup (tCons (tC (.int 1)) (tCons (tC (.int 1)) tNil))) tNil)) tNil)))) σ H3 (fun v H' => PipeAt H' v (0, 1, [(1, 1)])) := fun {σ H3} => (ep_n (en_tup (eq_ev (x := .int 0) ev_c (eq_ev (x := .int 1) ev_c (eq_one epS))) (fun us H1 ⟨r, ev, r2, er, x, ex, _⟩ => by rw [ev, er, ex]; show 3 ≤ 100000; decide) (fun us H1 H2 e ⟨r, ev, r2, er, x, ex, hx⟩ => ⟨r, ev, r2, er, x, ex, hx.ex (tex_of e)⟩))).imp fun v H4 e4 ⟨p, ev, us, hp, r, eus, r2, er, x, ex, hx⟩ => ⟨p, x, ev, by rw [hp, eus, er, ex]; rfl, hx⟩
      have epPs : ∀ {σ : L2.St} {H3 : Hp}, EvP (tTup (tCons (tTup (tCons (tC (.int 0)) (tCons (tC (.int 1)) (tCons (tTup (tCons (tTup (tCons (tC (.int 1)) (tCons (tC (.int 1)) tNil))) tNil)) tNil)))) tNil)) σ H3 (fun v H' => PipesAt H' v ps0) := fun {σ H3} => (ep_n (en_tup (eq_one epP) (fun us H1 ⟨x, ev, _⟩ => by rw [ev]; show 1 ≤ 100000; decide) (fun us H1 H2 e ⟨x, ev, hx⟩ => ⟨x, ev, hx.tex (tex_of e)⟩))).imp fun v H4 e4 ⟨p, ev, us, hp, x, eus, hx⟩ => ⟨p, us, ev, hp, by rw [eus]; exact .cons hx .nil⟩
      have epQ : EvQ (tCons (tTup (tCons (tC (.int 1)) (tCons (tC (.int 1)) tNil))) (tCons (tTup (tCons (tTup (tCons (tC (.int 0)) (tCons (tC (.int 1)) (tCons (tTup (tCons (tTup (tCons (tC (.int 1)) (tCons (tC (.int 1)) tNil))) tNil)) tNil)))) tNil)) (tCons (tTup (tCons (tC (.int 3)) (tCons (tC (.int 0)) tNil))) tNil))) [some (.ref h.1), some (.int 60), y2, y3, y4, y5, y6] H2
          (fun us H' => ∃ a b c, us = [a, b, c] ∧ TupI H' a ws0 ∧ PipesAt H' b ps0 ∧ TupI H' c fill0) := (eq_cons (Pr := fun x r H' => TupI H' x ws0 ∧ ∃ b c, r = [b, c] ∧ PipesAt H' b ps0 ∧ TupI H' c fill0) (epT_of (ns := ws0) (eu_tup (ea_cons ev_c (ea_cons ev_c ea_nil)) (by show 2 ≤ 100000; decide))) fun x H3 e3 hx => ((eq_cons (Pr := fun x r H' => PipesAt H' x ps0 ∧ ∃ c, r = [c] ∧ TupI H' c fill0) epPs fun y H4 e4 hy => (eq_one (epT_of (ns := fill0) (eu_tup (ea_cons ev_c (ea_cons ev_c ea_nil)) (by show 2 ≤ 100000; decide)))).imp fun us H5 e5 ⟨c, ev, hc⟩ => ⟨hy.tex (tex_of e5), c, ev, hc⟩).imp fun us H4 e4 ⟨y, r, ev, hy, c, er, hc⟩ => ⟨hx.ex e4, y, c, by rw [ev, er], hy, hc⟩)).imp fun us H3 e3 ⟨x, r, ev, hx, b, c, er, hb, hc⟩ => ⟨x, b, c, by rw [ev, er], hx, hb, hc⟩
      refine q_asgRT (h := h) (er_pure (ep_n (en_tup epQ (fun us H1 ⟨a, b, c, ev, _⟩ => by rw [ev]; show 3 ≤ 100000; decide) (fun us H1 H4 e ⟨a, b, c, ev, h1, h2, h3⟩ => ⟨a, b, c, ev, h1.ex e, h2.tex (tex_of e), h3.ex e⟩))) k2) fun v H3 a3 k3 ⟨pt, ev, us, hpt, wv, pq, fv, eus, hwv, hpq, hfv⟩ => ?_
      subst ev
      rw [eus] at hpt
      refine eg_tup3 hpt _ ?_
      have hPL : PreL (ws0, ps0, fill0) wv pq fv H3 := ⟨hwv, hpq, hfv, web0, fillok0⟩
      have a03 : HX h H H3 := (exs_of e1).trans (a2.trans a3)
      refine p_ret (ep_n (en_tup (Pa := fun us H' => ∃ c keys, us = [wv, pq, fv, .ref c] ∧ ComOk (nexts ws0 ps0 false) fill0 keys ∧ ComLAt H' c keys (nexts ws0 ps0 false)) ((eq_ev (x := wv) (ev_var rfl) (eq_ev (x := pq) (ev_var rfl) (eq_ev (x := fv) (ev_var rfl) (eq_one (ep_l_comings (ws0, ps0, fill0) (most := 60) (single := false) (ea_cons (ev_var rfl) (ea_cons (ev_var rfl) (ea_cons (ev_var rfl) (ea_cons (ev_var rfl) (ea_cons ev_c ea_nil))))) hPL (by decide)))))).imp fun us H4 e4 ⟨r, ev1, r2, er, r3, er2, x, ex, hx⟩ => ?_) (fun us H1 ⟨c, keys, ev, _⟩ => by rw [ev]; show 4 ≤ 100000; decide) (fun us H1 H2 e ⟨c, keys, ev, h1, h2⟩ => ⟨c, keys, ev, h1, h2.ex e⟩))) fun v H4 e4 ⟨p, ev, us, hp, c, keys, eus, hck, hcl⟩ => q _ _ (a03.trans (exs_of e4)) (k3.ex e4) ⟨p, c, wv, pq, fv, ws0, ps0, fill0, keys, ev, by rw [hp, eus], hPL.ex e4, hck, hcl⟩
      rcases hx with ⟨_, hR⟩ | ⟨c, keys, ec, hck, hckl, hcl⟩
      · exact absurd (hR [[3, 0], [2, 1], [1, 2]] ⟨by decide, closed0⟩) (by decide)
      · exact ⟨c, keys, by rw [ev1, er, er2, ex, ec], hck, hcl⟩
end
end TW
namespace TW
open PySem PySem.Spec PyProof.Rows L2 Evl
/-! ### one tick, by any opening -/
theorem filter_subs (p : Int → Bool) : ∀ (ks : List Int) (acc : List (List Int)) (o : List Int), o ∈ acc → o ++ ks.filter p ∈ ks.foldl subsStep acc
  | [], acc, o, h => by simpa using h
  | k :: ks, acc, o, h => by
    rw [List.foldl_cons, List.filter_cons]
    by_cases hk : p k = true
    · rw [if_pos hk]
      have := filter_subs p ks (subsStep acc k) (o ++ [k]) (List.mem_append_right _ (List.mem_map.mpr ⟨o, h, rfl⟩))
      simpa using this
    · rw [if_neg hk]
      exact filter_subs p ks _ o (List.mem_append_left _ h)
theorem any_run {ns : List Int} {o : List Int} (h : anyRun (openedAt ns (some o)) = true) : ∃ i : Nat, i < ns.length ∧ (i : Int) ∈ o ∧ wd ns i ≠ 0 := by
  unfold anyRun openedAt at h
  rw [List.any_map, List.any_eq_true] at h
  obtain ⟨i, hi, h⟩ := h
  have h := of_decide_eq_true h
  dsimp only at h
  by_cases ho : (i : Int) ∈ o
  · rw [if_pos ho] at h
    exact ⟨i, List.mem_range.mp hi, ho, h⟩
  · rw [if_neg ho] at h
    exact absurd rfl h
theorem tick_ran {ws : List Int} {ps : List Pipe} {x : Fil} {o : List Int} (h : anyRun (openedAt (flowsAt ws ps x) (some o)) = true) : tickAt ws ps x (some o) ∈ nexts ws ps false x := by
  generalize hns : flowsAt ws ps x = ns at h
  have hs := filter_subs (fun k => decide (k ∈ o)) (nzs ns ns.length) [[]] [] (by simp)
  rw [List.nil_append] at hs
  obtain ⟨r, h1, h2, h3⟩ := subs_drop (nzs ns ns.length)
  have hne : (nzs ns ns.length).filter (fun k => decide (k ∈ o)) ≠ [] := by
    obtain ⟨i, hi, ho, hz⟩ := any_run h
    intro z
    rw [List.filter_eq_nil_iff] at z
    refine z (i : Int) ?_ (decide_eq_true ho)
    unfold nzs
    exact List.mem_map.mpr ⟨i, List.mem_filter.mpr ⟨List.mem_range.mpr hi, decide_eq_true hz⟩, rfl⟩
  have hr : (nzs ns ns.length).filter (fun k => decide (k ∈ o)) ∈ (subsOf (nzs ns ns.length)).drop 1 := by
    have hs' : (nzs ns ns.length).filter (fun k => decide (k ∈ o)) ∈ subsOf (nzs ns ns.length) := hs
    rw [h1] at hs' ⊢
    exact (List.mem_cons.mp hs').resolve_left hne
  refine mem_nexts.mpr ⟨(nzs ns ns.length).filter (fun k => decide (k ∈ o)), ?_, ?_⟩
  · unfold plots
    rw [hns, List.mem_filter]
    exact ⟨hr, by simp⟩
  · unfold tickAt
    rw [hns]
    congr 1
    unfold openedAt
    apply List.map_congr_left
    intro i hi
    have hi := List.mem_range.mp hi
    by_cases hz : wd ns i = 0
    · rw [hz]
      simp
    · have : (i : Int) ∈ (nzs ns ns.length).filter (fun k => decide (k ∈ o)) ↔ (i : Int) ∈ o := by
        rw [List.mem_filter]
        constructor
        · exact fun h => of_decide_eq_true h.2
        · refine fun h => ⟨?_, decide_eq_true h⟩
          unfold nzs
          exact List.mem_map.mpr ⟨i, List.mem_filter.mpr ⟨List.mem_range.mpr hi, decide_eq_true hz⟩, rfl⟩
      simp only [this]
theorem nets_zero : ∀ (xs : List (Pipe × Int)) (f : List Int), (∀ x ∈ xs, x.2 = 0) → (∀ i, wd f i = 0) → ∀ i, wd (xs.foldl netStep f) i = 0
  | [], _, _, h => h
  | x :: xs, f, hx, h => by
    refine nets_zero xs (netStep f x) (fun y hy => hx y (List.mem_cons_of_mem _ hy)) fun i => ?_
    unfold netStep
    rw [wd_add, wd_add, h, hx x List.mem_cons_self]
    split <;> split <;> rfl
theorem tick_still {ws : List Int} {ps : List Pipe} {x : Fil} {o : List Int} (hF : FillOk ws x) (h : anyRun (openedAt (flowsAt ws ps x) (some o)) = false) : tickAt ws ps x (some o) = x := by
  unfold tickAt
  generalize openedAt (flowsAt ws ps x) (some o) = ns at h
  have hz : ∀ n ∈ ns, n = 0 := fun n hn => by
    unfold anyRun at h
    rw [List.any_eq_false] at h
    have := h n hn
    simpa using this
  have hn : ∀ i, wd (netsAt ws.length ps ns) i = 0 := nets_zero _ _ (fun y hy => hz _ (List.of_mem_zip hy).2) fun i => by
    unfold wd
    rw [List.getD_eq_getElem?_getD, List.getElem?_replicate]
    split <;> rfl
  have e : (List.range ws.length).map (wd x) = x := by
    have := map_wd x
    rw [hF.len] at this
    exact this
  unfold movedAt
  conv => rhs; rw [← e]
  apply List.map_congr_left
  intro i _
  rw [hn i]
  split
  · rename_i hw
    rw [hF.dry i hw]
  · omega
/-! ### what stands while the hand is drawn from -/
theorem not_hand {H : Hp} {h : Addr × Addr} {l : Addr} {vs : List V} (k : HandOk H h) (hl : H l = some (.lst vs)) (hv : ∀ v ∈ vs, ∃ p, v = .ref p) : l ≠ h.1 := fun z => by
  obtain ⟨cs, i, m, r, n, a, _, _⟩ := k
  rw [z, a] at hl
  cases hl
  obtain ⟨p, e⟩ := hv (.int (i : Int)) (by simp)
  cases e
theorem not_hand' {H : Hp} {h : Addr × Addr} {l : Addr} {o : HO} (k : HandOk H h) (hl : H l = some o) (ho : ∀ vs, o ≠ .lst vs) : l ≠ h.1 := fun z => by
  obtain ⟨cs, i, m, r, n, a, _, _⟩ := k
  rw [z, a] at hl
  exact ho _ (Option.some.inj hl).symm
theorem paired_ref {α : Type} {F : V → α → Prop} (hF : ∀ v y, F v y → ∃ p, v = .ref p) {vs : List V} {ys : List α} (hp : Paired F vs ys) : ∀ v ∈ vs, ∃ p, v = .ref p := fun v hv => by
  obtain ⟨i, hi⟩ := List.mem_iff_getElem?.mp hv
  obtain ⟨y, _, h⟩ := paired_get' hp hi
  exact hF v y h
theorem WebAt.hx {C : Addr} {H H' : Hp} {h : Addr × Addr} {v : V} {ws : List Int} {ps : List Pipe} (k : HandOk H h) (e : HX h H H') (w : WebAt C H v ws ps) : WebAt C H' v ws ps := by
  obtain ⟨a, dx, wv, pv, gl, gs, rfl, h1, h2, h3, h4, h5⟩ := w
  have t := HX.tex e k
  exact ⟨a, dx, wv, pv, gl, gs, rfl, e _ _ (not_hand' k h1 (fun _ z => nomatch z)) h1, h2.tex t, h3.tex t, e _ _ (not_hand k h4 (paired_ref (fun v y ⟨a, u, ev, _⟩ => ⟨a, ev⟩) h5)) h4, paired_imp (fun _ _ q => q.tex t) h5⟩
theorem ComLAt.hx {H H' : Hp} {h : Addr × Addr} {p : Addr} {keys : List Fil} {sc : Fil → List Fil} (k : HandOk H h) (e : HX h H H') (c : ComLAt H p keys sc) : ComLAt H' p keys sc := by
  obtain ⟨kvs, h1, h2, h3⟩ := c
  refine ⟨kvs, e _ _ (not_hand' k h1 (fun _ z => nomatch z)) h1, h2, fun x hx => ?_⟩
  obtain ⟨l, vs, ss, a, b, c, d⟩ := h3 x hx
  exact ⟨l, vs, ss, a, e _ _ (not_hand k b (paired_ref (fun v y ⟨q, ev, _⟩ => ⟨q, ev⟩) c)) b, paired_imp (fun _ _ q => q.tex (HX.tex e k)) c, d⟩
section
variable {K : PySem.W.Frag} {σ : L2.St} {H H' : Hp} {ta tb te : TE} {g : TG}
theorem dp_tupI {ns : List Int} {v : V} (h : TupI H v ns) : Dp K H v (.tuple (ns.map PyData.int)) := by
  obtain ⟨p, rfl, h⟩ := h
  refine .tup (st_of h) ?_
  clear h
  induction ns with
  | nil => exact .nil
  | cons n r ih => exact .cons (.int n) ih
theorem lay_ints : ∀ ns : List Int, PyData.canLayAll0 (ns.map PyData.int) = true
  | [] => rfl
  | n :: r => by
    show ((PyData.int n).canLay0 && PyData.canLayAll0 (r.map PyData.int)) = true
    rw [lay_ints r]
    rfl
theorem depth_ints : ∀ ns : List Int, PyData.depthAll (ns.map PyData.int) = 0
  | [] => by simp [PyData.depthAll]
  | n :: r => by
    have h := depth_ints r
    simp [PyData.depthAll, PyData.depth] at *
    exact h
theorem shaped_ints (ns : List Int) : SeqAt.shaped (.tuple (ns.map PyData.int)) = true := by
  unfold SeqAt.shaped
  have h1 : (PyData.tuple (ns.map PyData.int)).canLay0 = true := by
    show PyData.canLayAll0 (ns.map PyData.int) = true
    exact lay_ints ns
  have h2 : (PyData.tuple (ns.map PyData.int)).depth ≤ 64 := by
    have := depth_ints ns
    simp only [PyData.depth]
    omega
  rw [h1, decide_eq_true h2]
  rfl
theorem eg_tup4 {i j k l : Nat} {p : Addr} {x y z u : V} (hp : H p = some (.tup [x, y, z, u])) : EvG (gTup K 4 (gCons (gName i) (gCons (gName j) (gCons (gName k) (gCons (gName l) gNil))))) (.ref p) σ H ((((σ.set i (some x)).set j (some y)).set k (some z)).set l (some u)) := fun _ q =>
  ⟨p, [x, y, z, u], rfl, st_of hp, rfl, x, [y, z, u], rfl, y, [z, u], rfl, z, [u], rfl, u, [], rfl, rfl, q⟩
/-- a != b of two tuples of the same ints -/
theorem et_neD {ns : List Int} {m : V} (ha : EvP ta σ H (fun v H1 => TupI H1 v ns)) (hb : Ev tb σ H m) (hm : TupI H m ns) : EvT (tTest (tOp (rNeD K) ta tb)) σ H false := fun H1 e Q q =>
  ha H1 e _ fun v H2 e2 hv => hb H2 (e.trans e2) _ fun H3 e3 => ⟨_, _, dp_tupI (hv.ex e3), dp_tupI (hm.ex ((e.trans e2).trans e3)), shaped_ints ns, shaped_ints ns, false, by
    rw [SeqAt.eqv_refl _ (SeqAt.canLay_of_shaped (shaped_ints ns))]
    rfl, q H3 (e2.trans e3)⟩
theorem kb_ni : kitB "NoneType" "bool" = some false := by decide +kernel
theorem told_isi {sc : Fil → List Fil} {x : Fil} {ta : TA} (ha : EvA ta σ H [toldV sc x, .ty "bool"]) : Ev (tCB (rIsi K) ta) σ H (.bl false) := by
  rcases Classical.em (∃ n, HT sc x n) with ⟨n, hn⟩ | hn
  · rw [told_some hn] at ha
    exact ev_isiIB ha
  · rw [told_none (fun n h => hn ⟨n, h⟩)] at ha
    exact ev_cb ha (rc_isi (fun _ _ => .base .non) kb_ni)
theorem told_scal (sc sc' : Fil → List Fil) (x x' : Fil) : scal (toldV sc x) (toldV sc' x') = true := by
  rcases Classical.em (∃ n, HT sc x n) with ⟨n, hn⟩ | hn <;> rcases Classical.em (∃ n, HT sc' x' n) with ⟨n', hn'⟩ | hn'
  · rw [told_some hn, told_some hn']; rfl
  · rw [told_some hn, told_none (fun n h => hn' ⟨n, h⟩)]; rfl
  · rw [told_none (fun n h => hn ⟨n, h⟩), told_some hn']; rfl
  · rw [told_none (fun n h => hn ⟨n, h⟩), told_none (fun n h => hn' ⟨n, h⟩)]; rfl
theorem told_scal0 (sc : Fil → List Fil) (x : Fil) : scal (toldV sc x) (.int 0) = true := by
  rcases Classical.em (∃ n, HT sc x n) with ⟨n, hn⟩ | hn
  · rw [told_some hn]; rfl
  · rw [told_none (fun n h => hn ⟨n, h⟩)]; rfl
/-- the same is told: not unlike -/
theorem et_same {sc : Fil → List Fil} {x : Fil} (ha : Ev ta σ H (toldV sc x)) (hb : Ev tb σ H (toldV sc x)) : EvT (tTest (tOp rNe ta tb)) σ H false :=
  et_is (et_test (ev_op ha hb (rv_ne (told_scal sc sc x x)))) (by simp)
/-- (endless is None) != (told is not None): never -/
theorem et_end {sc : Fil → List Fil} {x : Fil} (ha : EvP ta σ H (EndV sc x)) (hb : Ev tb σ H (toldV sc x)) : EvT (tTest (tOp rNe (tOp (fun x y H Q => y = .non ∧ Q (.bl (decide (x = .non))) H) ta (tC .non)) (tOp (fun x y H Q => y = .non ∧ Q (.bl (!decide (x = .non))) H) tb (tC .non)))) σ H false := by
  refine et_is (et_test (ev_op (x := .bl (!decide (toldV sc x = .non))) (ev_isNP ha fun v H1 hv => ?_) (ev_op hb ev_c rv_notN) (rv_ne rfl))) (by simp)
  rcases hv with ⟨⟨n, hn⟩, rfl⟩ | ⟨hn, q, rfl⟩
  · rw [told_some hn]
    simp
  · rw [told_none hn]
    simp
end
end TW
namespace TW
open PySem PySem.Spec PyProof.Rows L2 Evl
section
variable {P : Program} {w : World} {K : PySem.W.Frag} {mg : Str → Option Value} {base : Heap} {C : Addr} {mgX : Str → Option Value}
local macro_rules | `(tactic| walk_at "rv") => `(tactic| first
  | exact rv_I0
  | exact rv_eq rfl
  | exact rv_ne rfl
  | exact rv_isN
  | exact rv_notN
  | (apply rv_I; (try dsimp only); first | omega | assumption | exact ⟨by omega, by omega⟩ | exact Or.inl ⟨by omega, by omega⟩ | exact Or.inr ⟨by omega, by omega⟩)
  | (apply rv_ix0; assumption; rfl)
  | (apply rv_ix1; assumption; rfl)
  | (apply rv_ix2; assumption; rfl)
  | (apply rv_ix4; assumption; rfl))
local macro_rules | `(tactic| walk_at "ea") => `(tactic| first
  | exact ea_nil
  | (apply ea_cons; walk_at "ev"; walk_at "ea"))
local macro_rules | `(tactic| walk_at "ev") => `(tactic| first
  | exact ev_c
  | (apply ev_var; rfl)
  | (apply ev_op; walk_at "ev"; walk_at "ev"; walk_at "rv")
  | (apply ev_un; walk_at "ev"; exact ru_neg)
  | (apply ev_isiII; walk_at "ea")
  | (apply ev_isiIB; walk_at "ea")
  | (apply ev_isiTT; assumption; walk_at "ea")
  | (apply ev_lenT; assumption; walk_at "ev")
  | (apply ev_lenL; assumption; walk_at "ev")
  | (apply ev_andV; walk_at "ev"; intro _; walk_at "ev")
  | (apply ev_orV; walk_at "ev"; intro _; walk_at "ev")
  | (apply ev_notV; walk_at "ev")
  | (apply ev_chain; walk_at "ev"; walk_at "ev"; walk_at "ev"; walk_at "rv"; walk_at "rv")
  | (apply ev_abs; walk_at "ea")
  | (apply ev_int; walk_at "ea"))
local macro_rules | `(tactic| walk_at "et") => `(tactic| first
  | (apply et_test; walk_at "ev")
  | (apply et_B; walk_at "ev")
  | (apply et_not; walk_at "et")
  | (apply et_and; walk_at "et"; intro _; walk_at "et")
  | (apply et_or; walk_at "et"; intro _; walk_at "et"))

local macro_rules | `(tactic| walk_at "ev") => `(tactic| ((with_reducible apply ev_is_integer); walk_at "ea"))
local macro_rules | `(tactic| walk_at "ev") => `(tactic| ((with_reducible apply ev_is_between); walk_at "ea"))
local macro_rules | `(tactic| walk_at "ev") => `(tactic| ((with_reducible apply ev_divisor); walk_at "ea"))
local macro_rules | `(tactic| walk_at "ev") => `(tactic| ((with_reducible apply ev_is_width); walk_at "ea"))
def sp_law (K : PySem.W.Frag) : Sp := fun vs H Q _ => ∃ (a : Addr) (ns : List Int), vs = [.ref a] ∧ SqL K H a (ns.map V.int) ∧ ns.length ≤ 63 ∧ ∀ H', Q (.bl true) H'
theorem sub_closed {ws : List Int} {ps : List Pipe} {x y : Fil} {keys : List Fil} (h : ComOk (nexts ws ps false) x keys) (hy : y ∈ keys) (single : Bool) : ClosedR (nexts ws ps single) y keys :=
  ⟨hy, fun a ha b hb => h.clo a ha b (nexts_single hb), h.len⟩
theorem com_keys {sc : Fil → List Fil} {x : Fil} {keys : List Fil} (h : ComOk sc x keys) : KeysOk sc keys := ⟨h.nd, h.clo, h.len⟩
theorem preF_of {C : Addr} {ws : List Int} {ps : List Pipe} {fill : List Int} {webv wv pq fv : V} {H : Hp} (hw : WebAt C H webv ws ps) (hp : PreL (ws, ps, fill) wv pq fv H) : PreF C (ws, ps, fill) webv fv H := ⟨hw, hp.2.2.1, hp.2.2.2.1, hp.2.2.2.2⟩
theorem law_ok (T : Tops K mg C) {f : Addr} {fd : FuncData} (F : Fun K "law" "law" s_law f fd) : FnOk P w K mg base CX0 8 f fd ["_law_script"] (sp_law K) := by
  refine F.ok sc_law (fun vs H Q E h => ?_) (fun cdv A outer s H vs Q E hr h => ?_)
  · obtain ⟨_, _, rfl, _⟩ := h; rfl
  · obtain ⟨a, ns, rfl, ha, hns, q⟩ := h
    refine ⟨_, (pss_cons (ps_set (i := 1) sc_law.nd rfl (.inl rfl) (pe_fn (has_l_hand T) (hr.mono (by decide)) (by rfl) (pa_cons (pv 0) pa_nil)))
      (pss_cons (ps_for PassesOwn.never rfl (pi_range1 (by rfl) T.b_range (pa_cons pe_int pa_nil)) (pg_name (i := 2) sc_law.nd rfl (Or.inl rfl))
        (pss_cons (ps_asg (pe_fn (has_l_small_case T) (hr.mono (by decide)) (by rfl) (pa_cons (pv 1) (pa_cons pe_int pa_nil))) (pg_tupK (n := 4) rfl rfl (pgs_cons (pg_name (i := 3) sc_law.nd rfl (Or.inl rfl)) (pgs_cons (pg_name (i := 4) sc_law.nd rfl (Or.inl rfl)) (pgs_cons (pg_name (i := 5) sc_law.nd rfl (Or.inl rfl)) (pgs_cons (pg_name (i := 6) sc_law.nd rfl (Or.inl rfl)) pgs_nil))))))
        (pss_cons (ps_set (i := 7) sc_law.nd rfl (.inl rfl) (pe_web T (hr.mono (by decide)) (by rfl) (pa_cons (pv 3) (pa_cons (pv 4) pa_nil))))
        (pss_cons (ps_set (i := 8) sc_law.nd rfl (.inl rfl) (pe_fn (has_l_longest T) (hr.mono (by decide)) (by rfl) (pa_cons (pv 6) (pa_cons (pv 5) pa_nil))))
        (pss_cons (ps_set (i := 9) sc_law.nd rfl (.inl rfl) (pe_fn (has_longest_play T) (hr.mono (by decide)) (by rfl) (pa_cons (pv 7) (pa_cons (pv 5) pa_nil))))
        (pss_cons (ps_if (PW.pt (pw_or (pt_cmpR op_ne (pv 9) (pv 8) (nomark _)) (pw_or (pt_val (pe_callB call_isi (by rfl) T.b_isinstance (by decide +kernel) (pa_cons (pv 9) (pa_cons (pe_bltn (v := .ty "bool") (by rfl) T.b_bool (by decide +kernel) rfl) pa_nil)))) (pw_or1 (pt_cmpR op_ne (pe_cmpR op_isN (pe_fn (has_endless_play T) (hr.mono (by decide)) (by rfl) (pa_cons (pv 7) (pa_cons (pv 5) pa_nil))) pe_non (nomark _)) (pe_cmpR op_notN (pv 9) pe_non (nomark _)) (nomark _))))))
          (pss_one (ps_ret pe_bl))
          pss_nil)
        (pss_cons (ps_if (PW.pt (pw_or (pt_cmpR op_ne (pe_cmpR op_eq (pv 9) pe_int (nomark _)) (pe_cmpR op_eq (pe_callB (r := rLenS K) call_len_seq (by rfl) T.b_len (by decide +kernel) (pa_cons (pe_dget (hu_of hr) (pv 6) (pv 5) (fun _ _ => rfl)) pa_nil)) pe_int (nomark _)) (nomark _)) (pw_or1 (pt_cmpR op_ne (pe_fn (has_longest_play T) (hr.mono (by decide)) (by rfl) (pa_cons (pe_web T (hr.mono (by decide)) (by rfl) (pa_cons (pv 3) (pa_cons (pv 4) pa_nil))) (pa_cons (pv 5) pa_nil))) (pv 9) (nomark _)))))
          (pss_one (ps_ret pe_bl))
          pss_nil)
        (pss_cons (ps_set (i := 10) sc_law.nd rfl (.inl rfl) (pe_fn (has_l_comings T) (hr.mono (by decide)) (by rfl) (pa_cons (pv 3) (pa_cons (pv 4) (pa_cons (pv 5) (pa_cons pe_int (pa_cons pe_bl pa_nil)))))))
        (pss_cons (ps_set (i := 11) sc_law.nd rfl (.inl rfl) (pe_fn (has_longest_single T) (hr.mono (by decide)) (by rfl) (pa_cons (pv 7) (pa_cons (pv 5) pa_nil))))
        (pss_cons (ps_if (PW.pt (pw_or (pt_cmpR op_ne (pv 11) (pe_fn (has_l_longest T) (hr.mono (by decide)) (by rfl) (pa_cons (pv 10) (pa_cons (pv 5) pa_nil))) (nomark _)) (pw_or1 (pt_cmpR op_ne (pe_cmpR op_isN (pe_fn (has_endless_single T) (hr.mono (by decide)) (by rfl) (pa_cons (pv 7) (pa_cons (pv 5) pa_nil))) pe_non (nomark _)) (pe_cmpR op_notN (pv 11) pe_non (nomark _)) (nomark _)))))
          (pss_one (ps_ret pe_bl))
          pss_nil)
        (pss_cons (ps_if (PW.pt (pw_and (pt_cmpR op_notN (pv 9) pe_non (nomark _)) (pw_and1 (PW.pt (pw_or (pt_cmpR op_isN (pv 11) pe_non (nomark _)) (pw_or1 (pt_cmpR op_gt (pv 11) (pv 9) (nomark _))))))))
          (pss_one (ps_ret pe_bl))
          pss_nil)
        (pss_one (ps_for PassesOwn.never rfl (pi_range1 (by rfl) T.b_range (pa_cons pe_int pa_nil)) (pg_name (i := 12) sc_law.nd rfl (Or.inl rfl))
          (pss_cons (ps_set (i := 13) sc_law.nd rfl (.inl rfl) (pe_fn (has_l_some T) (hr.mono (by decide)) (by rfl) (pa_cons (pv 1) (pa_cons (pe_fn (has_l_all_openings T) (hr.mono (by decide)) (by rfl) (pa_cons (pe_callB (r := rLenS K) call_len_seq (by rfl) T.b_len (by decide +kernel) (pa_cons (pv 4) pa_nil)) pa_nil)) pa_nil))))
          (pss_cons (ps_asg (pe_fn (has_l_opened T) (hr.mono (by decide)) (by rfl) (pa_cons (pv 3) (pa_cons (pv 4) (pa_cons (pv 5) (pa_cons (pv 13) pa_nil))))) (pg_tupK (n := 2) rfl rfl (pgs_cons (pg_name (i := 14) sc_law.nd rfl (Or.inl rfl)) (pgs_cons (pg_name (i := 15) sc_law.nd rfl (Or.inl rfl)) pgs_nil))))
          (pss_cons (ps_if (pt_cmpR (op_neD hr.units) (pe_fn (has_tick T) (hr.mono (by decide)) (by rfl) (pa_cons (pv 7) (pa_cons (pv 5) (pa_cons (pv 13) pa_nil)))) (pv 14) (nomark _))
            (pss_one (ps_ret pe_bl))
            pss_nil)
          (pss_cons (ps_set (i := 16) sc_law.nd rfl (.inl rfl) (pe_fn (has_longest_play T) (hr.mono (by decide)) (by rfl) (pa_cons (pv 7) (pa_cons (pv 14) pa_nil))))
          (pss_cons (ps_if (PW.pt (pw_or (pt_cmpR op_ne (pv 16) (pe_fn (has_l_longest T) (hr.mono (by decide)) (by rfl) (pa_cons (pv 6) (pa_cons (pv 14) pa_nil))) (nomark _)) (pw_or1 (PW.pt (pw_and (pt_not (pt_val (pv 15))) (pw_and1 (pt_cmpR op_ne (pv 16) (pv 9) (nomark _))))))))
            (pss_one (ps_ret pe_bl))
            pss_nil)
          (pss_one (ps_if (PW.pt (pw_and (pt_val (pv 15)) (pw_and (pt_cmpR op_notN (pv 9) pe_non (nomark _)) (pw_and1 (pt_not (pt_cmpR op_lt (pv 16) (pv 9) (nomark _)))))))
            (pss_one (ps_ret pe_bl))
            pss_nil))))))))))))))))))))
      (pss_one (ps_ret pe_bl)))), ?_⟩
    refine p_asgN (en_call (pre := fun (ns : List Int) vs H => ∃ p, vs = [.ref p] ∧ SqL K H p (vI ns) ∧ ns.length ≤ 63) (post := fun _ p H => ∃ c, HandOk H (p, c)) ns (ea_cons (ev_var rfl) ea_nil) fun H1 e => ⟨a, rfl, ex_l e ha, hns⟩) fun hp H1 hn1 e1 ⟨c, k1⟩ => ?_
    generalize hh : (hp, c) = h at k1
    have hh1 : hp = h.1 := by rw [← hh]
    subst hh1
    refine q_forJ (S := (· = h.1)) (ej_rng1 (j := 2) (ea_cons ev_c ea_nil) ⟨by decide, by decide⟩) fun H2 e2 => ?_
    have k2 := k1.ex e2
    refine ⟨fun i σ' H' => HX h H2 H' ∧ HandOk H' h ∧ ∃ x2 x3 x4 x5 x6 x7 x8 x9 x10 x11 x12 x13 x14 x15 x16, σ' = [some (.ref a), some (.ref h.1), x2, x3, x4, x5, x6, x7, x8, x9, x10, x11, x12, x13, x14, x15, x16], ⟨ExS.refl _, k2, _, _, _, _, _, _, _, _, _, _, _, _, _, _, _, rfl⟩, fun i σ' H' hh => hh.1, ?_, ?_⟩
    · rintro i x σ' H3 H4 hi ⟨a3, k3, y2, y3, y4, y5, y6, y7, y8, y9, y10, y11, y12, y13, y14, y15, y16, rfl⟩ e4 rfl
      refine eg_name _ ?_
      have k4 := k3.ex e4
      refine q_asgRT (h := h) (P := fun v H' => SCAt H' v) (er_callH (Pa := fun us _ => us = [.ref h.1, .int 60]) (era_pure (ea_cons (ev_var rfl) (ea_cons ev_c ea_nil)) k4) fun us H5 a5 k5 ev => ⟨(), ev, fun v H6 _ _ hv => hv⟩) fun v H5 a5 k5 ⟨pt, c, wv, pq, fv, ws, ps, fill, keys, ev, hpt, hPL, hck, hcl⟩ => ?_
      subst ev
      refine eg_tup4 hpt _ ?_
      have hW : WebOk ws ps := hPL.2.2.2.1
      have hF : FillOk ws fill := hPL.2.2.2.2
      have a25 : HX h H2 H5 := (a3.trans (exs_of e4)).trans a5
      refine p_asg (ep_web (ea_cons (ev_var rfl) (ea_cons (ev_var rfl) ea_nil)) hPL.1 hPL.2.1 hW) fun webv H6 e6 hweb => ?_
      have hPL6 := hPL.ex e6
      have hcl6 := hcl.ex e6
      refine q_asg (v := toldV (nexts ws ps false) fill) (ev_l_longest (ea_cons (ev_var rfl) (ea_cons (ev_var rfl) ea_nil)) hcl6 (com_keys hck) hPL6.2.2.1 hck.mem) fun H7 e7 => ?_
      have hPL7 := hPL6.ex e7
      have hweb7 := hweb.ex e7
      refine q_asg (v := toldV (nexts ws ps false) fill) (ev_longest_play (R := keys) (ws, ps, fill) (ea_cons (ev_var rfl) (ea_cons (ev_var rfl) ea_nil)) (preF_of hweb7 hPL7) (sub_closed hck hck.mem false)) fun H8 e8 => ?_
      have hPL8 := hPL7.ex e8
      have hweb8 := hweb7.ex e8
      have hcl8 := (hcl6.ex e7).ex e8
      refine q_when (b := false) ?_ (fun z => nomatch z) fun _ H9 e9 => ?_
      · exact et_or (et_same (ev_var rfl) (ev_var rfl)) fun _ => et_or (a := false) (b := false) (et_test (told_isi (ea_cons (ev_var rfl) (ea_cons ev_c ea_nil)))) fun _ => et_end (ep_endless_play (R := keys) (ws, ps, fill) (ea_cons (ev_var rfl) (ea_cons (ev_var rfl) ea_nil)) (preF_of hweb8 hPL8) (sub_closed hck hck.mem false)) (ev_var rfl)
      have hPL9 := hPL8.ex e9
      have hweb9 := hweb8.ex e9
      have hcl9 := hcl8.ex e9
      refine q_when (b := false) ?_ (fun z => nomatch z) fun _ H10 e10 => ?_
      · obtain ⟨kvs, hc1, hc2, hc3⟩ := id hcl9
        obtain ⟨l, lvs, ss, hl1, hl2, hl3, hl4, hl5⟩ := hc3 fill hck.mem
        obtain ⟨fp, rfl, hfp⟩ := id hPL9.2.2.1
        have hll := Paired.length hl3
        refine et_or (a := false) (b := false) (et_is (et_test (ev_op (x := .bl (decide (toldV (nexts ws ps false) fill = .int 0))) (y := .bl (decide (V.int (lvs.length : Int) = V.int 0))) (ev_op (ev_var rfl) ev_c (rv_eq (told_scal0 _ _))) (ev_op (ev_lenL hl2 (ev_dget (k := kI fill) (ev_var rfl) (ev_var rfl) (.inl hc1) (kTup hfp) hl1)) ev_c (rv_eq rfl)) (rv_ne rfl))) ?_) fun _ => ?_
        · have hz : (lvs.length : Int) = 0 ↔ nexts ws ps false fill = [] := by
            constructor
            · intro h0
              have h1 : ss = [] := List.length_eq_zero_iff.mp (by omega)
              cases hn : nexts ws ps false fill with
              | nil => rfl
              | cons y r =>
                have := (hl4 y).mpr (by rw [hn]; simp)
                rw [h1] at this
                cases this
            · intro h0
              have h1 : ss = [] := by
                cases hs : ss with
                | nil => rfl
                | cons y r =>
                  have := (hl4 y).mp (by rw [hs]; simp)
                  rw [h0] at this
                  cases this
              rw [hll, h1]
              rfl
          have ht : toldV (nexts ws ps false) fill = .int 0 ↔ nexts ws ps false fill = [] := by
            rw [← ht_zero]
            constructor
            · intro h0
              rcases Classical.em (∃ n, HT (nexts ws ps false) fill n) with ⟨n, hn⟩ | hn
              · rw [told_some hn] at h0
                have : n = 0 := by
                  have := V.int.inj h0
                  omega
                rw [← this]
                exact hn
              · rw [told_none (fun n h => hn ⟨n, h⟩)] at h0
                cases h0
            · exact fun h0 => told_some h0
          have : decide (toldV (nexts ws ps false) fill = .int 0) = decide (V.int (lvs.length : Int) = V.int 0) := by
            apply decide_eq_decide.mpr
            rw [ht, ← hz]
            exact ⟨fun e => by rw [e], fun e => V.int.inj e⟩
          rw [this]
          simp
        · refine et_same (sc := nexts ws ps false) (x := fill) (ev_of (ep_callX (pre := PreR C false) (post := fun a => IsV (toldV (nexts a.1.1 a.1.2.1 false) a.1.2.2)) (eq_cons (Pr := fun x r H' => WebAt C H' x ws ps ∧ r = [.ref fp] ∧ H' fp = some (.tup (vI fill))) (ep_web (ea_cons (ev_var rfl) (ea_cons (ev_var rfl) ea_nil)) hPL9.1 hPL9.2.1 hW) fun x H' e' hx => (ea_p (ea_cons (ev_var rfl) ea_nil)).imp fun us H'' e'' ev => ⟨hx.ex e'', ev, (e'.trans e'') _ _ hfp⟩) fun us H' e' ⟨x, r, ev, hx, er, hf'⟩ => ⟨((ws, ps, fill), keys), ⟨x, .ref fp, by rw [ev, er], ⟨hx, ⟨fp, rfl, hf'⟩, hW, hF⟩, sub_closed hck hck.mem false⟩, fun _ _ hh => hh⟩)) (ev_var rfl)
      have hPL10 := hPL9.ex e10
      have hweb10 := hweb9.ex e10
      have hcl10 := hcl9.ex e10
      refine p_asg (ep_l_comings (ws, ps, fill) (most := 60) (single := true) (ea_cons (ev_var rfl) (ea_cons (ev_var rfl) (ea_cons (ev_var rfl) (ea_cons ev_c (ea_cons ev_c ea_nil))))) hPL10 (by decide)) fun av H11 e11 hav => ?_
      obtain ⟨c2, keys2, rfl, hck2, _, hcl2⟩ : ∃ p keys', av = .ref p ∧ ComOk (nexts ws ps true) fill keys' ∧ keys'.length ≤ 60 ∧ ComLAt H11 p keys' (nexts ws ps true) := by
        rcases hav with ⟨_, hR⟩ | hh
        · have h1 : 60 < keys.length := hR keys ⟨hck.mem, (sub_closed hck hck.mem true).clo⟩
          have h2 := hck.len
          omega
        · exact hh
      have hPL11 := hPL10.ex e11
      have hweb11 := hweb10.ex e11
      refine q_asg (v := toldV (nexts ws ps true) fill) (ev_longest_single (R := keys) (ws, ps, fill) (ea_cons (ev_var rfl) (ea_cons (ev_var rfl) ea_nil)) (preF_of hweb11 hPL11) (sub_closed hck hck.mem true)) fun H12 e12 => ?_
      have hPL12 := hPL11.ex e12
      have hweb12 := hweb11.ex e12
      refine q_when (b := false) ?_ (fun z => nomatch z) fun _ H13 e13 => ?_
      · exact et_or (a := false) (b := false) (et_same (ev_var rfl) (ev_l_longest (ea_cons (ev_var rfl) (ea_cons (ev_var rfl) ea_nil)) (hcl2.ex e12) (com_keys hck2) hPL12.2.2.1 hck2.mem)) fun _ => et_end (ep_endless_single (R := keys) (ws, ps, fill) (ea_cons (ev_var rfl) (ea_cons (ev_var rfl) ea_nil)) (preF_of hweb12 hPL12) (sub_closed hck hck.mem true)) (ev_var rfl)
      have hPL13 := hPL12.ex e13
      have hweb13 := hweb12.ex e13
      refine q_when (b := false) ?_ (fun z => nomatch z) fun _ H14 e14 => ?_
      · rcases Classical.em (∃ n, HT (nexts ws ps false) fill n) with ⟨n, hn⟩ | hn
        · obtain ⟨m, hm, hm2⟩ := ht_sub (sc' := nexts ws ps true) (fun x y => nexts_single) hn
          rw [told_some hn, told_some hm2]
          refine et_is (et_and (a := true) (b := false) (et_is (et_test (ev_op (ev_var rfl) ev_c rv_notN)) (by simp)) fun _ => et_or (a := false) (b := false) (et_is (et_test (ev_op (ev_var rfl) ev_c rv_isN)) (by simp)) fun _ => et_is (et_test (ev_op (x := .int (m : Int)) (y := .int (n : Int)) (ev_var rfl) (ev_var rfl) rv_I0)) ?_) rfl
          exact decide_eq_false (by omega)
        · rw [told_none (fun n h => hn ⟨n, h⟩)]
          exact et_is (et_and (a := false) (b := false) (et_is (et_test (ev_op (ev_var rfl) ev_c rv_notN)) (by simp)) fun z => nomatch z) rfl
      have e514 := ((((((((e6.trans e7).trans e8).trans e9).trans e10).trans e11).trans e12).trans e13).trans e14)
      have k14 := k5.ex e514
      have hPL14 := hPL13.ex e14
      have hweb14 := hweb13.ex e14
      have hcl14 := ((((hcl10.ex e11).ex e12).ex e13).ex e14)
      refine s_forJ (S := (· = h.1)) (ej_rng1 (j := 3) (ea_cons ev_c ea_nil) ⟨by decide, by decide⟩) fun H15 e15 => ?_
      have a215 : HX h H2 H15 := a25.trans (exs_of (e514.trans e15))
      refine ⟨fun j σ' H' => HX h H15 H' ∧ HandOk H' h ∧ ∃ x12 x13 x14 x15 x16, σ' = [some (.ref a), some (.ref h.1), some (.int (i : Int)), some wv, some pq, some fv, some (.ref c), some webv, some (toldV (nexts ws ps false) fill), some (toldV (nexts ws ps false) fill), some (.ref c2), some (toldV (nexts ws ps true) fill), x12, x13, x14, x15, x16], ⟨ExS.refl _, k14.ex e15, _, _, _, _, _, rfl⟩, fun j σ' H' hh => hh.1, ?_, ?_⟩
      · rintro j x σ' H16 H17 hj ⟨a16, k16, z12, z13, z14, z15, z16, rfl⟩ e17 rfl
        refine eg_name _ ?_
        have k17 := k16.ex e17
        have a1417 : HX h H14 H17 := (exs_of e15).trans (a16.trans (exs_of e17))
        have hPL17 := hPL14.tex (HX.tex a1417 k14)
        have hweb17 := hweb14.hx k14 a1417
        have hcl17 := hcl14.hx k14 a1417
        obtain ⟨pp, pvs, epq, hpp, hps⟩ := id hPL17.2.1
        simp only at epq hps
        have hpl : pvs.length = ps.length := Paired.length hps
        have hp3 : ps.length ≤ 3 := hW.pip
        have hosl : (subsOf ((List.range ps.length).map fun (j : Nat) => (j : Int))).length ≤ 8 := by
          have h1 : (subsOf ((List.range ps.length).map fun (j : Nat) => (j : Int))).length = 1 * 2 ^ ((List.range ps.length).map fun (j : Nat) => (j : Int)).length := subs_len _ _
          rw [List.length_map, List.length_range] at h1
          have h3 : 2 ^ ps.length ≤ 2 ^ 3 := Nat.pow_le_pow_right (by decide) hp3
          omega
        have hos0 : subsOf ((List.range ps.length).map fun (j : Nat) => (j : Int)) ≠ [] := by
          obtain ⟨r, hr, _⟩ := subs_drop ((List.range ps.length).map fun (j : Nat) => (j : Int))
          rw [hr]
          exact fun z => nomatch z
        have hlot := range_lot ps.length
        generalize hos : subsOf ((List.range ps.length).map fun (j : Nat) => (j : Int)) = os at hosl hos0 hlot
        refine q_asgR (h := h) (P := fun v H' => ∃ o ∈ os, TupI H' v o) (er_callH (Pa := fun us H' => ∃ v, us = [.ref h.1, v] ∧ RowsAt H' v os ∧ v ≠ .ref h.1) ((era_cons (Pr := fun x r H' => x = .ref h.1 ∧ ∃ v, r = [v] ∧ RowsAt H' v os ∧ v ≠ .ref h.1) (er_v (ev_var rfl) k17) fun x Hb ab kb ex => ((era_cons (Pa := fun v H' => RowsAt H' v os) (Pr := fun x r H' => r = [] ∧ RowsAt H' x os ∧ x ≠ .ref h.1) (er_pure ((ep_l_all_openings (m := ps.length) (ea_cons (ev_is (ev_lenT ((HX.tex ab k17) _ _ hpp) (ev_is (ev_var rfl) epq)) (by rw [hpl])) ea_nil) hp3).imp fun v _ _ hv => by rw [hos] at hv; exact hv) kb) fun x Hc ac kc hx => (fun Q' q' => q' [] Hc (ExS.refl Hc) kc ⟨rfl, hx, fun z => by
            obtain ⟨ad, vs, ev, hv, hvp⟩ := hx
            have := not_hand kc hv (paired_ref (fun v y ⟨q, ev, _⟩ => ⟨q, ev⟩) hvp)
            rw [ev] at z
            exact this (V.ref.inj z)⟩)).imp fun us Hc _ _ ⟨x, r, ev, er, hx, hne⟩ => ⟨ex, x, by rw [ev, er], hx, hne⟩)).imp fun us Hb _ _ ⟨x, r, ev, ex, v, er, hv⟩ => ⟨v, by rw [ev, ex, er], hv⟩) fun us Hb ab kb ⟨v, ev, hv, hne⟩ => ⟨os, ⟨v, ev, hv, hne, hos0, by omega⟩, fun v H' _ _ hh => hh⟩) fun ov H18 a18 k18 ⟨o, ho, hov⟩ => ?_
        have hlo := (hlot o ho).1
        have hPL18 := hPL17.tex (HX.tex a18 k17)
        have hweb18 := hweb17.hx k17 a18
        have hcl18 := hcl17.hx k17 a18
        refine q_asgRT (h := h) (er_pure (ep_l_opened (ws, ps, fill) (o := o) (ea_cons (ev_var rfl) (ea_cons (ev_var rfl) (ea_cons (ev_var rfl) (ea_cons (ev_var rfl) ea_nil)))) hPL18 hov) k18) fun v H19 a19 k19 ⟨pt2, mv, ev, hpt2, hmv⟩ => ?_
        subst ev
        simp only at hpt2 hmv
        refine eg_tup2 hpt2 _ ?_
        have hPL19 := hPL18.tex (HX.tex a19 k18)
        have hweb19 := hweb18.hx k18 a19
        have hcl19 := hcl18.hx k18 a19
        have hov19 := hov.tex (HX.tex a19 k18)
        have a219 : HX h H2 H19 := a215.trans (((a16.trans (exs_of e17)).trans a18).trans a19)
        refine q_when (b := false) (et_neD (ep_tick (ws, ps, fill) (o := some o) (ea_cons (ev_var rfl) (ea_cons (ev_var rfl) (ea_cons (ev_var rfl) ea_nil))) (preF_of hweb19 hPL19) ⟨hov19, hlo⟩) (ev_var rfl) hmv) (fun z => nomatch z) fun _ H20 e20 => ?_
        have hmv20 := hmv.ex e20
        have hweb20 := hweb19.ex e20
        generalize hran : anyRun (openedAt (flowsAt ws ps fill) (some o)) = ran
        generalize hth : tickAt ws ps fill (some o) = there at hmv hmv20
        have hthk : there ∈ keys := by
          cases ran with
          | true =>
            rw [← hth]
            exact hck.clo fill hck.mem _ (tick_ran hran)
          | false =>
            rw [← hth, tick_still hF hran]
            exact hck.mem
        have hthF : FillOk ws there := by
          rw [← hth]
          exact moved_ok
        refine q_asg (v := toldV (nexts ws ps false) there) (ev_longest_play (R := keys) (ws, ps, there) (ea_cons (ev_var rfl) (ea_cons (ev_var rfl) ea_nil)) ⟨hweb20, hmv20, hW, hthF⟩ (sub_closed hck hthk false)) fun H21 e21 => ?_
        have hcl21 := (hcl19.ex e20).ex e21
        refine q_when (b := false) ?_ (fun z => nomatch z) fun _ H22 e22 => ?_
        · refine et_or (a := false) (b := false) (et_same (ev_var rfl) (ev_l_longest (ea_cons (ev_var rfl) (ea_cons (ev_var rfl) ea_nil)) hcl21 (com_keys hck) (hmv20.ex e21) hthk)) fun _ => ?_
          cases ran with
          | true => exact et_is (et_and (a := false) (b := false) (et_is (et_not (et_test (b := true) (ev_var rfl))) rfl) fun z => nomatch z) rfl
          | false =>
            have hsame : there = fill := by rw [← hth, tick_still hF hran]
            refine et_is (et_and (a := true) (b := false) (et_is (et_not (et_test (b := false) (ev_var rfl))) rfl) fun _ => ?_) rfl
            rw [hsame]
            exact et_same (ev_var rfl) (ev_var rfl)
        · refine s_when (b := false) ?_ (fun z => nomatch z) fun _ H23 e23 => ⟨?_, (((k19.ex e20).ex e21).ex e22).ex e23, _, _, _, _, _, rfl⟩
          · cases ran with
            | false => exact et_is (et_and (a := false) (b := false) (et_test (ev_var rfl)) fun z => nomatch z) rfl
            | true =>
              refine et_is (et_and (a := true) (b := false) (et_test (ev_var rfl)) fun _ => ?_) rfl
              rcases Classical.em (∃ n, HT (nexts ws ps false) fill n) with ⟨n, hn⟩ | hn
              · obtain ⟨m, hm, hm2⟩ := hn.next (y := there) (by rw [← hth]; exact tick_ran hran)
                rw [told_some hn, told_some hm2]
                refine et_is (et_and (a := true) (b := false) (et_is (et_test (ev_op (ev_var rfl) ev_c rv_notN)) (by simp)) fun _ => et_is (et_not (et_test (ev_op (x := .int (m : Int)) (y := .int (n : Int)) (ev_var rfl) (ev_var rfl) rv_I0))) ?_) rfl
                rw [decide_eq_true (by omega : (m : Int) < (n : Int))]
                rfl
              · rw [told_none (fun n h => hn ⟨n, h⟩)]
                exact et_is (et_and (a := false) (b := false) (et_is (et_test (ev_op (ev_var rfl) ev_c rv_notN)) (by simp)) fun z => nomatch z) rfl
          · exact ((a16.trans (exs_of e17)).trans a18).trans (a19.trans (exs_of (((e20.trans e21).trans e22).trans e23)))
      · rintro σ' H16 ⟨a16, k16, z12, z13, z14, z15, z16, rfl⟩
        exact ⟨a215.trans a16, k16, _, _, _, _, _, _, _, _, _, _, _, _, _, _, _, rfl⟩
    · rintro σ' H3 ⟨a3, k3, y2, y3, y4, y5, y6, y7, y8, y9, y10, y11, y12, y13, y14, y15, y16, rfl⟩
      exact s_ret (v := .bl true) ev_c fun H4 e4 => q H4
end
end TW
namespace TW
open PySem PySem.Spec PyProof.Rows L2 Evl
/-! ### what the top leaves, and the end -/
section
variable {K : PySem.W.Frag} {h : Heap} {mg : Str → Option Value}
theorem mk_def {x : Str} {st : Stmt} {ps : List Str} {f : Addr} {oc kV doc pm cdv ct : Value} {od an : Option Addr} {osl : Array (Option Value)} (X : K.In h) (G : h.Ns mainGlobals mg) (a : PySem.W.nsIn K mainGlobals x = some (some (.ref f)))
    (l : K.lookup f = some ⟨oc, od, .func (PySem.W.fnOf x x (defArgs st) (defBody st) (defScope st) .none kV doc pm an cdv ct), osl⟩) (c : PySem.W.codeIn K cdv x = true) (k : PySem.W.keepIn K (.ref f) = true)
    (b : ∀ (kV doc pm : Value) (an : Option Addr) (cdv ct : Value) (us : List Value), us.length = ps.length → bindArgs (PySem.W.fnOf x x (defArgs st) (defBody st) (defScope st) .none kV doc pm an cdv ct) ⟨us, []⟩ = pure (ps.zip us)) : DefAt K mg x st ps :=
  ⟨f, _, PySem.W.mg_of X G a, fun_mk (st := st) l c k, (fun_mk (st := st) l c k).binds b⟩
theorem mk_meth {x qual : Str} {st : Stmt} {ps : List Str} {C f : Addr} {oc kV doc pm cdv ct : Value} {od an : Option Addr} {osl : Array (Option Value)} (a : PySem.W.findIn K (.ref C) x = some (some (.ref f))) (i : PySem.W.isFn K (.ref f) = true)
    (l : K.lookup f = some ⟨oc, od, .func (PySem.W.fnOf x qual (defArgs st) (defBody st) (defScope st) .none kV doc pm an cdv ct), osl⟩) (c : PySem.W.codeIn K cdv qual = true) (k : PySem.W.keepIn K (.ref f) = true)
    (b : ∀ (kV doc pm : Value) (an : Option Addr) (cdv ct : Value) (us : List Value), us.length = ps.length → bindArgs (PySem.W.fnOf x qual (defArgs st) (defBody st) (defScope st) .none kV doc pm an cdv ct) ⟨us, []⟩ = pure (ps.zip us)) : ∃ f fd, Meth K C x f ∧ Fun K x qual st f fd ∧ Binds K fd ps [] :=
  ⟨f, _, ⟨a, i, k⟩, fun_mk (st := st) l c k, (fun_mk (st := st) l c k).binds b⟩
theorem mk_init {x qual : Str} {st : Stmt} {ps : List Str} {C f : Addr} {oc kV doc pm cdv ct : Value} {od an : Option Addr} {osl : Array (Option Value)} (m : PySem.W.makesIn K C = true) (kc : PySem.W.keepIn K (.ref C) = true) (a : PySem.W.findIn K (.ref C) "__init__" = some (some (.ref f))) (i : PySem.W.isFn K (.ref f) = true)
    (l : K.lookup f = some ⟨oc, od, .func (PySem.W.fnOf x qual (defArgs st) (defBody st) (defScope st) .none kV doc pm an cdv ct), osl⟩) (c : PySem.W.codeIn K cdv qual = true) (k : PySem.W.keepIn K (.ref f) = true)
    (b : ∀ (kV doc pm : Value) (an : Option Addr) (cdv ct : Value) (us : List Value), us.length = ps.length → bindArgs (PySem.W.fnOf x qual (defArgs st) (defBody st) (defScope st) .none kV doc pm an cdv ct) ⟨us, []⟩ = pure (ps.zip us)) : ∃ f fd, Mk K C f ∧ Fun K x qual st f fd ∧ Binds K fd ps [] :=
  ⟨f, _, ⟨m, a, i, kc⟩, fun_mk (st := st) l c k, (fun_mk (st := st) l c k).binds b⟩
/-- the same, handed on -/
theorem with_def {Goal : Prop} {x : Str} {st : Stmt} {ps : List Str} {f : Addr} {oc kV doc pm cdv ct : Value} {od an : Option Addr} {osl : Array (Option Value)} (X : K.In h) (G : h.Ns mainGlobals mg) (a : PySem.W.nsIn K mainGlobals x = some (some (.ref f)))
    (l : K.lookup f = some ⟨oc, od, .func (PySem.W.fnOf x x (defArgs st) (defBody st) (defScope st) .none kV doc pm an cdv ct), osl⟩) (c : PySem.W.codeIn K cdv x = true) (k : PySem.W.keepIn K (.ref f) = true)
    (b : ∀ (kV doc pm : Value) (an : Option Addr) (cdv ct : Value) (us : List Value), us.length = ps.length → bindArgs (PySem.W.fnOf x x (defArgs st) (defBody st) (defScope st) .none kV doc pm an cdv ct) ⟨us, []⟩ = pure (ps.zip us)) (go : DefAt K mg x st ps → Goal) : Goal :=
  go (mk_def X G a l c k b)
theorem with_none {Goal : Prop} {x : Str} (X : K.In h) (G : h.Ns mainGlobals mg) (a : PySem.W.nsIn K mainGlobals x = some none) (go : mg x = none → Goal) : Goal := go (PySem.W.mg_none_of X G a)
theorem with_int {Goal : Prop} {x : Str} {i : Int} {t : Nat} (X : K.In h) (G : h.Ns mainGlobals mg) (a : PySem.W.nsIn K mainGlobals x = some (some (.int i t))) (go : (∃ t, mg x = some (.int i t)) → Goal) : Goal := go ⟨t, PySem.W.mg_of X G a⟩
theorem with_web {Goal : Prop} {C f1 f2 : Addr} {oc1 kV1 dc1 pm1 cd1 ct1 oc2 kV2 dc2 pm2 cd2 ct2 : Value} {od1 an1 od2 an2 : Option Addr} {sl1 sl2 : Array (Option Value)} (X : K.In h) (G : h.Ns mainGlobals mg) (aC : PySem.W.nsIn K mainGlobals "Web" = some (some (.ref C)))
    (pg : PySem.W.plainGet K C Str.empty = true) (hd : PySem.W.hasDictIn K C = true) (po : PySem.W.plainOver K C = true) (sa : PySem.W.findIn K (.ref C) "__setattr__" = some (some (.builtin "object.__setattr__"))) (m : PySem.W.makesIn K C = true) (kc : PySem.W.keepIn K (.ref C) = true)
    (a1 : PySem.W.findIn K (.ref C) "__init__" = some (some (.ref f1))) (i1 : PySem.W.isFn K (.ref f1) = true) (l1 : K.lookup f1 = some ⟨oc1, od1, .func (PySem.W.fnOf "__init__" "Web.__init__" (defArgs s_w_init) (defBody s_w_init) (defScope s_w_init) .none kV1 dc1 pm1 an1 cd1 ct1), sl1⟩) (c1 : PySem.W.codeIn K cd1 "Web.__init__" = true) (k1 : PySem.W.keepIn K (.ref f1) = true)
    (a2 : PySem.W.findIn K (.ref C) "begin" = some (some (.ref f2))) (i2 : PySem.W.isFn K (.ref f2) = true) (l2 : K.lookup f2 = some ⟨oc2, od2, .func (PySem.W.fnOf "begin" "Web.begin" (defArgs s_w_begin) (defBody s_w_begin) (defScope s_w_begin) .none kV2 dc2 pm2 an2 cd2 ct2), sl2⟩) (c2 : PySem.W.codeIn K cd2 "Web.begin" = true) (k2 : PySem.W.keepIn K (.ref f2) = true)
    (nW : PySem.W.findIn K (.ref C) "widths" = some none) (nP : PySem.W.findIn K (.ref C) "pipes" = some none) (nG : PySem.W.findIn K (.ref C) "gauges" = some none) (go : WebC K mg C → Goal) : Goal :=
  go ⟨PySem.W.mg_of X G aC, ⟨pg, hd, po, sa⟩, mk_init m kc a1 i1 l1 c1 k1 (fun _ _ _ _ _ _ us hl => match us, hl with | [_, _, _], _ => rfl), mk_meth a2 i2 l2 c2 k2 (fun _ _ _ _ _ _ us hl => match us, hl with | [_, _, _], _ => rfl), nW, nP, nG⟩
theorem loose_int {q : Program} {lv : List (Str × PySem.W.WData)} {n : Str} {i : Int} (x : PySem.W.XL q lv mg h) (hm : (n, PySem.W.WData.int i) ∈ lv) : ∃ t, mg n = some (.int i t) := by
  obtain ⟨v, a, b⟩ := x.2.val _ hm
  cases b
  exact ⟨_, a⟩
theorem fin {l : PySem.W.OpenLaw} {w : World} {C fa f4 : Addr} {oc kV doc pm cdv ct : Value} {od an : Option Addr} {osl : Array (Option Value)} (T : Tops K mg C) (X : K.In h) (G : h.Ns mainGlobals mg) (hfa : mg "law" = some (.ref fa)) (a : PySem.W.nsIn K mainGlobals "law" = some (some (.ref f4)))
    (lk : K.lookup f4 = some ⟨oc, od, .func (PySem.W.fnOf "law" "law" (defArgs s_law) (defBody s_law) (defScope s_law) .none kV doc pm an cdv ct), osl⟩) (c : PySem.W.codeIn K cdv "law" = true) (k : PySem.W.keepIn K (.ref f4) = true) :
    ∃ fd : FuncData, (∀ (s : Shared) (v : Value), BindsTo s fd ⟨[v], []⟩ [("_law_script", v)]) ∧ ∀ base : Heap, K.In base → base.Ns mainGlobals mg → FnOk l.prog w K mg base CX0 8 fa fd ["_law_script"] (sp_law K) := by
  have e := hfa.symm.trans (PySem.W.mg_of X G a)
  cases e
  exact ⟨_, fun s v => .of_eq rfl, fun base _ _ => law_ok T (fun_mk (st := s_law) lk c k)⟩
end
theorem walk_x {l : PySem.W.OpenLaw} {q : Program} {loose : List Str} {XP : (Str → Option Value) → Heap → Prop} {YP : World → Heap → Prop} {d : DefRec} {K : Params → PySem.W.Frag} (hn : l.most = some 63) (hdf : d.params.defaults = [])
    (hY : ∀ (w : World) (h : Heap), YP w h → (K w.params).In h)
    (F : ∀ (w : World) (mg : Str → Option Value) (fa : Addr) (h : Heap), (K w.params).In h → h.Ns mainGlobals mg → XP mg h → mg d.name = some (.ref fa) →
      ∃ fd : FuncData, (∀ (s : Shared) (u : Value), BindsTo s fd ⟨[u], []⟩ [("_law_script", u)]) ∧ ∀ base : Heap, (K w.params).In base → base.Ns mainGlobals mg → FnOk l.prog w (K w.params) mg base CX0 8 fa fd ["_law_script"] (sp_law (K w.params))) :
    PySem.W.WalkO q loose XP YP l.row.toRowW d [] (fun f vs => PySem.call f vs) := by
  refine Att.attach_call hn hdf fun w s₀ s₁ mg mb fa o pm cd doc a vs ns G Y ho hd hcd hmg hobj hints hlen hg => ?_
  obtain ⟨fd, hb, hF⟩ := F w mg fa _ (hY w _ Y) G.T.g G.X hmg
  exact law_call (hY w _ Y) G.T.g G.T.b G.T.builtins G.T.nolimit hg hobj hints (Nat.le_trans hlen (by decide)) ⟨rfl, by decide, by decide⟩ hF hb (fun H hO hS => ⟨a, ns, rfl, hS, hlen, fun _ => rfl⟩) fun H e s' z => z
end TW
open PySem PySem.W PyProof.Rows in
set_option maxHeartbeats 0 in
theorem PySem.Challenge.cw_twotides_k78_whole_longest_plays_holds : PySem.Challenge.rw_twotides_k78_whole_longest_plays.Holds := by
  w_on; o_law; k_head; (case hw => w_witness2)
  k_fill
  refine TW.walk_x (l := PySem.Challenge.rw_twotides_k78_whole_longest_plays) rfl rfl (fun w h Y => PySem.W.kIn_of Y) ?F
  case F =>
    intro w mg fa h KX G XP hmg
    refine' TW.with_def (x := "is_integer") (st := TW.s_is_integer) (ps := ["thing"]) KX G ?a ?l ?c ?k (fun _ _ _ _ _ _ us hl => match us, hl with | [_], _ => rfl) fun d_is_integer => ?rest1
    (case a => k_is); (case l => k_is); (case c => k_is); (case k => k_is)
    refine' TW.with_def (x := "is_between") (st := TW.s_is_between) (ps := ["thing", "least", "most"]) KX G ?a ?l ?c ?k (fun _ _ _ _ _ _ us hl => match us, hl with | [_, _, _], _ => rfl) fun d_is_between => ?rest2
    (case a => k_is); (case l => k_is); (case c => k_is); (case k => k_is)
    refine' TW.with_def (x := "is_pair") (st := TW.s_is_pair) (ps := ["thing"]) KX G ?a ?l ?c ?k (fun _ _ _ _ _ _ us hl => match us, hl with | [_], _ => rfl) fun d_is_pair => ?rest3
    (case a => k_is); (case l => k_is); (case c => k_is); (case k => k_is)
    refine' TW.with_def (x := "is_triple") (st := TW.s_is_triple) (ps := ["thing"]) KX G ?a ?l ?c ?k (fun _ _ _ _ _ _ us hl => match us, hl with | [_], _ => rfl) fun d_is_triple => ?rest4
    (case a => k_is); (case l => k_is); (case c => k_is); (case k => k_is)
    refine' TW.with_def (x := "is_row") (st := TW.s_is_row) (ps := ["thing", "many"]) KX G ?a ?l ?c ?k (fun _ _ _ _ _ _ us hl => match us, hl with | [_, _], _ => rfl) fun d_is_row => ?rest5
    (case a => k_is); (case l => k_is); (case c => k_is); (case k => k_is)
    refine' TW.with_def (x := "is_lot") (st := TW.s_is_lot) (ps := ["thing", "many"]) KX G ?a ?l ?c ?k (fun _ _ _ _ _ _ us hl => match us, hl with | [_, _], _ => rfl) fun d_is_lot => ?rest6
    (case a => k_is); (case l => k_is); (case c => k_is); (case k => k_is)
    refine' TW.with_def (x := "divisor") (st := TW.s_divisor) (ps := ["one", "other"]) KX G ?a ?l ?c ?k (fun _ _ _ _ _ _ us hl => match us, hl with | [_, _], _ => rfl) fun d_divisor => ?rest7
    (case a => k_is); (case l => k_is); (case c => k_is); (case k => k_is)
    refine' TW.with_def (x := "multiple") (st := TW.s_multiple) (ps := ["one", "other"]) KX G ?a ?l ?c ?k (fun _ _ _ _ _ _ us hl => match us, hl with | [_, _], _ => rfl) fun d_multiple => ?rest8
    (case a => k_is); (case l => k_is); (case c => k_is); (case k => k_is)
    refine' TW.with_def (x := "made") (st := TW.s_made) (ps := ["top", "bottom"]) KX G ?a ?l ?c ?k (fun _ _ _ _ _ _ us hl => match us, hl with | [_, _], _ => rfl) fun d_made => ?rest9
    (case a => k_is); (case l => k_is); (case c => k_is); (case k => k_is)
    refine' TW.with_def (x := "is_fraction") (st := TW.s_is_fraction) (ps := ["thing"]) KX G ?a ?l ?c ?k (fun _ _ _ _ _ _ us hl => match us, hl with | [_], _ => rfl) fun d_is_fraction => ?rest10
    (case a => k_is); (case l => k_is); (case c => k_is); (case k => k_is)
    refine' TW.with_def (x := "is_below") (st := TW.s_is_below) (ps := ["one", "other"]) KX G ?a ?l ?c ?k (fun _ _ _ _ _ _ us hl => match us, hl with | [_, _], _ => rfl) fun d_is_below => ?rest11
    (case a => k_is); (case l => k_is); (case c => k_is); (case k => k_is)
    refine' TW.with_def (x := "next_whole") (st := TW.s_next_whole) (ps := ["one"]) KX G ?a ?l ?c ?k (fun _ _ _ _ _ _ us hl => match us, hl with | [_], _ => rfl) fun d_next_whole => ?rest12
    (case a => k_is); (case l => k_is); (case c => k_is); (case k => k_is)
    refine' TW.with_def (x := "is_threshold") (st := TW.s_is_threshold) (ps := ["thing"]) KX G ?a ?l ?c ?k (fun _ _ _ _ _ _ us hl => match us, hl with | [_], _ => rfl) fun d_is_threshold => ?rest13
    (case a => k_is); (case l => k_is); (case c => k_is); (case k => k_is)
    refine' TW.with_def (x := "is_list") (st := TW.s_is_list) (ps := ["thing"]) KX G ?a ?l ?c ?k (fun _ _ _ _ _ _ us hl => match us, hl with | [_], _ => rfl) fun d_is_list => ?rest14
    (case a => k_is); (case l => k_is); (case c => k_is); (case k => k_is)
    refine' TW.with_def (x := "is_width") (st := TW.s_is_width) (ps := ["thing"]) KX G ?a ?l ?c ?k (fun _ _ _ _ _ _ us hl => match us, hl with | [_], _ => rfl) fun d_is_width => ?rest15
    (case a => k_is); (case l => k_is); (case c => k_is); (case k => k_is)
    refine' TW.with_def (x := "parts_of_grain") (st := TW.s_parts_of_grain) (ps := ["width", "other"]) KX G ?a ?l ?c ?k (fun _ _ _ _ _ _ us hl => match us, hl with | [_, _], _ => rfl) fun d_parts_of_grain => ?rest16
    (case a => k_is); (case l => k_is); (case c => k_is); (case k => k_is)
    refine' TW.with_def (x := "in_grains") (st := TW.s_in_grains) (ps := ["steps", "grains"]) KX G ?a ?l ?c ?k (fun _ _ _ _ _ _ us hl => match us, hl with | [_, _], _ => rfl) fun d_in_grains => ?rest17
    (case a => k_is); (case l => k_is); (case c => k_is); (case k => k_is)
    refine' TW.with_def (x := "is_filling") (st := TW.s_is_filling) (ps := ["web", "thing"]) KX G ?a ?l ?c ?k (fun _ _ _ _ _ _ us hl => match us, hl with | [_, _], _ => rfl) fun d_is_filling => ?rest18
    (case a => k_is); (case l => k_is); (case c => k_is); (case k => k_is)
    refine' TW.with_def (x := "check_filling") (st := TW.s_check_filling) (ps := ["web", "thing"]) KX G ?a ?l ?c ?k (fun _ _ _ _ _ _ us hl => match us, hl with | [_, _], _ => rfl) fun d_check_filling => ?rest19
    (case a => k_is); (case l => k_is); (case c => k_is); (case k => k_is)
    refine' TW.with_def (x := "check_opening") (st := TW.s_check_opening) (ps := ["web", "thing"]) KX G ?a ?l ?c ?k (fun _ _ _ _ _ _ us hl => match us, hl with | [_, _], _ => rfl) fun d_check_opening => ?rest20
    (case a => k_is); (case l => k_is); (case c => k_is); (case k => k_is)
    refine' TW.with_def (x := "drops_in_grains") (st := TW.s_drops_in_grains) (ps := ["web", "filling"]) KX G ?a ?l ?c ?k (fun _ _ _ _ _ _ us hl => match us, hl with | [_, _], _ => rfl) fun d_drops_in_grains => ?rest21
    (case a => k_is); (case l => k_is); (case c => k_is); (case k => k_is)
    refine' TW.with_def (x := "runs_at") (st := TW.s_runs_at) (ps := ["units", "number"]) KX G ?a ?l ?c ?k (fun _ _ _ _ _ _ us hl => match us, hl with | [_, _], _ => rfl) fun d_runs_at => ?rest22
    (case a => k_is); (case l => k_is); (case c => k_is); (case k => k_is)
    refine' TW.with_def (x := "flows_of") (st := TW.s_flows_of) (ps := ["web", "filling"]) KX G ?a ?l ?c ?k (fun _ _ _ _ _ _ us hl => match us, hl with | [_, _], _ => rfl) fun d_flows_of => ?rest23
    (case a => k_is); (case l => k_is); (case c => k_is); (case k => k_is)
    refine' TW.with_def (x := "opened") (st := TW.s_opened) (ps := ["numbers", "opening"]) KX G ?a ?l ?c ?k (fun _ _ _ _ _ _ us hl => match us, hl with | [_, _], _ => rfl) fun d_opened => ?rest24
    (case a => k_is); (case l => k_is); (case c => k_is); (case k => k_is)
    refine' TW.with_def (x := "nets_of") (st := TW.s_nets_of) (ps := ["web", "numbers"]) KX G ?a ?l ?c ?k (fun _ _ _ _ _ _ us hl => match us, hl with | [_, _], _ => rfl) fun d_nets_of => ?rest25
    (case a => k_is); (case l => k_is); (case c => k_is); (case k => k_is)
    refine' TW.with_def (x := "moved") (st := TW.s_moved) (ps := ["web", "filling", "numbers"]) KX G ?a ?l ?c ?k (fun _ _ _ _ _ _ us hl => match us, hl with | [_, _, _], _ => rfl) fun d_moved => ?rest26
    (case a => k_is); (case l => k_is); (case c => k_is); (case k => k_is)
    refine' TW.with_def (x := "running") (st := TW.s_running) (ps := ["web", "filling", "opening"]) KX G ?a ?l ?c ?k (fun _ _ _ _ _ _ us hl => match us, hl with | [_, _, _], _ => rfl) fun d_running => ?rest27
    (case a => k_is); (case l => k_is); (case c => k_is); (case k => k_is)
    refine' TW.with_def (x := "tick") (st := TW.s_tick) (ps := ["web", "filling", "opening"]) KX G ?a ?l ?c ?k (fun _ _ _ _ _ _ us hl => match us, hl with | [_, _, _], _ => rfl) fun d_tick => ?rest28
    (case a => k_is); (case l => k_is); (case c => k_is); (case k => k_is)
    refine' TW.with_def (x := "running_openings") (st := TW.s_running_openings) (ps := ["numbers"]) KX G ?a ?l ?c ?k (fun _ _ _ _ _ _ us hl => match us, hl with | [_], _ => rfl) fun d_running_openings => ?rest29
    (case a => k_is); (case l => k_is); (case c => k_is); (case k => k_is)
    refine' TW.with_def (x := "ways_on") (st := TW.s_ways_on) (ps := ["web", "filling", "single"]) KX G ?a ?l ?c ?k (fun _ _ _ _ _ _ us hl => match us, hl with | [_, _, _], _ => rfl) fun d_ways_on => ?rest30
    (case a => k_is); (case l => k_is); (case c => k_is); (case k => k_is)
    refine' TW.with_def (x := "comings") (st := TW.s_comings) (ps := ["web", "filling", "single"]) KX G ?a ?l ?c ?k (fun _ _ _ _ _ _ us hl => match us, hl with | [_, _, _], _ => rfl) fun d_comings => ?rest31
    (case a => k_is); (case l => k_is); (case c => k_is); (case k => k_is)
    refine' TW.with_def (x := "heights") (st := TW.s_heights) (ps := ["ways"]) KX G ?a ?l ?c ?k (fun _ _ _ _ _ _ us hl => match us, hl with | [_], _ => rfl) fun d_heights => ?rest32
    (case a => k_is); (case l => k_is); (case c => k_is); (case k => k_is)
    refine' TW.with_def (x := "longest_play") (st := TW.s_longest_play) (ps := ["web", "filling"]) KX G ?a ?l ?c ?k (fun _ _ _ _ _ _ us hl => match us, hl with | [_, _], _ => rfl) fun d_longest_play => ?rest33
    (case a => k_is); (case l => k_is); (case c => k_is); (case k => k_is)
    refine' TW.with_def (x := "longest_single") (st := TW.s_longest_single) (ps := ["web", "filling"]) KX G ?a ?l ?c ?k (fun _ _ _ _ _ _ us hl => match us, hl with | [_, _], _ => rfl) fun d_longest_single => ?rest34
    (case a => k_is); (case l => k_is); (case c => k_is); (case k => k_is)
    refine' TW.with_def (x := "endless") (st := TW.s_endless) (ps := ["ways", "filling"]) KX G ?a ?l ?c ?k (fun _ _ _ _ _ _ us hl => match us, hl with | [_, _], _ => rfl) fun d_endless => ?rest35
    (case a => k_is); (case l => k_is); (case c => k_is); (case k => k_is)
    refine' TW.with_def (x := "endless_play") (st := TW.s_endless_play) (ps := ["web", "filling"]) KX G ?a ?l ?c ?k (fun _ _ _ _ _ _ us hl => match us, hl with | [_, _], _ => rfl) fun d_endless_play => ?rest36
    (case a => k_is); (case l => k_is); (case c => k_is); (case k => k_is)
    refine' TW.with_def (x := "endless_single") (st := TW.s_endless_single) (ps := ["web", "filling"]) KX G ?a ?l ?c ?k (fun _ _ _ _ _ _ us hl => match us, hl with | [_, _], _ => rfl) fun d_endless_single => ?rest37
    (case a => k_is); (case l => k_is); (case c => k_is); (case k => k_is)
    refine' TW.with_def (x := "are_widths") (st := TW.s_are_widths) (ps := ["thing"]) KX G ?a ?l ?c ?k (fun _ _ _ _ _ _ us hl => match us, hl with | [_], _ => rfl) fun d_are_widths => ?rest38
    (case a => k_is); (case l => k_is); (case c => k_is); (case k => k_is)
    refine' TW.with_def (x := "is_pipe") (st := TW.s_is_pipe) (ps := ["thing", "many"]) KX G ?a ?l ?c ?k (fun _ _ _ _ _ _ us hl => match us, hl with | [_, _], _ => rfl) fun d_is_pipe => ?rest39
    (case a => k_is); (case l => k_is); (case c => k_is); (case k => k_is)
    refine' TW.with_def (x := "gauge") (st := TW.s_gauge) (ps := ["widths", "pipe"]) KX G ?a ?l ?c ?k (fun _ _ _ _ _ _ us hl => match us, hl with | [_, _], _ => rfl) fun d_gauge => ?rest40
    (case a => k_is); (case l => k_is); (case c => k_is); (case k => k_is)
    refine' TW.with_def (x := "_law_hand") (st := TW.s_l_hand) (ps := ["_law_script"]) KX G ?a ?l ?c ?k (fun _ _ _ _ _ _ us hl => match us, hl with | [_], _ => rfl) fun d_l_hand => ?rest41
    (case a => k_is); (case l => k_is); (case c => k_is); (case k => k_is)
    refine' TW.with_def (x := "_law_draw") (st := TW.s_l_draw) (ps := ["_law_hand_here", "_law_many"]) KX G ?a ?l ?c ?k (fun _ _ _ _ _ _ us hl => match us, hl with | [_, _], _ => rfl) fun d_l_draw => ?rest42
    (case a => k_is); (case l => k_is); (case c => k_is); (case k => k_is)
    refine' TW.with_def (x := "_law_some") (st := TW.s_l_some) (ps := ["_law_hand_here", "_law_things"]) KX G ?a ?l ?c ?k (fun _ _ _ _ _ _ us hl => match us, hl with | [_, _], _ => rfl) fun d_l_some => ?rest43
    (case a => k_is); (case l => k_is); (case c => k_is); (case k => k_is)
    refine' TW.with_def (x := "_law_divisor") (st := TW.s_l_divisor) (ps := ["_law_one", "_law_other"]) KX G ?a ?l ?c ?k (fun _ _ _ _ _ _ us hl => match us, hl with | [_, _], _ => rfl) fun d_l_divisor => ?rest44
    (case a => k_is); (case l => k_is); (case c => k_is); (case k => k_is)
    refine' TW.with_def (x := "_law_made") (st := TW.s_l_made) (ps := ["_law_top", "_law_bottom"]) KX G ?a ?l ?c ?k (fun _ _ _ _ _ _ us hl => match us, hl with | [_, _], _ => rfl) fun d_l_made => ?rest45
    (case a => k_is); (case l => k_is); (case c => k_is); (case k => k_is)
    refine' TW.with_def (x := "_law_below") (st := TW.s_l_below) (ps := ["_law_one", "_law_other"]) KX G ?a ?l ?c ?k (fun _ _ _ _ _ _ us hl => match us, hl with | [_, _], _ => rfl) fun d_l_below => ?rest46
    (case a => k_is); (case l => k_is); (case c => k_is); (case k => k_is)
    refine' TW.with_def (x := "_law_steps_small") (st := TW.s_l_steps_small) (ps := ["_law_hand_here", "_law_most", "_law_top"]) KX G ?a ?l ?c ?k (fun _ _ _ _ _ _ us hl => match us, hl with | [_, _, _], _ => rfl) fun d_l_steps_small => ?rest47
    (case a => k_is); (case l => k_is); (case c => k_is); (case k => k_is)
    refine' TW.with_def (x := "_law_let") (st := TW.s_l_let) (ps := ["_law_steps", "_law_one", "_law_other"]) KX G ?a ?l ?c ?k (fun _ _ _ _ _ _ us hl => match us, hl with | [_, _, _], _ => rfl) fun d_l_let => ?rest48
    (case a => k_is); (case l => k_is); (case c => k_is); (case k => k_is)
    refine' TW.with_def (x := "_law_flows") (st := TW.s_l_flows) (ps := ["_law_widths", "_law_pipes", "_law_filling_here"]) KX G ?a ?l ?c ?k (fun _ _ _ _ _ _ us hl => match us, hl with | [_, _, _], _ => rfl) fun d_l_flows => ?rest49
    (case a => k_is); (case l => k_is); (case c => k_is); (case k => k_is)
    refine' TW.with_def (x := "_law_moved") (st := TW.s_l_moved) (ps := ["_law_widths", "_law_pipes", "_law_filling_here", "_law_numbers"]) KX G ?a ?l ?c ?k (fun _ _ _ _ _ _ us hl => match us, hl with | [_, _, _, _], _ => rfl) fun d_l_moved => ?rest50
    (case a => k_is); (case l => k_is); (case c => k_is); (case k => k_is)
    refine' TW.with_def (x := "_law_web_parts") (st := TW.s_l_web_parts) (ps := ["_law_hand_here", "_law_most_vessels", "_law_most_pipes", "_law_most_steps", "_law_top"]) KX G ?a ?l ?c ?k (fun _ _ _ _ _ _ us hl => match us, hl with | [_, _, _, _, _], _ => rfl) fun d_l_web_parts => ?rest51
    (case a => k_is); (case l => k_is); (case c => k_is); (case k => k_is)
    refine' TW.with_def (x := "_law_filling") (st := TW.s_l_filling) (ps := ["_law_hand_here", "_law_widths", "_law_least", "_law_most"]) KX G ?a ?l ?c ?k (fun _ _ _ _ _ _ us hl => match us, hl with | [_, _, _, _], _ => rfl) fun d_l_filling => ?rest52
    (case a => k_is); (case l => k_is); (case c => k_is); (case k => k_is)
    refine' TW.with_def (x := "_law_all_openings") (st := TW.s_l_all_openings) (ps := ["_law_many"]) KX G ?a ?l ?c ?k (fun _ _ _ _ _ _ us hl => match us, hl with | [_], _ => rfl) fun d_l_all_openings => ?rest53
    (case a => k_is); (case l => k_is); (case c => k_is); (case k => k_is)
    refine' TW.with_def (x := "_law_opened") (st := TW.s_l_opened) (ps := ["_law_widths", "_law_pipes", "_law_filling_here", "_law_opening"]) KX G ?a ?l ?c ?k (fun _ _ _ _ _ _ us hl => match us, hl with | [_, _, _, _], _ => rfl) fun d_l_opened => ?rest54
    (case a => k_is); (case l => k_is); (case c => k_is); (case k => k_is)
    refine' TW.with_def (x := "_law_comings") (st := TW.s_l_comings) (ps := ["_law_widths", "_law_pipes", "_law_filling_here", "_law_most", "_law_single"]) KX G ?a ?l ?c ?k (fun _ _ _ _ _ _ us hl => match us, hl with | [_, _, _, _, _], _ => rfl) fun d_l_comings => ?rest55
    (case a => k_is); (case l => k_is); (case c => k_is); (case k => k_is)
    refine' TW.with_def (x := "_law_longest") (st := TW.s_l_longest) (ps := ["_law_comings_here", "_law_filling_here"]) KX G ?a ?l ?c ?k (fun _ _ _ _ _ _ us hl => match us, hl with | [_, _], _ => rfl) fun d_l_longest => ?rest56
    (case a => k_is); (case l => k_is); (case c => k_is); (case k => k_is)
    refine' TW.with_def (x := "_law_small_case") (st := TW.s_l_small_case) (ps := ["_law_hand_here", "_law_most"]) KX G ?a ?l ?c ?k (fun _ _ _ _ _ _ us hl => match us, hl with | [_, _], _ => rfl) fun d_l_small_case => ?rest57
    (case a => k_is); (case l => k_is); (case c => k_is); (case k => k_is)
    refine' TW.with_def (x := "law") (st := TW.s_law) (ps := ["_law_script"]) KX G ?a ?l ?c ?k (fun _ _ _ _ _ _ us hl => match us, hl with | [_], _ => rfl) fun d_law => ?rest58
    (case a => k_is); (case l => k_is); (case c => k_is); (case k => k_is)
    refine' TW.with_none (x := "len") KX G ?a fun b_len => ?rest59
    (case a => k_is)
    refine' TW.with_none (x := "abs") KX G ?a fun b_abs => ?rest60
    (case a => k_is)
    refine' TW.with_none (x := "max") KX G ?a fun b_max => ?rest61
    (case a => k_is)
    refine' TW.with_none (x := "isinstance") KX G ?a fun b_isinstance => ?rest62
    (case a => k_is)
    refine' TW.with_none (x := "all") KX G ?a fun b_all => ?rest63
    (case a => k_is)
    refine' TW.with_none (x := "any") KX G ?a fun b_any => ?rest64
    (case a => k_is)
    refine' TW.with_none (x := "tuple") KX G ?a fun b_tuple => ?rest65
    (case a => k_is)
    refine' TW.with_none (x := "list") KX G ?a fun b_list => ?rest66
    (case a => k_is)
    refine' TW.with_none (x := "sorted") KX G ?a fun b_sorted => ?rest67
    (case a => k_is)
    refine' TW.with_none (x := "int") KX G ?a fun b_int => ?rest68
    (case a => k_is)
    refine' TW.with_none (x := "bool") KX G ?a fun b_bool => ?rest69
    (case a => k_is)
    refine' TW.with_none (x := "range") KX G ?a fun b_range => ?rest70
    (case a => k_is)
    refine' TW.with_none (x := "zip") KX G ?a fun b_zip => ?rest71
    (case a => k_is)
    refine' TW.with_none (x := "enumerate") KX G ?a fun b_enumerate => ?rest72
    (case a => k_is)
    refine' TW.with_int (x := "MOST_THRESHOLDS") (i := 6) KX G ?a fun g_MOST_THRESHOLDS => ?rest73
    (case a => k_is)
    have g_MOST_TOP : ∃ t, mg "MOST_TOP" = some (.int 1000000 t) := TW.loose_int XP (List.mem_singleton.mpr rfl)
    refine' TW.with_int (x := "MOST_BOTTOM") (i := 144) KX G ?a fun g_MOST_BOTTOM => ?rest74
    (case a => k_is)
    refine' TW.with_int (x := "MOST_WIDTH") (i := 12) KX G ?a fun g_MOST_WIDTH => ?rest75
    (case a => k_is)
    refine' TW.with_int (x := "MOST") (i := 3000) KX G ?a fun g_MOST => ?rest76
    (case a => k_is)
    refine' TW.with_int (x := "MOST_VESSELS") (i := 12) KX G ?a fun g_MOST_VESSELS => ?rest77
    (case a => k_is)
    refine' TW.with_int (x := "MOST_PIPES") (i := 36) KX G ?a fun g_MOST_PIPES => ?rest78
    (case a => k_is)
    refine' TW.with_web KX G ?aC ?pg ?hd ?po ?sa ?mk ?kc ?a1 ?i1 ?l1 ?c1 ?k1 ?a2 ?i2 ?l2 ?c2 ?k2 ?nW ?nP ?nG fun web => ?restw
    (case aC => k_is)
    (case pg => k_is)
    (case hd => k_is)
    (case po => k_is)
    (case sa => k_is)
    (case mk => k_is)
    (case kc => k_is)
    (case a1 => k_is)
    (case i1 => k_is)
    (case l1 => k_is)
    (case c1 => k_is)
    (case k1 => k_is)
    (case a2 => k_is)
    (case i2 => k_is)
    (case l2 => k_is)
    (case c2 => k_is)
    (case k2 => k_is)
    (case nW => k_is)
    (case nP => k_is)
    (case nG => k_is)
    refine' TW.fin ⟨d_is_integer, d_is_between, d_is_pair, d_is_triple, d_is_row, d_is_lot, d_divisor, d_multiple, d_made, d_is_fraction, d_is_below, d_next_whole, d_is_threshold, d_is_list, d_is_width, d_parts_of_grain, d_in_grains, d_is_filling, d_check_filling, d_check_opening, d_drops_in_grains, d_runs_at, d_flows_of, d_opened, d_nets_of, d_moved, d_running, d_tick, d_running_openings, d_ways_on, d_comings, d_heights, d_longest_play, d_longest_single, d_endless, d_endless_play, d_endless_single, d_are_widths, d_is_pipe, d_gauge, d_l_hand, d_l_draw, d_l_some, d_l_divisor, d_l_made, d_l_below, d_l_steps_small, d_l_let, d_l_flows, d_l_moved, d_l_web_parts, d_l_filling, d_l_all_openings, d_l_opened, d_l_comings, d_l_longest, d_l_small_case, d_law, b_len, b_abs, b_max, b_isinstance, b_all, b_any, b_tuple, b_list, b_sorted, b_int, b_bool, b_range, b_zip, b_enumerate, g_MOST_THRESHOLDS, g_MOST_TOP, g_MOST_BOTTOM, g_MOST_WIDTH, g_MOST, g_MOST_VESSELS, g_MOST_PIPES, web⟩ KX G hmg ?a ?l ?c ?k
    (case a => k_is); (case l => k_is); (case c => k_is); (case k => k_is)
