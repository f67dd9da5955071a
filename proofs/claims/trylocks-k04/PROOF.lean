import PyProof.Rows.All
import Wide.All
import OpenK.AllK
import Wide.FinOn
import HandS.ForMost
import HandS.Codes
import HandS.Evl
import HandS.IsInst
import HandS.HeadHook2
import HandS.Lambda
import PySem.Challenge.RW_trylocks_k04_whole_far_rows
import HandS.Zip
import HandS.Walk
import KE.GoesEnum
import KE.GoesMore
import HandS.NestedK
import HandS.HeadWalk
import HandS.DictComp
import KE.KDictKeyed
import KE.KeyNested
import HandS.Dict
import HandS.Small
import HandS.WordsExc
import HandS.Wide
import HandS.Iter
import HandS.TupAny
import KE.KDictCopyH
import KE.KDictList
import HandS.TryMany
import PyProof.Rows.NestShow
import KE.KStateDown
import HandS.Base
import HandS.Call
import HandS.Ends
import HandS.More
import HandS.Words
import HandS.Defaults
import HandS.Head0
import HandS.Head1
import HandS.Head2
import HandS.HeadEnd
import HandS.HeadHook1
import HandS.HeadHook3
import HandS.HeadHook4
set_option Elab.async false
set_option linter.all false
set_option maxRecDepth 100000
set_option maxHeartbeats 0
/-! Trylocks, walk A: the text by places, what is known of the module (Tx), readings that leave some value (Er), the first defs. -/
namespace TL
open PySem PySem.Spec PyProof.Rows L2 Evl C8
/-- the i-th statement of the text -/
def top (i : Nat) : Stmt := PySem.Challenge.pw_trylocks_k04_whole_far_rows.main.body.getD i (.Pass ⟨0, 0, 0, 0⟩)
/-- a def that stands under its name and binds its parameters -/
structure DefB (K : PySem.W.Frag) (mg : Str → Option Value) (x : Str) (st : Stmt) (ps : List Str) : Prop where
  ex : ∃ (f : Addr) (fd : FuncData), Def K mg x st f fd ∧ Binds K fd ps []
/-- built-in names that the text leaves as they are -/
def freeNames : List Str := ["isinstance", "int", "bool", "tuple", "str", "len", "all", "any", "max", "min", "range", "enumerate", "zip", "list", "sorted", "sum"]
/-- the class Book -/
abbrev bkC (K : PySem.W.Frag) : Addr := He.ga K "Book"
/-- the module as the head leaves it -/
structure Tx (K : PySem.W.Frag) (mg : Str → Option Value) : Prop where
  free : ∀ x ∈ freeNames, mg x = none
  keys : ∃ a, mg "KEYS" = some (.ref a) ∧ ∀ H, SqT K H a [.str "account", .str "place", .str "both"]
  new : ∃ a, mg "NEW" = some (.ref a) ∧ ∀ H, SqT K H a [.int 0, .int 0, .int 0, .int 0, .int 0]
  factors : ∃ a, mg "FACTORS" = some (.ref a) ∧ ∀ H, SqT K H a [.int 1, .int 2, .int 4]
  words : ∃ a, mg "WORDS" = some (.ref a) ∧ ∀ H, SqT K H a [.str "in", .str "kept", .str "none", .str "opened", .str "wrong"]
  widest : ∃ t, mg "WIDEST" = some (.int 1000000000 t)
  mostRules : ∃ t, mg "MOST_RULES" = some (.int 3 t)
  clsB : Cls K (bkC K)
  naR : NoAttr K (bkC K) "rules"
  naA : NoAttr K (bkC K) "accounts"
  naP : NoAttr K (bkC K) "places"
  is_number : DefB K mg "is_number" (top 10) ["value", "least", "most"]
  is_rule : DefB K mg "is_rule" (top 11) ["value"]
  is_action : DefB K mg "is_action" (top 13) ["book", "value"]
  check_actions : DefB K mg "check_actions" (top 14) ["book", "values"]
  pairs_of : DefB K mg "pairs_of" (top 18) ["book"]
  keys_of : DefB K mg "keys_of" (top 19) ["book", "rule"]
  first_standing : DefB K mg "first_standing" (top 20) ["book"]
  is_at : DefB K mg "is_at" (top 21) ["key", "account", "place"]
  left_at : DefB K mg "left_at" (top 22) ["book", "standing", "account", "place"]
  is_locked : DefB K mg "is_locked" (top 23) ["book", "standing", "account", "place"]
  passed : DefB K mg "passed" (top 24) ["rule", "part", "many"]
  idle : DefB K mg "idle" (top 25) ["book", "standing", "many"]
  begun : DefB K mg "begun" (top 26) ["rule", "part"]
  kept_part : DefB K mg "kept_part" (top 27) ["rule", "part"]
  changed : DefB K mg "changed" (top 29) ["book", "standing", "is_touched", "change"]
  let_part : DefB K mg "let_part" (top 28) ["rule", "part"]

section
variable {P : Program} {w : World} {K : PySem.W.Frag} {mg : Str → Option Value} {base : Heap}
/-- a def by its body -/
theorem calT {x : Str} {st : Stmt} {N ps : List Str} {k : Nat} {sp : Sp} (D : DefB K mg x st ps) (S : FnScope N ps (fnScope st)) (len : ∀ vs H Q E, sp vs H Q E → vs.length = ps.length)
    (hbody : ∀ (f : Addr) (cdv : Value) (A : Around) (outer : List Env) (s : Shared) (H : Hp) (vs : List V) (Q : VK) (E : XK), Room k (A.deeper (envOfC x (fnScope st) s.heap.objs.size f cdv)) → sp vs H Q E →
      ∃ t, PSs (cxOf C8.CX0 P w K mg base N x (fnScope st) f cdv A outer s H E).nox (fnBody st) t ∧ t { nx := fun _ H' => Q .non H', rt := Q } (start N vs) H) : Cal P w K mg base (k + 1) x sp [] := by
  obtain ⟨f, fd, F, b⟩ := D.ex
  exact cal0 F b .nil S len fun cdv A outer s H vs Q E hr h => hbody f cdv A outer s H vs Q E hr h
theorem Tx.fr (T : Tx K mg) (x : Str) (h : x ∈ freeNames := by decide +kernel) : mg x = none := T.free x h
end

/-! ### readings that leave some value with a word -/
/-- te gives some value of which R holds -/
def Er (te : TE) (σ : L2.St) (H : Hp) (R : V → Hp → Prop) : Prop := ∀ H1, Ex H H1 → ∀ Q : VK, (∀ v H2, Ex H1 H2 → R v H2 → Q v H2) → te σ H1 Q
/-- the same of a list of arguments -/
def ErA (ta : TA) (σ : L2.St) (H : Hp) (R : List V → Hp → Prop) : Prop := ∀ H1, Ex H H1 → ∀ Q : List V → Hp → Prop, (∀ vs H2, Ex H1 H2 → R vs H2 → Q vs H2) → ta σ H1 Q
/-- a word that stays -/
def Stays (R : V → Hp → Prop) : Prop := ∀ v H H', Ex H H' → R v H → R v H'
/-- things that are never written once they stand -/
def keptO : HO → Bool
  | .tup _ => true
  | .ins _ _ _ => true
  | .frz _ _ => true
  | _ => false
/-- tuples, instances and frozen things stay -/
def ExT (H H' : Hp) : Prop := ∀ a o, H a = some o → keptO o = true → H' a = some o
/-- a word that leans on no list -/
def StaysT (R : V → Hp → Prop) : Prop := ∀ v H H', ExT H H' → R v H → R v H'
/-- what a promise hands back -/
def RetR (R : V → Hp → Prop) (H : Hp) (Q : VK) : Prop := ∀ v H2, Ex H H2 → R v H2 → Q v H2
section
variable {K : PySem.W.Frag} {σ : L2.St} {H H' : Hp} {te ta tb : TE} {tr : TA} {R R' : V → Hp → Prop} {S : List V → Hp → Prop} {v : V} {Q : VK}
theorem exT {H H' : Hp} (e : Ex H H') : ExT H H' := fun a o h _ => e a o h
theorem ExT.refl (H : Hp) : ExT H H := fun _ _ h _ => h
theorem ExT.trans {H H1 H2 : Hp} (a : ExT H H1) (b : ExT H1 H2) : ExT H H2 := fun x o h n => b x o (a x o h n) n
theorem ExT.lst {H : Hp} {p : Addr} {xs ys : List V} (h : H p = some (.lst xs)) : ExT H (upd H p (.lst ys)) := fun a o e n => by
  by_cases q : a = p
  · subst q
    rw [h] at e
    cases e
    cases n
  · rw [upd_ne q]
    exact e
theorem ExT.upd {H : Hp} {p : Addr} {o u : HO} (h : H p = some o) (hk : keptO o = false) : ExT H (upd H p u) := fun a o' e n => by
  by_cases q : a = p
  · subst q
    rw [h] at e
    cases e
    rw [hk] at n
    cases n
  · rw [upd_ne q]
    exact e
theorem exT_N {H H' : Hp} (e : LamX.ExtN H H') : ExT H H' := fun a o h n => e a o h fun ps z => by
  rw [z] at n
  cases n
theorem ExT.sq {K : PySem.W.Frag} {H H' : Hp} {a : Addr} {xs : List V} (e : ExT H H') (h : SqT K H a xs) : SqT K H' a xs := by
  rcases h with (h | ⟨o, h⟩) | h
  · exact .inl (.inl (e _ _ h rfl))
  · exact .inl (.inr ⟨o, e _ _ h rfl⟩)
  · exact .inr h
theorem StaysT.st {R : V → Hp → Prop} (h : StaysT R) : Stays R := fun v H H' e r => h v H H' (exT e) r
theorem Er.mono (e : Ex H H') (h : Er te σ H R) : Er te σ H' R := fun H1 a Q q => h H1 (e.trans a) Q q
theorem ErA.mono (e : Ex H H') (h : ErA tr σ H S) : ErA tr σ H' S := fun H1 a Q q => h H1 (e.trans a) Q q
theorem Er.imp (h : Er te σ H R) (i : ∀ v H2, Ex H H2 → R v H2 → R' v H2) : Er te σ H R' := fun H1 e Q q => h H1 e Q fun v H2 e2 r => q v H2 e2 (i v H2 (e.trans e2) r)
theorem er_of (h : Ev te σ H v) : Er te σ H (fun x _ => x = v) := fun H1 e Q q => h H1 e Q fun H2 e2 => q v H2 e2 rfl
theorem ev_of (h : Er te σ H (fun x _ => x = v)) : Ev te σ H v := fun H1 e Q q => h H1 e Q fun x H2 e2 r => by
  subst r
  exact q H2 e2
theorem era_nil : ErA tNil σ H (fun vs _ => vs = []) := fun H1 _ Q q => q [] H1 (Ex.refl H1) rfl
theorem era_cons (h : Er te σ H R) (st : Stays R) (hr : ∀ v H1, Ex H H1 → R v H1 → ErA tr σ H1 S) : ErA (tCons te tr) σ H (fun vs H2 => ∃ v r, vs = v :: r ∧ R v H2 ∧ S r H2) := fun H1 e Q q =>
  h H1 e _ fun v H2 e2 r2 => hr v H2 (e.trans e2) r2 H2 (Ex.refl H2) _ fun vs H3 e3 s3 => q (v :: vs) H3 (e2.trans e3) ⟨v, vs, rfl, st v H2 H3 e3 r2, s3⟩
/-- a new tuple -/
theorem er_tup (h : ErA tr σ H S) (hl : ∀ vs H2, Ex H H2 → S vs H2 → vs.length ≤ sizeLine) (i : ∀ vs H2 p H3, Ex H H2 → S vs H2 → H2 p = none → H3 = upd H2 p (.tup vs) → R (.ref p) H3) : Er (tTup tr) σ H R := fun H1 e Q q =>
  h H1 e _ fun vs H2 e2 s2 => ⟨hl vs H2 (e.trans e2) s2, fun p hp => q (.ref p) _ (e2.trans (Ex.new hp)) (i vs H2 p _ (e.trans e2) s2 hp rfl)⟩
/-- a call by its promise -/
theorem er_call {sp : Sp} {E : XK} (h : ErA tr σ H S) (hs : ∀ vs H2, Ex H H2 → S vs H2 → ∀ Q, RetR R H2 Q → ∀ E, sp vs H2 Q E) : Er (tCall sp [] E tr) σ H R := fun H1 e Q q =>
  h H1 e _ fun vs H2 e2 s2 => by
    rw [List.append_nil]
    exact hs vs H2 (e.trans e2) s2 _ (fun v H3 e3 r3 => q v H3 (e2.trans e3) r3) E
theorem er_if {t : TT} {b : Bool} (h : EvT t σ H b) (h1 : b = true → Er ta σ H R) (h2 : b = false → Er tb σ H R) : Er (tIf t ta tb) σ H R := fun H1 e Q q => h H1 e _ fun H2 e2 => by
  cases b with
  | true => exact h1 rfl H2 (e.trans e2) Q fun v H3 e3 r => q v H3 (e2.trans e3) r
  | false => exact h2 rfl H2 (e.trans e2) Q fun v H3 e3 r => q v H3 (e2.trans e3) r
theorem sr_ret {D : Ends} (h : Er te σ H R) (k : ∀ v H1, Ex H H1 → R v H1 → D.rt v H1) : tRet te D σ H := h H (Ex.refl H) _ k
theorem sr_asg {D : Ends} {i : Nat} (h : Er te σ H R) (k : ∀ v H1, Ex H H1 → R v H1 → D.nx (σ.set i (some v)) H1) : tAsg te (gName i) D σ H := h H (Ex.refl H) _ k
theorem qr_asg {D : Ends} {i : Nat} {tz : TS} (h : Er te σ H R) (k : ∀ v H1, Ex H H1 → R v H1 → tz D (σ.set i (some v)) H1) : tSeq (tAsg te (gName i)) tz D σ H := sr_asg (D := { D with nx := tz D }) h k
theorem ev_callV {sp : Sp} {E : XK} {vs : List V} {z : V} (h : EvA tr σ H vs) (hs : ∀ H1, Ex H H1 → ∀ Q : VK, RetV z H1 Q → ∀ E, sp vs H1 Q E) : Ev (tCall sp [] E tr) σ H z :=
  ev_call h fun H1 e Q q E => by
    rw [List.append_nil]
    exact hs H1 e Q q E
end

/-- a built-in class's name as a value -/
theorem pe_tyn {X : Cx} {x : Str} {n : String} {pos : Pos} (hg : Gl X x) (hm : X.mg x = none) (hv : bootBuiltins x = some (.type n)) (hn : x ≠ "__name__" := by decide) (hd : (x == ("__debug__" : Str)) = false := by decide) : PE X (.Name x pos) (tC (.ty n)) :=
  pe_bltn (v := .ty n) hg hm hv rfl hn hd
/-! ### is_number -/
/-- a whole number in a range -/
def isNum : V → Int → Int → Bool
  | .int i, lo, hi => decide (lo ≤ i) && decide (i ≤ hi)
  | _, _, _ => false
theorem sc_is_number : FnScope ["value", "least", "most"] ["value", "least", "most"] (fnScope (top 10)) := fnScope_by (by decide +kernel)
/-- plain values, whose type is known -/
inductive Plain (K : PySem.W.Frag) (H : Hp) : V → Prop
  | non : Plain K H .non
  | bl (b : Bool) : Plain K H (.bl b)
  | int (i : Int) : Plain K H (.int i)
  | str (x : Str) : Plain K H (.str x)
  | tup {a : Addr} {xs : List V} (h : SqT K H a xs) : Plain K H (.ref a)
theorem plain_ty {K : PySem.W.Frag} {H : Hp} {a : Addr} {xs : List V} (h : SqT K H a xs) : TyX K H (.ref a) (.type "tuple") := by
  rcases h with (h | ⟨o, h⟩) | ⟨o, its, n, h, c, _⟩
  · exact .base (.tup h)
  · exact .fTuple h
  · exact .kTuple h c
/-- its type's name -/
def tyName : V → String
  | .non => "NoneType"
  | .bl _ => "bool"
  | .int _ => "int"
  | .str _ => "str"
  | _ => "tuple"
theorem Plain.ty {K : PySem.W.Frag} {H : Hp} {v : V} (h : Plain K H v) : TyX K H v (.type (tyName v)) := by
  cases h with
  | non => exact .base .non
  | bl b => exact .base (.bl b)
  | int i => exact .base (.int i)
  | str x => exact .base (.str x)
  | tup h => exact plain_ty h
theorem Plain.ex {K : PySem.W.Frag} {H H' : Hp} {v : V} (e : Ex H H') (h : Plain K H v) : Plain K H' v := by
  cases h with
  | non => exact .non
  | bl b => exact .bl b
  | int i => exact .int i
  | str x => exact .str x
  | tup h => exact .tup (ex_t e h)
section
variable {K : PySem.W.Frag} {σ : L2.St} {H : Hp} {te : TE} {ta tb tc : TE} {v : V} {P : Program} {w : World} {mg : Str → Option Value} {base : Heap}
/-- isinstance(v, T), T a built-in class -/
theorem ev_isi {n T : String} {b : Bool} {tt : TE} (h : Ev te σ H v) (ht : Ev tt σ H (.ty T)) (p : Plain K H v) (hn : tyName v = n) (hb : kitB n T = some b) : Ev (tCB (rIsi K) (tCons te (tCons tt tNil))) σ H (.bl b) := fun H1 e Q q =>
  h H1 e _ fun H2 e2 => ht H2 (e.trans e2) _ fun H3 e3 => ⟨v, .ty T, _, _, b, rfl, .ty T, (p.ex ((e.trans e2).trans e3)).ty, kit_ty (by rw [hn]; exact hb), q H3 (e2.trans e3)⟩
theorem ev_chain {i j k : Int} {f g : Int → Int → Bool} (ha : Ev ta σ H (.int i)) (hb : Ev tb σ H (.int j)) (hc : Ev tc σ H (.int k)) :
    Ev (tChain (rI0 fun i j => .bl (f i j)) (rI0 fun i j => .bl (g i j)) ta tb tc) σ H (.bl (f i j && g j k)) := fun H1 e Q q =>
  ha H1 e _ fun H2 e2 => hb H2 (e.trans e2) _ fun H3 e3 => ⟨i, j, rfl, rfl, f i j, rfl, by
    cases hf : f i j with
    | true =>
      show tc σ H3 fun w' H4 => _
      refine hc H3 ((e.trans e2).trans e3) _ fun H4 e4 => ⟨j, k, rfl, rfl, ?_⟩
      have q4 := q H4 ((e2.trans e3).trans e4)
      rw [hf, Bool.true_and] at q4
      exact q4
    | false =>
      show Q (.bl false) H3
      have q3 := q H3 (e2.trans e3)
      rw [hf, Bool.false_and] at q3
      exact q3⟩
end
theorem ev_and0 {σ : L2.St} {H : Hp} {ta tb : TE} (h : Ev ta σ H (.bl false)) : Ev (tAndV ta tb) σ H (.bl false) := fun H1 e Q q => h H1 e _ fun H2 e2 => ⟨false, rfl, q H2 e2⟩
theorem ev_or1 {σ : L2.St} {H : Hp} {ta tb : TE} (h : Ev ta σ H (.bl true)) : Ev (tOrV ta tb) σ H (.bl true) := fun H1 e Q q => h H1 e _ fun H2 e2 => ⟨true, rfl, q H2 e2⟩
theorem ev_and1 {σ : L2.St} {H : Hp} {ta tb : TE} {b : Bool} (h : Ev ta σ H (.bl true)) (h2 : Ev tb σ H (.bl b)) : Ev (tAndV ta tb) σ H (.bl b) := fun H1 e Q q => h H1 e _ fun H2 e2 => ⟨true, rfl, h2 H2 (e.trans e2) Q fun H3 e3 => q H3 (e2.trans e3)⟩
theorem ev_or0 {σ : L2.St} {H : Hp} {ta tb : TE} {b : Bool} (h : Ev ta σ H (.bl false)) (h2 : Ev tb σ H (.bl b)) : Ev (tOrV ta tb) σ H (.bl b) := fun H1 e Q q => h H1 e _ fun H2 e2 => ⟨false, rfl, h2 H2 (e.trans e2) Q fun H3 e3 => q H3 (e2.trans e3)⟩
theorem et_and0 {σ : L2.St} {H : Hp} {t u : TT} (h : EvT t σ H false) : EvT (tAnd t u) σ H false := fun H1 e Q q => h H1 e _ fun H2 e2 => q H2 e2
theorem et_and1 {σ : L2.St} {H : Hp} {t u : TT} {b : Bool} (h : EvT t σ H true) (h2 : EvT u σ H b) : EvT (tAnd t u) σ H b := fun H1 e Q q => h H1 e _ fun H2 e2 => h2 H2 (e.trans e2) Q fun H3 e3 => q H3 (e2.trans e3)
theorem et_or1 {σ : L2.St} {H : Hp} {t u : TT} (h : EvT t σ H true) : EvT (tOr t u) σ H true := fun H1 e Q q => h H1 e _ fun H2 e2 => q H2 e2
theorem et_or0 {σ : L2.St} {H : Hp} {t u : TT} {b : Bool} (h : EvT t σ H false) (h2 : EvT u σ H b) : EvT (tOr t u) σ H b := fun H1 e Q q => h H1 e _ fun H2 e2 => h2 H2 (e.trans e2) Q fun H3 e3 => q H3 (e2.trans e3)
/-- a type's name as a value -/
theorem ev_ty {σ : L2.St} {H : Hp} {T : String} : Ev (tC (.ty T)) σ H (.ty T) := ev_c
section
variable {P : Program} {w : World} {K : PySem.W.Frag} {mg : Str → Option Value} {base : Heap}
def spIsNumber (K : PySem.W.Frag) : Sp := fun vs H Q _ => ∃ (v : V) (lo hi : Int), vs = [v, .int lo, .int hi] ∧ Plain K H v ∧ RetV (.bl (isNum v lo hi)) H Q
theorem c_is_number (T : Tx K mg) : Cal P w K mg base 1 "is_number" (spIsNumber K) [] := by
  refine calT T.is_number sc_is_number (fun vs H Q E h => ?_) (fun f cdv A outer s H vs Q E hr h => ?_)
  · obtain ⟨v, lo, hi, rfl, _⟩ := h
    rfl
  · obtain ⟨v, lo, hi, rfl, p, k⟩ := h
    refine ⟨_, pss_one (ps_ret (pe_and (pe_callB call_isi rfl (T.fr "isinstance") boot_isinstance (pa_cons (pv 0) (pa_cons (pe_tyn rfl (T.fr "int") boot_int) pa_nil)))
      (pe_and (pe_not (pe_callB call_isi rfl (T.fr "isinstance") boot_isinstance (pa_cons (pv 0) (pa_cons (pe_tyn rfl (T.fr "bool") boot_bool) pa_nil))))
        (pe_one (pe_chain op_le op_le (pv 1) (pv 0) (pv 2)))))), ?_⟩
    have hv : Ev (tVar 0) (start ["value", "least", "most"] [v, .int lo, .int hi]) H v := ev_var rfl
    have h1 : Ev (tVar 1) (start ["value", "least", "most"] [v, .int lo, .int hi]) H (.int lo) := ev_var rfl
    have h2 : Ev (tVar 2) (start ["value", "least", "most"] [v, .int lo, .int hi]) H (.int hi) := ev_var rfl
    have fin : ∀ b : Bool, b = isNum v lo hi → ∀ H1, Ex H H1 → Q (.bl b) H1 := fun b e H1 e1 => by
      subst e
      exact k H1 e1
    cases p with
    | non => exact s_ret (ev_and0 (ev_isi (n := "NoneType") hv ev_ty .non rfl (by decide +kernel))) (fin _ rfl)
    | str x => exact s_ret (ev_and0 (ev_isi (n := "str") hv ev_ty (.str x) rfl (by decide +kernel))) (fin _ rfl)
    | tup h => exact s_ret (ev_and0 (ev_isi (n := "tuple") hv ev_ty (.tup h) rfl (by decide +kernel))) (fin _ rfl)
    | bl b => exact s_ret (ev_and1 (ev_isi (n := "bool") hv ev_ty (.bl b) rfl (by decide +kernel)) (ev_and0 (ev_notV (ev_isi (n := "bool") (b := true) hv ev_ty (.bl b) rfl (by decide +kernel))))) (fin _ rfl)
    | int i => exact s_ret (ev_and1 (ev_isi (n := "int") hv ev_ty (.int i) rfl (by decide +kernel)) (ev_and1 (ev_notV (ev_isi (n := "int") (b := false) hv ev_ty (.int i) rfl (by decide +kernel))) (ev_chain h1 hv h2))) (fin _ rfl)
end
end TL
/-! Trylocks, mirror: what the program's defs compute, as plain functions. -/
namespace TL
/-- key: 0 account, 1 place, 2 both -/
structure Rule where
  key : Nat
  most : Int
  lock : Int
  fade : Int
  clears : Bool
  grows : Bool
  strict : Bool
structure Part where
  count : Int
  age : Int
  left : Int
  whole : Int
  streak : Int
  deriving DecidableEq
abbrev Stand := List (List Part)
abbrev Key := Option Int × Option Int
structure Book where
  rules : List Rule
  accs : Nat
  plcs : Nat
inductive Act where
  | none
  | try_ (a p : Int) (right : Bool)
  | open_ (a : Int)
/-- in, kept, none, opened, wrong -/
inductive Told where
  | tin | kept | none | opened | wrong
  deriving DecidableEq
def pairsOf (b : Book) : List Key := (List.range b.accs).flatMap fun (a : Nat) => (List.range b.plcs).map fun (p : Nat) => (some (a : Int), some (p : Int))
def keysOf (b : Book) (r : Rule) : List Key :=
  if r.key = 0 then (List.range b.accs).map fun (a : Nat) => (some (a : Int), none)
  else if r.key = 1 then (List.range b.plcs).map fun (p : Nat) => (none, some (p : Int))
  else pairsOf b
def newPart : Part := ⟨0, 0, 0, 0, 0⟩
def firstStand (b : Book) : Stand := b.rules.map fun r => (keysOf b r).map fun _ => newPart
def inO (x : Option Int) (a : Int) : Bool := match x with
  | none => true
  | some i => i == a
def isAt (k : Key) (a p : Int) : Bool := inO k.1 a && inO k.2 p
def leftAt (b : Book) (σ : Stand) (a p : Int) : List Int := (b.rules.zip σ).flatMap fun q => ((keysOf b q.1).zip q.2).filterMap fun z => if isAt z.1 a p then some z.2.left else none
def isLocked (b : Book) (σ : Stand) (a p : Int) : Bool := (leftAt b σ a p).any fun l => decide (0 < l)
/-- rules as the law builds them -/
def RuleOk (r : Rule) : Prop := r.key ≤ 2 ∧ (1 ≤ r.most ∧ r.most ≤ 3) ∧ (1 ≤ r.lock ∧ r.lock ≤ 4) ∧ (0 ≤ r.fade ∧ r.fade ≤ 5)
def max0 (i : Int) : Int := if 0 > i then 0 else i
def passed (r : Rule) (x : Part) (many : Int) : Part :=
  let l := max0 (x.left - many)
  let wh := if l ≠ 0 then x.whole else 0
  if r.fade ≠ 0 ∧ x.count ≠ 0 then
    if r.fade ≤ x.age + many then ⟨0, 0, l, wh, x.streak⟩ else ⟨x.count, x.age + many, l, wh, x.streak⟩
  else ⟨x.count, x.age, l, wh, x.streak⟩
def idle (b : Book) (σ : Stand) (many : Int) : Stand := (b.rules.zip σ).map fun q => q.2.map fun x => passed q.1 x many
def factor (s : Int) : Int := if s = 0 then 1 else if s = 1 then 2 else 4
def min2 (i : Int) : Int := if 2 < i then 2 else i
def begun (r : Rule) (x : Part) : Part :=
  if x.count + 1 < r.most then passed r ⟨x.count + 1, 0, 0, 0, x.streak⟩ 1
  else
    let size := r.lock * (if r.grows then factor x.streak else 1)
    ⟨0, 0, size, size, if r.grows then min2 (x.streak + 1) else 0⟩
def keptPart (r : Rule) (x : Part) : Part :=
  if r.strict ∧ x.left > 0 then
    let y := passed r x 1
    ⟨y.count, y.age, x.whole, x.whole, y.streak⟩
  else passed r x 1
def letPart (r : Rule) (x : Part) : Part := if r.clears then newPart else passed r x 1
def changed (b : Book) (σ : Stand) (touched : Rule → Key → Bool) (change : Rule → Part → Part) : Stand :=
  (b.rules.zip σ).map fun q => ((keysOf b q.1).zip q.2).map fun z => if touched q.1 z.1 then change q.1 z.2 else passed q.1 z.2 1
def step (b : Book) (σ : Stand) : Act → Told × Stand
  | .none => (.none, idle b σ 1)
  | .open_ a => (.opened, changed b σ (fun _ k => k.1 == some a) fun _ _ => newPart)
  | .try_ a p right =>
    if isLocked b σ a p then (.kept, changed b σ (fun _ k => isAt k a p) keptPart)
    else if right then (.tin, changed b σ (fun _ k => isAt k a p) letPart)
    else (.wrong, changed b σ (fun _ k => isAt k a p) begun)
end TL
/-! Trylocks, walk B: how data lie in the heap; passed and its kin. -/
namespace TL
open PySem PySem.Spec PyProof.Rows L2 Evl C8
/-! ### data -/
def keyStr (k : Nat) : Str := if k = 0 then "account" else if k = 1 then "place" else "both"
def ruleVs (r : Rule) : List V := [.str (keyStr r.key), .int r.most, .int r.lock, .int r.fade, .bl r.clears, .bl r.grows, .bl r.strict]
def partVs (x : Part) : List V := [.int x.count, .int x.age, .int x.left, .int x.whole, .int x.streak]
def oV : Option Int → V
  | none => .non
  | some i => .int i
section
variable (K : PySem.W.Frag)
def RuleAt (r : Rule) (v : V) (H : Hp) : Prop := ∃ a, v = .ref a ∧ SqT K H a (ruleVs r)
def PartAt (x : Part) (v : V) (H : Hp) : Prop := ∃ a, v = .ref a ∧ SqT K H a (partVs x)
def KeyAt (k : Key) (v : V) (H : Hp) : Prop := ∃ a, v = .ref a ∧ SqT K H a [oV k.1, oV k.2]
/-- a book's fields -/
def bookFs (ra : Addr) (b : Book) : List (Str × V) := [("rules", .ref ra), ("accounts", .int b.accs), ("places", .int b.plcs)]
def RulesAt (rs : List Rule) (a : Addr) (H : Hp) : Prop := ∃ vs, SqT K H a vs ∧ Paired (fun v r => RuleAt K r v H) vs rs
def BookAt (b : Book) (v : V) (H : Hp) : Prop := ∃ p dx ra, v = .ref p ∧ H p = some (.ins (bkC K) dx (bookFs ra b)) ∧ RulesAt K b.rules ra H
def PartsAt (ps : List Part) (v : V) (H : Hp) : Prop := ∃ a vs, v = .ref a ∧ SqT K H a vs ∧ Paired (fun v x => PartAt K x v H) vs ps
def StandAt (σ : Stand) (v : V) (H : Hp) : Prop := ∃ a vs, v = .ref a ∧ SqT K H a vs ∧ Paired (fun v ps => PartsAt K ps v H) vs σ
end
section
variable {K : PySem.W.Frag} {H H' : Hp}
theorem ruleAt_T {r : Rule} : StaysT (RuleAt K r) := fun v H H' e ⟨a, h, s⟩ => ⟨a, h, e.sq s⟩
theorem ruleAt_st {r : Rule} : Stays (RuleAt K r) := ruleAt_T.st
theorem partAt_T {x : Part} : StaysT (PartAt K x) := fun v H H' e ⟨a, h, s⟩ => ⟨a, h, e.sq s⟩
theorem partAt_st {x : Part} : Stays (PartAt K x) := partAt_T.st
theorem keyAt_T {k : Key} : StaysT (KeyAt K k) := fun v H H' e ⟨a, h, s⟩ => ⟨a, h, e.sq s⟩
theorem keyAt_st {k : Key} : Stays (KeyAt K k) := keyAt_T.st
theorem partsAt_T {ps : List Part} : StaysT (PartsAt K ps) := fun v H H' e ⟨a, vs, h, s, p⟩ => ⟨a, vs, h, e.sq s, Paired.mapP p fun v x q => partAt_T v H H' e q⟩
theorem standAt_T {σ : Stand} : StaysT (StandAt K σ) := fun v H H' e ⟨a, vs, h, s, p⟩ => ⟨a, vs, h, e.sq s, Paired.mapP p fun v x q => partsAt_T v H H' e q⟩
theorem partsAt_st {ps : List Part} : Stays (PartsAt K ps) := partsAt_T.st
theorem standAt_st {σ : Stand} : Stays (StandAt K σ) := standAt_T.st
theorem rulesAt_T {rs : List Rule} {a : Addr} {H H' : Hp} (e : ExT H H') (h : RulesAt K rs a H) : RulesAt K rs a H' := let ⟨vs, s, p⟩ := h; ⟨vs, e.sq s, Paired.mapP p fun v x q => ruleAt_T v H H' e q⟩
theorem bookAt_T {b : Book} : StaysT (BookAt K b) := fun v H H' e ⟨p, dx, ra, h, i, r⟩ => ⟨p, dx, ra, h, e _ _ i rfl, rulesAt_T e r⟩
theorem bookAt_st {b : Book} : Stays (BookAt K b) := bookAt_T.st
theorem bk_rules (ra : Addr) (b : Book) : (bookFs ra b).lookup ("rules" : Str) = some (.ref ra) := by
  unfold bookFs
  rw [List.lookup_cons, show (("rules" : Str) == ("rules" : Str)) = true by decide +kernel]
theorem bk_accs (ra : Addr) (b : Book) : (bookFs ra b).lookup ("accounts" : Str) = some (.int b.accs) := by
  unfold bookFs
  rw [List.lookup_cons, show (("accounts" : Str) == ("rules" : Str)) = false by decide +kernel]
  show List.lookup _ _ = _
  rw [List.lookup_cons, show (("accounts" : Str) == ("accounts" : Str)) = true by decide +kernel]
theorem bk_plcs (ra : Addr) (b : Book) : (bookFs ra b).lookup ("places" : Str) = some (.int b.plcs) := by
  unfold bookFs
  rw [List.lookup_cons, show (("places" : Str) == ("rules" : Str)) = false by decide +kernel]
  show List.lookup _ _ = _
  rw [List.lookup_cons, show (("places" : Str) == ("accounts" : Str)) = false by decide +kernel]
  show List.lookup _ _ = _
  rw [List.lookup_cons, show (("places" : Str) == ("places" : Str)) = true by decide +kernel]
theorem paired_get {α β : Type} {F : α → β → Prop} : ∀ {l : List α} {m : List β} {i : Nat} {x : α}, Paired F l m → l[i]? = some x → ∃ y, m[i]? = some y ∧ F x y
  | _, _, _, _, .nil, e => by simp at e
  | _, _, 0, _, .cons r _, e => by simp at e; subst e; exact ⟨_, rfl, r⟩
  | _, _, i + 1, x, .cons _ t, e => by
    obtain ⟨y, h1, h2⟩ := paired_get (i := i) (x := x) t (by simpa using e)
    exact ⟨y, by simpa using h1, h2⟩
end
theorem ev_fld {K : PySem.W.Frag} {σ : L2.St} {H : Hp} {ta : TE} {p C dx : Addr} {fs : List (Str × V)} {f : Str} {v : V} (h : Ev ta σ H (.ref p)) (ho : H p = some (.ins C dx fs)) (c : Cls K C) (n : NoAttr K C f) (hl : fs.lookup f = some v) : Ev (tFld K ta f) σ H v := fun H1 e Q q =>
  h H1 e _ fun H2 e2 => ⟨p, C, dx, fs, v, rfl, e2 _ _ (e _ _ ho), c, n, hl, q H2 e2⟩
theorem s_retCall {σ : L2.St} {H : Hp} {sp : Sp} {E : XK} {ta : TA} {vs : List V} {D : Ends} (h : EvA ta σ H vs) (k : ∀ H1, Ex H H1 → sp vs H1 D.rt E) : tRet (tCall sp [] E ta) D σ H := h H (Ex.refl H) _ fun H1 e => by
  rw [List.append_nil]
  exact k H1 e
theorem er_part {K : PySem.W.Frag} {σ : L2.St} {H : Hp} {te : TE} {v : V} {x : Part} (h : Ev te σ H v) (p : PartAt K x v H) : Er te σ H (PartAt K x) := fun H1 e Q q => h H1 e Q fun H2 e2 => q v H2 e2 (partAt_st v H H2 (e.trans e2) p)
/-! ### readings of ints -/
section
variable {K : PySem.W.Frag} {σ : L2.St} {H : Hp} {ta tb : TE}
theorem et_truI {i : Int} (h : Ev ta σ H (.int i)) : EvT (fun σ H Q => ta σ H fun x H' => ∃ k, TruV K x H' k ∧ Q k H') σ H (decide (i ≠ 0)) := fun H1 e Q q => h H1 e _ fun H2 e2 => ⟨decide (i ≠ 0), by
  show decide (i ≠ 0) = (i != 0)
  by_cases z : i = 0
  · subst z; rfl
  · rw [decide_eq_true z]
    exact (bne_iff_ne.mpr z).symm, q H2 e2⟩
theorem ev_ixT {a : Addr} {xs : List V} {n : Nat} {v : V} (h : Ev ta σ H (.ref a)) (hi : Ev tb σ H (.int (n : Int))) (s : SqT K H a xs) (e : xs[n]? = some v) : Ev (tOp (rIxT K) ta tb) σ H v := ev_op h hi (rv_ixT s (atI_nat e))
theorem ev_add {i j : Int} (h : Ev ta σ H (.int i)) (g : Ev tb σ H (.int j)) : Ev (tOp (rI0 fun i j => .int (i + j)) ta tb) σ H (.int (i + j)) := ev_op h g rv_I0
theorem ev_sub {i j : Int} (h : Ev ta σ H (.int i)) (g : Ev tb σ H (.int j)) : Ev (tOp (rI0 fun i j => .int (i - j)) ta tb) σ H (.int (i - j)) := ev_op h g rv_I0
theorem et_op {r : R2} {b : Bool} {x y : V} (h : Ev ta σ H x) (g : Ev tb σ H y) (hr : RV r x y H (.bl b)) : EvT (tTest (tOp r ta tb)) σ H b := et_test (ev_op h g hr)
end
theorem ev_ite {σ : L2.St} {H : Hp} {t : TT} {ta tb : TE} {b : Bool} {x y : V} (h : EvT t σ H b) (h1 : Ev ta σ H x) (h2 : Ev tb σ H y) : Ev (tIf t ta tb) σ H (if b = true then x else y) := by
  cases b with
  | true => exact ev_if h (fun _ => h1) fun z => by cases z
  | false => exact ev_if h (fun z => by cases z) fun _ => h2
theorem er_part5 {K : PySem.W.Frag} {σ : L2.St} {H : Hp} {t1 t2 t3 t4 t5 : TE} {c a l s : Int} {w : V} (h1 : Ev t1 σ H (.int c)) (h2 : Ev t2 σ H (.int a)) (h3 : Ev t3 σ H (.int l)) (h4 : Ev t4 σ H w) (h5 : Ev t5 σ H (.int s)) :
    Er (tTup (tCons t1 (tCons t2 (tCons t3 (tCons t4 (tCons t5 tNil)))))) σ H (fun v H2 => ∃ p, v = .ref p ∧ SqT K H2 p [.int c, .int a, .int l, w, .int s]) := fun H1 e Q q =>
  eu_tup (ea_cons h1 (ea_cons h2 (ea_cons h3 (ea_cons h4 (ea_cons h5 ea_nil))))) (by show 5 ≤ 100000; decide) H1 e Q fun p H2 _ e2 h => q _ H2 e2 ⟨p, rfl, SqT.of h⟩
/-! ### passed -/
section
variable {P : Program} {w : World} {K : PySem.W.Frag} {mg : Str → Option Value} {base : Heap}
def nPassed : List Str := ["rule", "part", "many", "count", "age", "left", "whole", "streak"]
theorem sc_passed : FnScope nPassed ["rule", "part", "many"] (fnScope (top 24)) := fnScope_by (by decide +kernel)
def spPassed (K : PySem.W.Frag) : Sp := fun vs H Q _ => ∃ (vr vp : V) (r : Rule) (x : Part) (many : Int), vs = [vr, vp, .int many] ∧ RuleAt K r vr H ∧ PartAt K x vp H ∧ RetR (PartAt K (passed r x many)) H Q
theorem c_passed (T : Tx K mg) : Cal P w K mg base 1 "passed" (spPassed K) [] := by
  refine calT T.passed sc_passed (fun vs H Q E h => ?_) (fun f cdv A outer s H vs Q E hr h => ?_)
  · obtain ⟨vr, vp, r, x, many, rfl, _⟩ := h
    rfl
  · obtain ⟨vr, vp, r, x, many, rfl, ⟨ar, rfl, hR⟩, ⟨ap, rfl, hP⟩, k⟩ := h
    have nd := sc_passed.nd
    refine ⟨_, pss_cons (ps_asg (pv 1) (pg_tup (n := 5) rfl (pgs_cons (pg_name (i := 3) nd rfl (.inl rfl)) (pgs_cons (pg_name (i := 4) nd rfl (.inl rfl)) (pgs_cons (pg_name (i := 5) nd rfl (.inl rfl)) (pgs_cons (pg_name (i := 6) nd rfl (.inl rfl)) (pgs_cons (pg_name (i := 7) nd rfl (.inl rfl)) pgs_nil)))))))
      (pss_cons (ps_set (i := 5) nd rfl (.inl rfl) (pe_callB (call_max2 rfl) rfl (T.fr "max") (by decide +kernel) (pa_cons (pe_op op_sub (pv 5) (pv 2)) (pa_cons pe_int pa_nil))))
      (pss_cons (ps_if (PW.pt (pw_and (pt_truth (pe_ix ix_tup (pv 0) pe_int (fun _ _ => rfl)) (by intro _; rfl)) (pw_and1 (pt_truth (pv 3) (by intro _; rfl)))))
          (pss_cons (ps_aug (i := 4) nd rfl (.inl rfl) (pv 2) ip_add)
            (pss_one (ps_if (pt_cmpR op_ge (pv 4) (pe_ix ix_tup (pv 0) pe_int (fun _ _ => rfl)) (nomark _))
              (pss_one (ps_asg (pe_tup (pa_cons pe_int (pa_cons pe_int pa_nil))) (pg_tup (n := 2) rfl (pgs_cons (pg_name (i := 3) nd rfl (.inl rfl)) (pgs_cons (pg_name (i := 4) nd rfl (.inl rfl)) pgs_nil))))) pss_nil))) pss_nil)
      (pss_one (ps_ret (pe_tup (pa_cons (pv 3) (pa_cons (pv 4) (pa_cons (pv 5) (pa_cons (pe_ifExp (pt_truth (pv 5) (by intro _; rfl)) (pv 6) pe_int) (pa_cons (pv 7) pa_nil)))))))))), ?_⟩
    have hs : start nPassed [.ref ar, .ref ap, .int many] = [some (.ref ar), some (.ref ap), some (.int many), none, none, none, none, none] := rfl
    rw [hs]
    refine ⟨_, rfl, ap, _, rfl, hP, rfl, _, _, rfl, _, _, rfl, _, _, rfl, _, _, rfl, _, _, rfl, rfl, ?_⟩
    have fin : ∀ {c a : Int} {H1 : Hp} {σ1 : L2.St}, Ex H H1 → σ1[3]? = some (some (.int c)) → σ1[4]? = some (some (.int a)) → σ1[5]? = some (some (.int (max0 (x.left - many)))) → σ1[6]? = some (some (.int x.whole)) → σ1[7]? = some (some (.int x.streak)) →
        passed r x many = ⟨c, a, max0 (x.left - many), if max0 (x.left - many) ≠ 0 then x.whole else 0, x.streak⟩ →
        tRet (tTup (tCons (tVar 3) (tCons (tVar 4) (tCons (tVar 5) (tCons (tIf (fun σ H Q => tVar 5 σ H fun x H' => ∃ k, TruV K x H' k ∧ Q k H') (tVar 6) (tC (V.int 0))) (tCons (tVar 7) tNil)))))) { nx := fun _ H' => Q .non H', rt := Q } σ1 H1 :=
      fun {c a H1 σ1} e1 h3 h4 h5 h6 h7 eq => sr_ret (er_part5 (K := K) (ev_var h3) (ev_var h4) (ev_var h5) (ev_ite (et_truI (K := K) (ev_var h5)) (ev_var h6) ev_c) (ev_var h7)) fun v H2 e2 r2 => k v H2 (e1.trans e2) (by
        rw [eq]
        by_cases z : max0 (x.left - many) ≠ 0
        · rw [decide_eq_true z] at r2
          rw [if_pos z]
          exact r2
        · rw [decide_eq_false z] at r2
          rw [if_neg z]
          exact r2)
    refine q_asg (ev_max2 (ev_sub (ev_var rfl) (ev_var rfl)) ev_c) fun H1 e1 => ?_
    have hf : ∀ {H2 : Hp} {σ2 : L2.St}, Ex H H2 → σ2[0]? = some (some (.ref ar)) → Ev (tOp (rIxT K) (tVar 0) (tC (.int 3))) σ2 H2 (.int r.fade) := fun e2 h0 => ev_ixT (n := 3) (ev_var h0) ev_c (ex_t e2 hR) rfl
    by_cases z1 : r.fade ≠ 0
    · by_cases z2 : x.count ≠ 0
      · refine q_when (b := true) (et_and1 (et_is (et_truI (hf e1 rfl)) (decide_eq_true z1)) (et_is (et_truI (ev_var rfl)) (decide_eq_true z2))) (fun _ H2 e2 => ?_) (fun z => by cases z)
        refine q_aug rfl (ev_var rfl) fun H3 e3 => ?_
        have e123 := (e1.trans e2).trans e3
        by_cases z3 : r.fade ≤ x.age + many
        · refine s_when (b := true) (et_is (et_op (ev_var rfl) (hf e123 rfl) rv_I0) (decide_eq_true z3)) (fun _ H4 e4 => ?_) (fun z => by cases z)
          refine (eu_tup (ea_cons ev_c (ea_cons ev_c ea_nil)) (by decide)) H4 (Ex.refl H4) _ fun p H5 hp e5 h5 => ?_
          refine ⟨p, _, rfl, SqT.of h5, rfl, _, _, rfl, _, _, rfl, rfl, ?_⟩
          refine fin ((e123.trans e4).trans e5) rfl rfl rfl rfl rfl ?_
          unfold passed
          rw [if_pos ⟨z1, z2⟩, if_pos z3]
        · refine s_when (b := false) (et_is (et_op (ev_var rfl) (hf e123 rfl) rv_I0) (decide_eq_false z3)) (fun z => by cases z) (fun _ H4 e4 => ?_)
          refine fin (e123.trans e4) rfl rfl rfl rfl rfl ?_
          unfold passed
          rw [if_pos ⟨z1, z2⟩, if_neg z3]
      · refine q_when (b := false) (et_and1 (et_is (et_truI (hf e1 rfl)) (decide_eq_true z1)) (et_is (et_truI (ev_var rfl)) (decide_eq_false z2))) (fun z => by cases z) (fun _ H2 e2 => ?_)
        refine fin (e1.trans e2) rfl rfl rfl rfl rfl ?_
        unfold passed
        rw [if_neg fun q => z2 q.2]
    · refine q_when (b := false) (et_and0 (et_is (et_truI (hf e1 rfl)) (decide_eq_false z1))) (fun z => by cases z) (fun _ H2 e2 => ?_)
      refine fin (e1.trans e2) rfl rfl rfl rfl rfl ?_
      unfold passed
      rw [if_neg fun q => z1 q.1]
end
end TL
/-! Trylocks, walk W: zip of a list and a tuple; what a for or a comprehension walks, told once (ErI); comprehensions that make a new list (ErL). -/
namespace TL
open PySem PySem.Spec PyProof.Rows L2 Evl C8 RZ
/-! ### pieces of a text -/
def exOf : Stmt → Expr
  | .Return (some e) _ => e
  | .Assign _ e _ => e
  | .Expr e _ => e
  | _ => .Constant .none 0 ⟨0, 0, 0, 0⟩
def arg0 : Expr → Expr
  | .Call _ (e :: _) _ _ => e
  | e => e
def lcElt : Expr → Expr
  | .ListComp e _ _ _ => e
  | e => e
def lcSc : Expr → Scope
  | .ListComp _ _ sc _ => sc
  | _ => ⟨.function, [], false, false, []⟩
def bodyAt (st : Stmt) (i : Nat) : Stmt := (fnBody st).getD i (.Pass ⟨0, 0, 0, 0⟩)
/-! ### zip(list, tuple) -/
/-- the list at a and the tuple at b as they stand at each turn, the items in new pairs -/
def ItzLT (K : PySem.W.Frag) (a b : Addr) : It :=
  ⟨fun i H => ∃ (xs ys : List V) (x y : V), SqL K H a xs ∧ SqT K H b ys ∧ xs[i]? = some x ∧ ys[i]? = some y,
    fun i H v H' => ∃ T x y, v = .ref T ∧ H T = none ∧ H' = upd H T (.tup [x, y]) ∧ (∀ xs, SqL K H a xs → xs[i]? = some x) ∧ ∀ ys, SqT K H b ys → ys[i]? = some y,
    fun i H => ∃ xs ys : List V, SqL K H a xs ∧ SqT K H b ys ∧ xs.length = ys.length ∧ xs.length = i⟩
theorem sep_of {z TI TO i1 i2 a b : Addr} (D : ZipApart z TI TO i1 i2 a b) : ZipSep2 z TI TO i1 i2 [i1, a] [i2, b] where
  TIz := D.TIz
  TOz := D.TOz
  TITO := D.TITO
  TIi1 := D.TIi1
  mem1 := by simp
  zf1 := by
    intro h
    simp only [List.mem_cons, List.not_mem_nil, or_false] at h
    rcases h with h | h
    · exact D.i1z h.symm
    · exact D.l1z h.symm
  Tf1 := by
    intro h
    simp only [List.mem_cons, List.not_mem_nil, or_false] at h
    rcases h with h | h
    · exact D.TOi1 h
    · exact D.l1TO h.symm
  TIi2 := D.TIi2
  mem2 := by simp
  zf2 := by
    intro h
    simp only [List.mem_cons, List.not_mem_nil, or_false] at h
    rcases h with h | h
    · exact D.i2z h.symm
    · exact D.l2z h.symm
  Tf2 := by
    intro h
    simp only [List.mem_cons, List.not_mem_nil, or_false] at h
    rcases h with h | h
    · exact D.TOi2 h
    · exact D.l2TO h.symm
  sep1_2 := by
    intro h
    simp only [List.mem_cons, List.not_mem_nil, or_false] at h
    rcases h with h | h
    · exact D.i12 h
    · exact D.l2i1 h.symm
  sep2_1 := by
    intro h
    simp only [List.mem_cons, List.not_mem_nil, or_false] at h
    rcases h with h | h
    · exact D.i12 h.symm
    · exact D.l1i2 h.symm
theorem mem5 {c z TI TO i1 i2 : Addr} (h : c ∈ [z, TI, TO, i1, i2]) : c = z ∨ c = TI ∨ c = TO ∨ c = i1 ∨ c = i2 := by simpa using h
theorem turn_zipLT {P : Program} {w : World} {K : PySem.W.Frag} {elts : List Expr} {kk : Nat} {tpos : Pos} {a b z TI TO i1 i2 : Addr} (D : ZipApart z TI TO i1 i2 a b) :
    Turn P w K (.Tuple elts kk tpos) (ItzLT K a b) [z, TI, TO, i1, i2] z (fun i h => IsZip h z TI TO .none ∧ IsPair h TI (.ref i1) (.ref i2) ∧ (∃ x y, IsPair h TO x y) ∧ h.IsListIter i1 a i ∧ h.IsTupleIter i2 b i) where
  mem := List.mem_cons_self
  obj := fun i h ⟨hz, hTI, ⟨x, y, hTO⟩, ⟨o1, e1, _, d1⟩, ⟨o2, e2, _, d2⟩⟩ c hc => by
    rcases mem5 hc with q | q | q | q | q <;> subst q
    · exact ⟨_, hz, fun v q => nomatch q⟩
    · exact ⟨_, hTI, fun v q => nomatch q⟩
    · exact ⟨_, hTO, fun v q => nomatch q⟩
    · exact ⟨o1, e1, fun v q => by rw [d1] at q; cases q⟩
    · exact ⟨o2, e2, fun v q => by rw [d2] at q; cases q⟩
  keep := fun i h h' ⟨hz, hTI, ⟨x, y, hTO⟩, h1, h2⟩ k => ⟨k z (by simp) _ hz, k TI (by simp) _ hTI, ⟨x, y, k TO (by simp) _ hTO⟩, h1.at fun o q => k i1 (by simp) o q, h2.at fun o q => k i2 (by simp) o q⟩
  item := by
    intro X hP hw hK hc i pins s σ H E I hf ⟨hz, hTI, ⟨x0, y0, hTO⟩, h1, h2⟩ ⟨xs, ys, x, y, hqx, hqy, hx, hy⟩
    subst hP hw hK
    obtain ⟨its, rv, p, _⟩ := I.list hqx
    obtain ⟨its2, rv2, p2, _⟩ := I.tuple hqy
    obtain ⟨u, hu, ru⟩ := rv.get hx
    obtain ⟨u2, hu2, ru2⟩ := rv2.get hy
    have hzl : z < s.heap.objs.size := Heap.lt_size hz
    have hh := I.ok.hd hc
    have b1 : i < its.toArray.size := by have := (List.getElem?_eq_some_iff.mp hu).1; simpa using this
    have b2 : i < its2.toArray.size := by have := (List.getElem?_eq_some_iff.mp hu2).1; simpa using this
    refine wpAny_pyNext_zipD2_item (sep_of D) (Draws.list (A := X.A.in1) hh i1 a D.l1i1 its.toArray) (Draws.tuple (A := X.A.in1) hh i2 b D.l2i2 its2.toArray) hz hTI hTO ⟨h1, p.isList⟩ ⟨h2, p2⟩ b1 b2 fun x1 x2 h' tk e1 e2 z' TO' st1 st2 hT hsz hk => ?_
    have eu : x1 = u := by
      have q : its.toArray[i]? = some u := by simpa using hu
      rw [q] at e1
      exact (Option.some.inj e1).symm
    have eu2 : x2 = u2 := by
      have q : its2.toArray[i]? = some u2 := by simpa using hu2
      rw [q] at e2
      exact (Option.some.inj e2).symm
    subst eu eu2
    refine ⟨_, rfl, wpAny_letOwnedTupleGo_zip (s := { s with heap := h', toks := tk }) z' fun h'' z'' sb => ?_⟩
    have hT2 : h''.get? s.heap.objs.size = some { cls := .type "tuple", data := .seq #[x1, x2] } := (sb.2 _ (Nat.ne_of_gt hzl)).trans hT
    have new : ObjOk X.prog X.w (upd H s.heap.objs.size (.tup [x, y])) h'' s.heap.objs.size (.tup [x, y]) := ⟨by show 2 ≤ sizeLine; decide, [x1, x2], .cons ru (.cons ru2 .nil), ⟨_, hT2, rfl, _, rfl⟩⟩
    have I1 : Inv X pins σ (upd H s.heap.objs.size (.tup [x, y])) { s with heap := h'', toks := tk } :=
      I.turnedNew (t' := tk) (ch := [z, TI, TO, i1, i2]) (fun c o hb q => (sb.2 c fun q' => hb (by simp [q'])).trans (hk c o (fun q' => hb (by simp [q'])) (fun q' => hb (by simp [q'])) (fun q' => hb (by simp [q'])) (fun q' => hb (by simp [q'])) q)) hf (Nat.le_refl _) new
    refine ⟨.ref s.heap.objs.size, _, I1, rfl, ⟨_, x, y, rfl, I.hok.fresh (Nat.le_refl _), rfl, fun l hl => by rw [I.list_inj hl hqx]; exact hx, fun l hl => by rw [I.tuple_inj hl hqy]; exact hy⟩, ⟨z'', ?_, ⟨x1, x2, ?_⟩, ?_, ?_⟩, fun c hcm => ?_⟩
    · exact (sb.2 _ D.TIz).trans (hk _ _ D.TIz D.TITO D.TIi1 D.TIi2 hTI)
    · exact (sb.2 _ D.TOz).trans TO'
    · exact st1.1.at fun o q => (sb.2 _ D.i1z).trans q
    · exact st2.1.at fun o q => (sb.2 _ D.i2z).trans q
    · have hlt : c < s.heap.objs.size := by
        rcases mem5 hcm with q | q | q | q | q <;> subst q
        · exact hzl
        · exact Heap.lt_size hTI
        · exact Heap.lt_size hTO
        · obtain ⟨_, e1, _⟩ := h1; exact Heap.lt_size e1
        · obtain ⟨_, e2, _⟩ := h2; exact Heap.lt_size e2
      rw [upd_ne (Nat.ne_of_lt hlt)]
      exact (hf c hcm).1
  done := by
    intro X hP hw hK hc i pins s σ H E I hf ⟨hz, hTI, ⟨x0, y0, hTO⟩, h1, h2⟩ ⟨xs, ys, hqx, hqy, hl, hi⟩
    subst hP hw hK
    obtain ⟨its, rv, p, _⟩ := I.list hqx
    obtain ⟨its2, rv2, p2, _⟩ := I.tuple hqy
    have l1 := rv.length
    have l2 := rv2.length
    have hh := I.ok.hd hc
    have n1 : i = its.toArray.size := by simp; omega
    have n2 : i = its2.toArray.size := by simp; omega
    refine wpAny_pyNext_zipD2_end (sep_of D) (Draws.list (A := X.A.in1) hh i1 a D.l1i1 its.toArray) (Draws.tuple (A := X.A.in1) hh i2 b D.l2i2 its2.toArray) hz hTI hTO ⟨h1, p.isList⟩ ⟨h2, p2⟩ (Nat.le_of_eq n1) (Nat.le_of_eq n2) (.inl n1) fun h' tk hk => ?_
    exact ⟨rfl, I.turnedL (t' := tk) (ch := [z, TI, TO, i1, i2]) (fun c o hb q => hk c o (fun q' => hb (by simp [q'])) (fun q' => hb (by simp [q'])) (fun q' => hb (by simp [q'])) (fun q' => hb (by simp [q'])) q) hf⟩
  self := fun A i s Q E st h => wpAny_pyIter_zip st.1 h
def iZipLT (K : PySem.W.Frag) (ta : TA) : TI := fun σ H R => ta σ H fun vs H1 => ∃ a b xs ys, vs = [.ref a, .ref b] ∧ SqL K H1 a xs ∧ SqT K H1 b ys ∧ R (ItzLT K a b) H1
theorem pi_zipLT {X : Cx} {e e2 : Expr} {ta : TA} {p pos tpos : Pos} {elts : List Expr} {kk : Nat} (hg : Gl X "zip") (hm : X.mg "zip" = none) (ha : PA X [e, e2] ta)
    (hs : starEach [e, e2] X.env = (false, eval e X.env) :: starEach [e2] X.env := by rfl) (hpl : (backTo pos (starEach [e2] X.env)).any (·.1) = false := by rfl) :
    PI X (.Tuple elts kk tpos) (.Call (.Name "zip" p) [e, e2] [] pos) (iZipLT X.K ta) := by
  refine ⟨fun pins s σ H R I h => ?_⟩
  refine Call_ (ld_blt I hg hm PyProof.Rows.boot_zip (PyProof.Rows.callWith_type1 (thn (ha.run pos pins s σ H _ I h) fun us s1 ⟨vs, H1, I1, r1, a, b, xs, ys, ex, hqx, hqy, q⟩ => ?_) hs hpl))
  subst ex
  cases r1 with
  | cons r rr =>
    cases rr with
    | cons r' rr =>
      cases rr
      cases r
      cases r'
      obtain ⟨its, rv, p1, _⟩ := I1.list hqx
      obtain ⟨its2, rv2, p2, _⟩ := I1.tuple hqy
      have hb : b < s1.heap.objs.size := by
        obtain ⟨o2, ho2, _⟩ := id p2
        exact Heap.lt_size ho2
      refine zip_begins2 (begins_list a its.toArray) (begins_tuple b its2.toArray) p1.isList p2 fun h' hz hTI hTO h1 h2 hsz hk => wpAny_pyIter_zip hz ?_
      have I2 : Inv X pins σ H1 { s1 with heap := h' } := I1.kept (t' := s1.toks) hk
      refine ⟨s1.heap.objs.size + 4, [s1.heap.objs.size + 4, s1.heap.objs.size + 2, s1.heap.objs.size + 3, s1.heap.objs.size, s1.heap.objs.size + 1], _, _, H1, rfl, I2, turn_zipLT (PySem.W.ktu_apart s1.heap.objs.size a b p1.lt hb), ⟨hz, hTI, ⟨_, _, hTO⟩, ⟨_, h1, rfl, rfl⟩, ⟨_, h2, rfl, rfl⟩⟩, fun c hcm => ?_, q⟩
      have hle : s1.heap.objs.size ≤ c := by
        rcases mem5 hcm with q | q | q | q | q <;> subst q
        · exact Nat.le_add_right _ _
        · exact Nat.le_add_right _ _
        · exact Nat.le_add_right _ _
        · exact Nat.le_refl _
        · exact Nat.le_add_right _ _
      exact I1.fpOk hle (I1.hok.fresh hle)
section
variable {K : PySem.W.Frag} {a b : Addr} {xs ys : List V}
theorem walk_zipT (hl : xs.length = ys.length) : Walk (ItzT K a b) xs.length (fun H => SqT K H a xs ∧ SqT K H b ys) (YPair (fun i => xs[i]?) fun i => ys[i]?) :=
  ⟨fun i _ hi q => ⟨xs, ys, xs[i], ys[i]'(by omega), q.1, q.2, by simp [hi], by simp [show i < ys.length by omega]⟩, fun _ q => ⟨xs, ys, q.1, q.2, .inl (Nat.le_refl _)⟩, fun i H v H' _ q y => by
    obtain ⟨T, x, z, h1, h2, h3, h4, h5⟩ := y
    exact ⟨T, x, z, h1, h2, h3, h4 xs q.1, h5 ys q.2⟩⟩
theorem walk_zipLT (hl : xs.length = ys.length) : Walk (ItzLT K a b) xs.length (fun H => SqL K H a xs ∧ SqT K H b ys) (YPair (fun i => xs[i]?) fun i => ys[i]?) :=
  ⟨fun i _ hi q => ⟨xs, ys, xs[i], ys[i]'(by omega), q.1, q.2, by simp [hi], by simp [show i < ys.length by omega]⟩, fun _ q => ⟨xs, ys, q.1, q.2, hl, rfl⟩, fun i H v H' _ q y => by
    obtain ⟨T, x, z, h1, h2, h3, h4, h5⟩ := y
    exact ⟨T, x, z, h1, h2, h3, h4 xs q.1, h5 ys q.2⟩⟩
end
theorem paired_app {α β : Type} {F : α → β → Prop} : ∀ {l l' : List α} {m m' : List β}, Paired F l m → Paired F l' m' → Paired F (l ++ l') (m ++ m')
  | _, _, _, _, .nil, s => s
  | _, _, _, _, .cons r t, s => .cons r (paired_app t s)
/-! ### what is walked, told once -/
def ErI (wi : TI) (σ : L2.St) (H : Hp) (n : Nat) (Y : Nat → Hp → V → Hp → Prop) : Prop := ∀ H1, Ex H H1 → ∀ Rk : It → Hp → Prop, (∀ J H2, Ex H1 H2 → Walk J n (fun H' => Ex H2 H') Y → Rk J H2) → wi σ H1 Rk
/-- te gives a new list -/
def ErL (te : TE) (σ : L2.St) (H : Hp) (S : List V → Hp → Prop) : Prop := ∀ H1, Ex H H1 → ∀ Q : VK, (∀ p vs H2, H1 p = none → Ex H1 H2 → H2 p = some (.lst vs) → S vs H2 → Q (.ref p) H2) → te σ H1 Q
section
variable {K : PySem.W.Frag} {σ : L2.St} {H H' : Hp} {te ta tl : TE} {tr : TA} {S : List V → Hp → Prop} {R : V → Hp → Prop}
theorem ErL.mono (e : Ex H H') (h : ErL te σ H S) : ErL te σ H' S := fun H1 a Q q => h H1 (e.trans a) Q q
theorem ErI.mono {wi : TI} {n : Nat} {Y : Nat → Hp → V → Hp → Prop} (e : Ex H H') (h : ErI wi σ H n Y) : ErI wi σ H' n Y := fun H1 a Q q => h H1 (e.trans a) Q q
theorem eri_tup {a : Addr} {xs : List V} (h : Ev tl σ H (.ref a)) (s : SqT K H a xs) : ErI (iTup K tl) σ H xs.length (YAt xs) := fun H1 e Rk k =>
  h H1 e _ fun H2 e2 => ⟨a, rfl, ⟨xs, ex_t (e.trans e2) s⟩, k _ H2 e2 (walk_tup.mono (fun H3 e3 => ex_t ((e.trans e2).trans e3) s) fun _ _ _ _ _ _ y => y)⟩
theorem eri_lst {a : Addr} {xs : List V} (h : Ev tl σ H (.ref a)) (s : SqL K H a xs) : ErI (iList K tl) σ H xs.length (YAt xs) := fun H1 e Rk k =>
  h H1 e _ fun H2 e2 => ⟨a, rfl, ⟨xs, ex_l (e.trans e2) s⟩, k _ H2 e2 (walk_list.mono (fun H3 e3 => ex_l ((e.trans e2).trans e3) s) fun _ _ _ _ _ _ y => y)⟩
/-- over a new list of n items of which S holds -/
theorem eri_new {n : Nat} (h : ErL tl σ H S) (hn : ∀ vs H2, S vs H2 → vs.length = n) (st : ∀ vs H2 H3, Ex H2 H3 → S vs H2 → S vs H3) : ErI (iList K tl) σ H n (fun i H x H' => H' = H ∧ ∃ vs, S vs H ∧ vs[i]? = some x) := fun H1 e Rk k =>
  h H1 e _ fun p vs H2 _ e2 hp hs => ⟨p, rfl, ⟨vs, sq_of hp⟩, k _ H2 e2 (by
    rw [← hn vs H2 hs]
    exact walk_list.mono (fun H3 e3 => sq_of (e3 p _ hp)) fun i H3 x H4 _ e3 y => ⟨y.1, vs, st vs H2 H3 e3 hs, y.2⟩)⟩
theorem eri_range {n : Nat} (h : ErA tr σ H (fun vs _ => vs = [.int (n : Int)])) (hn : (n : Int) < 2 ^ 62) : ErI (iRng1 tr) σ H n (YFn fun i => .int (i : Nat)) := fun H1 e Rk k =>
  h H1 e _ fun vs H2 e2 hv => by
    subst hv
    refine ⟨(n : Int), rfl, by omega, hn, k _ H2 e2 ?_⟩
    exact walk_range.mono (fun _ _ => True.intro) fun i H x H' _ _ y => ⟨y.1, by rw [y.2]; show V.int (0 + (i : Int)) = V.int (i : Int); rw [Int.zero_add]⟩
theorem eri_zipT {a b : Addr} {xs ys : List V} (h : EvA tr σ H [.ref a, .ref b]) (h1 : SqT K H a xs) (h2 : SqT K H b ys) (hl : xs.length = ys.length) : ErI (iZipA K tr) σ H xs.length (YPair (fun i => xs[i]?) fun i => ys[i]?) := fun H1 e Rk k =>
  h H1 e _ fun H2 e2 => ⟨a, b, xs, ys, rfl, .inr ⟨ex_t (e.trans e2) h1, ex_t (e.trans e2) h2, k _ H2 e2 ((walk_zipT hl).mono (fun H3 e3 => ⟨ex_t ((e.trans e2).trans e3) h1, ex_t ((e.trans e2).trans e3) h2⟩) fun _ _ _ _ _ _ y => y)⟩⟩
/-- no tests -/
theorem er_lc {wi : TI} {g : TG} {tt : TT} {vs : List Nat} {n : Nat} {Y : Nat → Hp → V → Hp → Prop} {S : Nat → V → Hp → Prop} (hi : ErI wi σ H n Y) (hy : ∀ (σ : L2.St) (H : Hp) (Q : Bool → Hp → Prop), Q true H → tt σ H Q) (st : ∀ i, StaysT (S i)) (hn : n < 1000000)
    (turn : ∀ (i : Nat) (x : V) (H2 H3 : Hp) (C : L2.St → Hp → Prop), i < n → Ex H H2 → Y i H2 x H3 → (∀ σ2, wipe σ2 vs = wipe σ vs → Ex H2 H3 → Er te σ2 H3 (S i) → C σ2 H3) → g x (wipe σ vs) H3 C) :
    ErL (tLc wi g tt te vs) σ H (fun ws H2 => ws.length = n ∧ ∀ i, i < n → ∃ v, ws[i]? = some v ∧ S i v H2) := fun H1 e Q q =>
  hi H1 e _ fun J H2 e2 wk Dl hD => by
    refine lc_it wk (fun i H' => Ex H2 H' ∧ ∃ ws : List V, H' Dl = some (.lst ws) ∧ ws.length = i ∧ ∀ j, j < i → ∃ v, ws[j]? = some v ∧ S j v H') ⟨Ex.new hD, [], upd_same, rfl, fun j hj => by omega⟩ (fun _ _ _ p => p.1) (fun i x H3 H4 hi' p y => ?_) (fun H3 p => ?_)
    · obtain ⟨e3, ws, hw, hlw, hall⟩ := p
      refine turn i x H3 H4 _ hi' ((e.trans e2).trans e3) y fun σ2 hσ e34 hte => ⟨hσ, hy _ _ _ ?_⟩
      show (if true = true then _ else _)
      rw [if_pos rfl]
      refine hte H4 (Ex.refl H4) _ fun v H5 e5 hv => ⟨ws, (e34.trans e5) Dl _ hw, ?_, ?_⟩
      · rw [hlw]
        exact Nat.lt_of_lt_of_le (Nat.lt_trans hi' hn) (by decide)
      · have keepD : ∀ H6 : Hp, Ex H2 H6 → Ex H2 (upd H6 Dl (.lst (ws ++ [v]))) := fun H6 e6 => Ex.mut e6 hD
        refine ⟨keepD H5 ((e3.trans e34).trans e5), ws ++ [v], upd_same, by rw [List.length_append, hlw]; rfl, fun j hj => ?_⟩
        have eT : ExT H5 (upd H5 Dl (.lst (ws ++ [v]))) := ExT.lst ((e34.trans e5) Dl _ hw)
        by_cases hji : j < i
        · obtain ⟨u, h1, h2⟩ := hall j hji
          exact ⟨u, by rw [List.getElem?_append_left (by omega)]; exact h1, st j u H3 _ ((exT (e34.trans e5)).trans eT) h2⟩
        · have q : j = i := by omega
          subst q
          exact ⟨v, by rw [← hlw, List.getElem?_append_right (Nat.le_refl _), Nat.sub_self]; rfl, st _ v H5 _ eT hv⟩
    · obtain ⟨e3, ws, hw, hlw, hall⟩ := p
      exact q Dl ws H3 (fresh_back e2 hD) (e2.trans e3) hw ⟨hlw, hall⟩
/-- two clauses, the second over a range; no tests -/
theorem er_lc2 {α : Type} {wi : TI} {g : TG} {tt tt1 : TT} {ta1 : TA} {k1 : Nat} {vs vs1 : List Nat} {n m : Nat} {Y : Nat → Hp → V → Hp → Prop} {F : α → V → Hp → Prop} (row : Nat → Nat → α) (hi : ErI wi σ H n Y) (hy : ∀ (σ : L2.St) (H : Hp) (Q : Bool → Hp → Prop), Q true H → tt σ H Q) (hy1 : ∀ (σ : L2.St) (H : Hp) (Q : Bool → Hp → Prop), Q true H → tt1 σ H Q)
    (st : ∀ a, StaysT (F a)) (hm : m < 1000) (hn : n < 1000)
    (turn : ∀ (i : Nat) (x : V) (H2 H3 : Hp) (C : L2.St → Hp → Prop), i < n → Ex H H2 → Y i H2 x H3 → (∀ σ2, wipe σ2 vs = wipe σ vs → Ex H2 H3 → EvA ta1 σ2 H3 [.int (m : Int)] →
      (∀ (j : Nat) (H4 : Hp), j < m → ExT H3 H4 → wipe ((wipe σ2 vs1).set k1 (some (.int (j : Nat)))) vs1 = wipe σ2 vs1 ∧ Er te ((wipe σ2 vs1).set k1 (some (.int (j : Nat)))) H4 (F (row i j))) → C σ2 H3) → g x (wipe σ vs) H3 C) :
    ErL (tLc2 wi g tt (iRng1 ta1) (gName k1) tt1 te vs vs1) σ H (fun ws H2 => Paired (fun v a => F a v H2) ws ((List.range n).flatMap fun i => (List.range m).map (row i))) := fun H1 e Q q =>
  hi H1 e _ fun J H2 e2 wk Dl hD => by
    have len : ∀ {ws : List V} {l : List α} {H' : Hp}, Paired (fun v a => F a v H') ws l → ws.length = l.length := fun p => Paired.length p
    have rowlen : ∀ i : Nat, (((List.range i).flatMap fun i => (List.range m).map (row i))).length = i * m := fun i => by
      induction i with
      | zero => simp
      | succ i ih => rw [List.range_succ, List.flatMap_append, List.length_append, ih]; simp [Nat.succ_mul]
    have bound : ∀ i j : Nat, i < n → j < m → i * m + j < sizeLine := fun i j h1 h2 => by
      have a : i * m ≤ 1000 * 1000 := Nat.mul_le_mul (by omega) (by omega)
      show _ < 16777216
      omega
    refine ⟨fun i k H' => k = n - i ∧ i ≤ n ∧ Ex H2 H' ∧ ∃ ws : List V, H' Dl = some (.lst ws) ∧ Paired (fun v a => F a v H') ws ((List.range i).flatMap fun i => (List.range m).map (row i)), ⟨n, by omega, Nat.zero_le _, Ex.new hD, [], upd_same, .nil⟩, ?_⟩
    rintro i k H3 ⟨rfl, hin, e3, ws, hw, hp⟩
    by_cases hlt : i < n
    · refine .inr ⟨wk.goes i H3 hlt e3, fun H' => i + 1 ≤ n ∧ Ex H2 H' ∧ ∃ ws : List V, H' Dl = some (.lst ws) ∧ Paired (fun v a => F a v H') ws ((List.range (i + 1)).flatMap fun i => (List.range m).map (row i)), fun H' p => ⟨n - (i + 1), by omega, rfl, p⟩, fun x H4 y => ?_⟩
      refine turn i x H3 H4 _ hlt ((e.trans e2).trans e3) (wk.yields i H3 x H4 hlt e3 y) fun σ2 hσ e34 hta hte => ⟨hσ, hy _ _ _ ?_⟩
      show (if true = true then _ else _)
      rw [if_pos rfl]
      refine hta H4 (Ex.refl H4) _ fun H5 e5 => ⟨(m : Int), rfl, by omega, by omega, ?_⟩
      have e25 : Ex H2 H5 := (e3.trans e34).trans e5
      refine ⟨fun j k H' => k = m - j ∧ j ≤ m ∧ Ex H2 H' ∧ ExT H4 H' ∧ ∃ ws : List V, H' Dl = some (.lst ws) ∧ Paired (fun v a => F a v H') ws (((List.range i).flatMap fun i => (List.range m).map (row i)) ++ (List.range j).map (row i)), ⟨m, by omega, Nat.zero_le _, e25, exT e5, ws, (e34.trans e5) _ _ hw, ?_⟩, ?_⟩
      · rw [List.range_zero, List.map_nil, List.append_nil]
        exact Paired.mapP hp fun v a r => st a v H3 H5 (exT (e34.trans e5)) r
      · rintro j k H6 ⟨rfl, hjm, e6, eT6, ws, hw, hp⟩
        by_cases hj : j < m
        · refine .inr ⟨by show j < ((m : Int)).toNat; omega, fun H' => j + 1 ≤ m ∧ Ex H2 H' ∧ ExT H4 H' ∧ ∃ ws : List V, H' Dl = some (.lst ws) ∧ Paired (fun v a => F a v H') ws (((List.range i).flatMap fun i => (List.range m).map (row i)) ++ (List.range (j + 1)).map (row i)), fun H' p => ⟨m - (j + 1), by omega, rfl, p⟩, fun x H7 y => ?_⟩
          obtain ⟨eH, ex⟩ := y
          have ex' : x = .int ((j : Nat) : Int) := by rw [ex, Int.zero_add]
          subst eH
          subst ex'
          obtain ⟨hw1, he⟩ := hte j H7 hj eT6
          show wipe _ _ = _ ∧ _
          refine ⟨hw1, hy1 _ _ _ ?_⟩
          show (if true = true then _ else _)
          rw [if_pos rfl]
          refine he H7 (Ex.refl H7) _ fun v H8 e8 hv => ⟨ws, e8 _ _ hw, ?_, ?_⟩
          · have q := len hp
            rw [List.length_append, rowlen, List.length_map, List.length_range] at q
            rw [q]
            exact bound i j hlt hj
          · have eT : ExT H8 (upd H8 Dl (.lst (ws ++ [v]))) := ExT.lst (e8 _ _ hw)
            refine ⟨hj, Ex.mut (e6.trans e8) hD, (eT6.trans (exT e8)).trans eT, ws ++ [v], upd_same, ?_⟩
            rw [List.range_succ, List.map_append, ← List.append_assoc]
            exact paired_app (Paired.mapP hp fun v a r => st a v H7 _ ((exT e8).trans eT) r) (.cons (st _ v H8 _ eT hv) .nil)
        · have ej : j = m := by omega
          subst ej
          refine .inl ⟨by show ((j : Int)).toNat ≤ j; omega, hlt, e6, ws, hw, ?_⟩
          rw [List.range_succ, List.flatMap_append]
          simpa using hp
    · have ei : i = n := by omega
      subst ei
      exact .inl ⟨wk.stops H3 e3, q Dl ws H3 (fresh_back e2 hD) (e2.trans e3) hw hp⟩
/-- tuple(..) of a list, of a tuple -/
def rTupOf (K : PySem.W.Frag) : List V → Hp → VK → Prop := fun xs H Q => ∃ p ys, xs = [V.ref p] ∧ ((SqL K H p ys ∧ ∀ l, H l = none → Q (.ref l) (upd H l (.tup ys))) ∨ (SqT K H p ys ∧ Q (.ref p) H))
theorem er_tupleOf (h : ErL te σ H S) (st : ∀ vs H2 H3, Ex H2 H3 → S vs H2 → S vs H3) :
    Er (tCB (rTupOf K) (tCons te tNil)) σ H (fun v H2 => ∃ a vs, v = .ref a ∧ SqT K H2 a vs ∧ S vs H2) := fun H1 e Q q =>
  h H1 e _ fun p vs H2 hp e2 hl hs => ⟨p, vs, rfl, .inl ⟨sq_of hl, fun l hl0 => q (.ref l) _ (e2.trans (Ex.new hl0)) ⟨l, vs, rfl, st_of upd_same, st vs H2 _ (Ex.new hl0) hs⟩⟩⟩
theorem erl_call {sp : Sp} {E : XK} {A : List V → Hp → Prop} (h : ErA tr σ H A) (hs : ∀ vs H2, Ex H H2 → A vs H2 → ∀ Q : VK, (∀ p ws H3, H2 p = none → Ex H2 H3 → H3 p = some (.lst ws) → S ws H3 → Q (.ref p) H3) → ∀ E, sp vs H2 Q E) : ErL (tCall sp [] E tr) σ H S := fun H1 e Q q =>
  h H1 e _ fun vs H2 e2 s2 => by
    rw [List.append_nil]
    exact hs vs H2 (e.trans e2) s2 _ (fun p ws H3 hp e3 h3 s3 => q p ws H3 (fresh_back e2 hp) (e2.trans e3) h3 s3) E
theorem era_of {vs : List V} (h : EvA tr σ H vs) : ErA tr σ H (fun us _ => us = vs) := fun H1 e Q q => h H1 e Q fun H2 e2 => q vs H2 e2 rfl
/-! ### loops over zip -/
theorem s_forZT {a b : Addr} {xs ys : List V} {ta : TA} {tb : TS} {D : Ends} {j k : Nat} (h : EvA ta σ H [.ref a, .ref b]) (h1 : SqT K H a xs) (h2 : SqT K H b ys) (hl : xs.length = ys.length) (Pv : Nat → L2.St → Hp → Prop) (h0 : ∀ H1, Ex H H1 → Pv 0 σ H1)
    (hG : ∀ i σ' H', Pv i σ' H' → SqT K H' a xs ∧ SqT K H' b ys)
    (hs : ∀ i x y σ' H' T, i < xs.length → xs[i]? = some x → ys[i]? = some y → Pv i σ' H' → H' T = none → tb { D with nx := Pv (i + 1), ct := Pv (i + 1), bk := D.nx } ((σ'.set j (some x)).set k (some y)) (upd H' T (.tup [x, y]))) (hd : ∀ σ' H', Pv xs.length σ' H' → D.nx σ' H') :
    tFor (iZipA K ta) (gTup K 2 (gCons (gName j) (gCons (gName k) gNil))) tb D σ H := h H (Ex.refl H) _ fun H1 e1 => ⟨a, b, xs, ys, rfl, .inr ⟨ex_t e1 h1, ex_t e1 h2,
  for_it (walk_zipT hl) Pv (h0 H1 e1) (fun i σ' H' _ p => hG i σ' H' p) (fun i v σ' H' H2 hi p y => by
    obtain ⟨T, x, z, rfl, hT, rfl, hx, hz⟩ := y
    exact ⟨T, _, rfl, st_of upd_same, rfl, x, _, rfl, z, _, rfl, rfl, hs i x z σ' H' T hi hx hz p hT⟩) hd⟩⟩
theorem s_forZLT {b : Addr} {S : List V → Hp → Prop} {ys : List V} {ta : TA} {tb : TS} {D : Ends} {j k : Nat} (h : ∀ Q : List V → Hp → Prop, (∀ p ws H1, H p = none → Ex H H1 → H1 p = some (.lst ws) → S ws H1 → Q [.ref p, .ref b] H1) → ta σ H Q) (h2 : SqT K H b ys) (hl : ∀ ws H1, S ws H1 → ws.length = ys.length)
    (Pv : Addr → List V → Nat → L2.St → Hp → Prop) (h0 : ∀ p ws H1, H p = none → Ex H H1 → H1 p = some (.lst ws) → S ws H1 → Pv p ws 0 σ H1)
    (hG : ∀ p ws i σ' H', Pv p ws i σ' H' → H' p = some (.lst ws) ∧ SqT K H' b ys)
    (hs : ∀ p ws i x y σ' H' T, i < ys.length → ws[i]? = some x → ys[i]? = some y → Pv p ws i σ' H' → H' T = none → tb { D with nx := Pv p ws (i + 1), ct := Pv p ws (i + 1), bk := D.nx } ((σ'.set j (some x)).set k (some y)) (upd H' T (.tup [x, y]))) (hd : ∀ p ws σ' H', Pv p ws ys.length σ' H' → D.nx σ' H') :
    tFor (iZipLT K ta) (gTup K 2 (gCons (gName j) (gCons (gName k) gNil))) tb D σ H := h _ fun p ws H1 hp e1 hw hs1 => ⟨p, b, ws, ys, rfl, sq_of hw, ex_t e1 h2,
  for_it (walk_zipLT (hl ws H1 hs1)) (Pv p ws) (h0 p ws H1 hp e1 hw hs1) (fun i σ' H' _ q => ⟨sq_of (hG p ws i σ' H' q).1, (hG p ws i σ' H' q).2⟩) (fun i v σ' H' H2 hi q y => by
    obtain ⟨T, x, z, rfl, hT, rfl, hx, hz⟩ := y
    exact ⟨T, _, rfl, st_of upd_same, rfl, x, _, rfl, z, _, rfl, rfl, hs p ws i x z σ' H' T (by rw [← hl ws H1 hs1]; exact hi) hx hz q hT⟩) (fun σ' H' q => hd p ws σ' H' (by rw [← hl ws H1 hs1]; exact q))⟩
/-- the arguments: a new list, then a value -/
theorem eraL_cons {tl : TE} {S : List V → Hp → Prop} {v : V} (h : ErL tl σ H S) (hv : Ev te σ H v) (st : ∀ vs H2 H3, Ex H2 H3 → S vs H2 → S vs H3) : ∀ Q : List V → Hp → Prop, (∀ p ws H1, H p = none → Ex H H1 → H1 p = some (.lst ws) → S ws H1 → Q [.ref p, v] H1) → tCons tl (tCons te tNil) σ H Q := fun Q q =>
  h H (Ex.refl H) _ fun p ws H1 hp e1 hw hs => hv H1 e1 _ fun H2 e2 => q p ws H2 hp (e1.trans e2) (e2 _ _ hw) (st ws H1 H2 e2 hs)
end
end TL
/-! Trylocks, walk C: is_at, pairs_of, keys_of, first_standing. -/
namespace TL
open PySem PySem.Spec PyProof.Rows L2 Evl C8 RZ
section
variable {P : Program} {w : World} {K : PySem.W.Frag} {mg : Str → Option Value} {base : Heap}
/-! ### is_at -/
theorem inV_o (x : Option Int) (a : Int) : inV (oV x) [.non, .int a] = inO x a := by
  cases x with
  | none => rfl
  | some i =>
    show (eqV .non (.int i) || (eqV (.int a) (.int i) || false)) = (i == a)
    show (false || ((a == i) || false)) = (i == a)
    rw [Bool.false_or, Bool.or_false, Bool.eq_iff_iff, beq_iff_eq, beq_iff_eq]
    exact eq_comm
theorem flat_o (x : Option Int) : flatV (oV x) = true := by cases x <;> rfl
theorem sc_is_at : FnScope ["key", "account", "place"] ["key", "account", "place"] (fnScope (top 21)) := fnScope_by (by decide +kernel)
def spIsAt (K : PySem.W.Frag) : Sp := fun vs H Q _ => ∃ (v : V) (k : TL.Key) (a p : Int), vs = [v, .int a, .int p] ∧ KeyAt K k v H ∧ RetV (.bl (isAt k a p)) H Q
theorem c_is_at (T : Tx K mg) : Cal P w K mg base 1 "is_at" (spIsAt K) [] := by
  refine calT T.is_at sc_is_at (fun vs H Q E h => ?_) (fun f cdv A outer s H vs Q E hr h => ?_)
  · obtain ⟨v, k, a, p, rfl, _⟩ := h
    rfl
  · obtain ⟨v, kk, a, p, rfl, ⟨ak, rfl, hk⟩, k⟩ := h
    refine ⟨_, pss_one (ps_ret (pe_and (pe_cmpR op_in_seq (pe_ix ix_tup (pv 0) pe_int (fun _ _ => rfl)) (pe_tup (pa_cons pe_non (pa_cons (pv 1) pa_nil))) (by rfl))
      (pe_one (pe_cmpR op_in_seq (pe_ix ix_tup (pv 0) pe_int (fun _ _ => rfl)) (pe_tup (pa_cons pe_non (pa_cons (pv 2) pa_nil))) (by rfl))))), ?_⟩
    have hs : start ["key", "account", "place"] [.ref ak, .int a, .int p] = [some (.ref ak), some (.int a), some (.int p)] := rfl
    rw [hs]
    refine s_ret (ev_andV (a := inO kk.1 a) (b := inO kk.2 p) ?_ fun _ => ?_) fun H1 e1 => k H1 e1
    · exact ev_is (ev_inU (ev_ixT (n := 0) (ev_var rfl) ev_c hk rfl) (eu_tup (ea_cons ev_c (ea_cons (ev_var rfl) ea_nil)) (by show 2 ≤ 100000; decide)) (flat_o _) rfl) (congrArg V.bl (inV_o _ _))
    · exact ev_is (ev_inU (ev_ixT (n := 1) (ev_var rfl) ev_c hk rfl) (eu_tup (ea_cons ev_c (ea_cons (ev_var rfl) ea_nil)) (by show 2 ≤ 100000; decide)) (flat_o _) rfl) (congrArg V.bl (inV_o _ _))
/-! ### keys -/
/-- a list of keys -/
def KeysAt (K : PySem.W.Frag) (ks : List TL.Key) (ws : List V) (H : Hp) : Prop := Paired (fun v k => KeyAt K k v H) ws ks
theorem keysAt_T {ks : List TL.Key} {ws : List V} {H H' : Hp} (e : ExT H H') (h : KeysAt K ks ws H) : KeysAt K ks ws H' := Paired.mapP h fun v k q => keyAt_T v H H' e q
theorem paired_of {α β : Type} {F : α → β → Prop} : ∀ {l : List α} {m : List β}, l.length = m.length → (∀ (i : Nat) (x : α) (y : β), l[i]? = some x → m[i]? = some y → F x y) → Paired F l m
  | [], [], _, _ => .nil
  | [], _ :: _, h, _ => by simp at h
  | _ :: _, [], h, _ => by simp at h
  | x :: l, y :: m, h, f => .cons (f 0 x y rfl rfl) (paired_of (by simpa using h) fun i a b h1 h2 => f (i + 1) a b (by simpa using h1) (by simpa using h2))
theorem er_pair {σ : L2.St} {H : Hp} {ta tb : TE} {x y : V} (ha : Ev ta σ H x) (hb : Ev tb σ H y) : Er (tTup (tCons ta (tCons tb tNil))) σ H (fun v H2 => ∃ p, v = .ref p ∧ SqT K H2 p [x, y]) := fun H1 e Q q =>
  eu_tup (ea_cons ha (ea_cons hb ea_nil)) (by show 2 ≤ 100000; decide) H1 e Q fun p H2 _ e2 h => q _ H2 e2 ⟨p, rfl, SqT.of h⟩
/-- a promise that hands back a new list of keys -/
def RetKeys (K : PySem.W.Frag) (ks : List TL.Key) (H : Hp) (Q : VK) : Prop := ∀ p ws H2, H p = none → Ex H H2 → H2 p = some (.lst ws) → KeysAt K ks ws H2 → Q (.ref p) H2
/-! ### pairs_of -/
def nPairs : List Str := ["book", "account", "place"]
theorem sc_pairs : FnScope nPairs ["book"] (fnScope (top 18)) := fnScope_by (by decide +kernel)
def spPairs (K : PySem.W.Frag) : Sp := fun vs H Q _ => ∃ (v : V) (b : TL.Book), vs = [v] ∧ BookAt K b v H ∧ b.accs < 1000 ∧ b.plcs < 1000 ∧ RetKeys K (pairsOf b) H Q
theorem yes_ok (σ : L2.St) (H : Hp) (Q : Bool → Hp → Prop) (q : Q true H) : tYes σ H Q := q
theorem c_pairs (T : Tx K mg) : Cal P w K mg base 1 "pairs_of" (spPairs K) [] := by
  refine calT T.pairs_of sc_pairs (fun vs H Q E h => ?_) (fun f cdv A outer s H vs Q E hr h => ?_)
  · obtain ⟨v, b, rfl, _⟩ := h
    rfl
  · obtain ⟨v, b, rfl, ⟨p, dx, ra, rfl, hB, hR⟩, la, lp, k⟩ := h
    have nd := sc_pairs.nd
    refine ⟨_, pss_one (ps_ret (pe_lc2 (own := [("account", 1), ("place", 2)]) (g := gName 1) (wi1 := iRng1 (tCons (tFld K (tVar 0) "places") tNil)) (g1 := gName 2) (tt := tYes) (tt1 := tYes) (vs1 := [2]) rfl nd (pi_range1 rfl (T.fr "range") (pa_cons (pe_fld (pv 0) rfl) pa_nil))
      (blkOk_by (N := nPairs) (sc := fnScope (top 18)) (by decide +kernel)) (by decide) (fun _ _ _ _ _ => pg_name (i := 1) nd rfl (Or.inl rfl)) (fun _ _ _ _ _ => pts_nil) (fun _ _ _ _ _ => pi_range1 rfl (T.fr "range") (pa_cons (pe_fld (pv 0) rfl) pa_nil))
      (fun _ _ _ _ _ => pg_name (i := 2) nd rfl (Or.inl rfl)) (fun _ _ _ _ _ => pts_nil) (fun _ _ _ _ _ => pe_tup (pa_cons (pv 1) (pa_cons (pv 2) pa_nil))))), ?_⟩
    have hs : start nPairs [.ref p] = [some (.ref p), none, none] := rfl
    rw [hs]
    refine er_lc2 (n := b.accs) (m := b.plcs) (F := fun k v H => KeyAt K k v H) (fun i j => (some (i : Int), some (j : Int))) (eri_range (n := b.accs) ?_ (by omega)) yes_ok yes_ok (fun a => keyAt_T) lp la ?_ H (Ex.refl H) _ fun q ws H2 hq e2 hw hp => k q ws H2 hq e2 hw hp
    · refine fun H1 e Q q => ?_
      refine (ea_cons (ev_fld (ev_var rfl) hB T.clsB T.naA (bk_accs _ _)) ea_nil) H1 e Q fun H2 e2 => q _ H2 e2 rfl
    · intro i x H2 H3 C hi e y kC
      obtain ⟨rfl, rfl⟩ := y
      refine kC _ rfl (Ex.refl _) (ea_cons (ev_fld (ev_var rfl) (e _ _ hB) T.clsB T.naP (bk_plcs _ _)) ea_nil) fun j H4 hj e4 => ⟨rfl, ?_⟩
      exact (er_pair (K := K) (ev_var rfl) (ev_var rfl))
/-! ### keys_of -/
def nKeys : List Str := ["book", "rule", "account", "place"]
theorem sc_keys : FnScope nKeys ["book", "rule"] (fnScope (top 19)) := fnScope_by (by decide +kernel)
def BookOk (b : TL.Book) : Prop := b.accs ≤ 2 ∧ b.plcs ≤ 2 ∧ b.rules.length ≤ 3
def spKeys (K : PySem.W.Frag) : Sp := fun vs H Q _ => ∃ (v vr : V) (b : TL.Book) (r : TL.Rule), vs = [v, vr] ∧ BookAt K b v H ∧ RuleAt K r vr H ∧ BookOk b ∧ r.key ≤ 2 ∧ RetKeys K (keysOf b r) H Q
theorem c_keys (T : Tx K mg) : Cal P w K mg base 2 "keys_of" (spKeys K) [] := by
  have cP := c_pairs (P := P) (w := w) (base := base) T
  refine calT T.keys_of sc_keys (fun vs H Q E h => ?_) (fun f cdv A outer s H vs Q E hr h => ?_)
  · obtain ⟨v, vr, b, r, rfl, _⟩ := h
    rfl
  · obtain ⟨v, vr, b, r, rfl, hBB, hRR, hok, hk2, k⟩ := h
    obtain ⟨p, dx, ra, rfl, hB, hR⟩ := id hBB
    obtain ⟨ar, rfl, hr0⟩ := id hRR
    have nd := sc_keys.nd
    refine ⟨_, pss_cons (ps_if (pt_cmpR op_eq (pe_ix ix_tup (pv 1) pe_int (fun _ _ => rfl)) pe_str (nomark _))
        (pss_one (ps_ret (pe_lc (own := [("account", 2)]) (g := gName 2) (tt := tYes) rfl nd (pi_range1 rfl (T.fr "range") (pa_cons (pe_fld (pv 0) rfl) pa_nil)) (blkOk_by (N := nKeys) (sc := fnScope (top 19)) (by decide +kernel)) (fun _ _ _ _ _ => pg_name (i := 2) nd rfl (Or.inl rfl)) (fun _ _ _ _ _ => pts_nil) (fun _ _ _ _ _ => pe_tup (pa_cons (pv 2) (pa_cons pe_non pa_nil)))))) pss_nil)
      (pss_cons (ps_if (pt_cmpR op_eq (pe_ix ix_tup (pv 1) pe_int (fun _ _ => rfl)) pe_str (nomark _))
        (pss_one (ps_ret (pe_lc (own := [("place", 3)]) (g := gName 3) (tt := tYes) rfl nd (pi_range1 rfl (T.fr "range") (pa_cons (pe_fld (pv 0) rfl) pa_nil)) (blkOk_by (N := nKeys) (sc := fnScope (top 19)) (by decide +kernel)) (fun _ _ _ _ _ => pg_name (i := 3) nd rfl (Or.inl rfl)) (fun _ _ _ _ _ => pts_nil) (fun _ _ _ _ _ => pe_tup (pa_cons pe_non (pa_cons (pv 3) pa_nil)))))) pss_nil)
      (pss_one (ps_ret (pe_c cP hr (Nat.le_refl _) rfl (pa_cons (pv 0) pa_nil))))), ?_⟩
    have hs : start nKeys [.ref p, .ref ar] = [some (.ref p), some (.ref ar), none, none] := rfl
    rw [hs]
    have h0 : ∀ {H1 : Hp}, Ex H H1 → Ev (tOp (rIxT K) (tVar 1) (tC (.int 0))) [some (.ref p), some (.ref ar), none, none] H1 (.str (keyStr r.key)) := fun e => ev_ixT (n := 0) (ev_var rfl) ev_c (ex_t e hr0) rfl
    have tst : ∀ {H1 : Hp} (z : Str), Ex H H1 → EvT (tTest (tOp rEq (tOp (rIxT K) (tVar 1) (tC (.int 0))) (tC (.str z)))) [some (.ref p), some (.ref ar), none, none] H1 (decide (V.str (keyStr r.key) = V.str z)) := fun z e => et_op (h0 e) ev_c (rv_eq rfl)
    have q : r.key = 0 ∨ r.key = 1 ∨ r.key = 2 := by omega
    rcases q with q | q | q
    · refine q_when (b := true) (et_is (tst _ (Ex.refl H)) (by rw [q]; decide +kernel)) (fun _ H1 e1 => ?_) (fun z => by cases z)
      refine er_lc (n := b.accs) (S := fun i => KeyAt K (some (i : Int), none)) (eri_range (n := b.accs) ?_ (by have := hok.1; omega)) yes_ok (fun i => keyAt_T) (by have := hok.1; omega) ?_ H1 (Ex.refl H1) _ fun l ws H2 hl e2 hw ⟨hp1, hp2⟩ => ?_
      · exact fun H1' e Q q => (ea_cons (ev_fld (ev_var rfl) (e1 _ _ hB) T.clsB T.naA (bk_accs _ _)) ea_nil) H1' e Q fun H2 e2 => q _ H2 e2 rfl
      · intro i x H2 H3 C hi e y kC
        obtain ⟨rfl, rfl⟩ := y
        exact kC _ rfl (Ex.refl _) (er_pair (K := K) (ev_var rfl) ev_c)
      · refine k l ws H2 (fresh_back e1 hl) (e1.trans e2) hw ?_
        unfold keysOf
        rw [if_pos q]
        refine paired_of (by rw [hp1]; simp) fun i x y h1 h2 => ?_
        have hi : i < b.accs := by rw [← hp1]; exact (List.getElem?_eq_some_iff.mp h1).1
        obtain ⟨u, g1, g2⟩ := hp2 i hi
        rw [h1] at g1
        cases g1
        rw [List.getElem?_map, List.getElem?_range hi] at h2
        cases h2
        exact g2
    · refine q_when (b := false) (et_is (tst _ (Ex.refl H)) (by rw [q]; decide +kernel)) (fun z => by cases z) (fun _ H1 e1 => ?_)
      refine q_when (b := true) (et_is (tst _ e1) (by rw [q]; decide +kernel)) (fun _ H2 e2 => ?_) (fun z => by cases z)
      have e12 := e1.trans e2
      refine er_lc (n := b.plcs) (S := fun i => KeyAt K (none, some (i : Int))) (eri_range (n := b.plcs) ?_ (by have := hok.2.1; omega)) yes_ok (fun i => keyAt_T) (by have := hok.2.1; omega) ?_ H2 (Ex.refl H2) _ fun l ws H3 hl e3 hw ⟨hp1, hp2⟩ => ?_
      · exact fun H1' e Q q => (ea_cons (ev_fld (ev_var rfl) (e12 _ _ hB) T.clsB T.naP (bk_plcs _ _)) ea_nil) H1' e Q fun H2 e2 => q _ H2 e2 rfl
      · intro i x H2 H3 C hi e y kC
        obtain ⟨rfl, rfl⟩ := y
        exact kC _ rfl (Ex.refl _) (er_pair (K := K) ev_c (ev_var rfl))
      · refine k l ws H3 (fresh_back e12 hl) (e12.trans e3) hw ?_
        unfold keysOf
        rw [if_neg (by omega), if_pos q]
        refine paired_of (by rw [hp1]; simp) fun i x y h1 h2 => ?_
        have hi : i < b.plcs := by rw [← hp1]; exact (List.getElem?_eq_some_iff.mp h1).1
        obtain ⟨u, g1, g2⟩ := hp2 i hi
        rw [h1] at g1
        cases g1
        rw [List.getElem?_map, List.getElem?_range hi] at h2
        cases h2
        exact g2
    · refine q_when (b := false) (et_is (tst _ (Ex.refl H)) (by rw [q]; decide +kernel)) (fun z => by cases z) (fun _ H1 e1 => ?_)
      refine q_when (b := false) (et_is (tst _ e1) (by rw [q]; decide +kernel)) (fun z => by cases z) (fun _ H2 e2 => ?_)
      have e12 := e1.trans e2
      refine s_retCall (vs := [.ref p]) (ea_cons (ev_var rfl) ea_nil) fun H3 e3 => ?_
      refine ⟨.ref p, b, rfl, bookAt_st _ _ _ (e12.trans e3) hBB, by have := hok.1; omega, by have := hok.2.1; omega, fun l ws H4 hl e4 hw hp => k l ws H4 (fresh_back (e12.trans e3) hl) ((e12.trans e3).trans e4) hw ?_⟩
      unfold keysOf
      rw [if_neg (by omega), if_neg (by omega)]
      exact hp
/-! ### first_standing -/
def nFirst : List Str := ["book", "rule", "key"]
theorem sc_first : FnScope nFirst ["book"] (fnScope (top 20)) := fnScope_by (by decide +kernel)
abbrev eFirst : Expr := arg0 (exOf (bodyAt (top 20) 0))
def BookOk2 (b : TL.Book) : Prop := BookOk b ∧ ∀ r ∈ b.rules, RuleOk r
def spFirst (K : PySem.W.Frag) : Sp := fun vs H Q _ => ∃ (v : V) (b : TL.Book), vs = [v] ∧ BookAt K b v H ∧ BookOk2 b ∧ RetR (StandAt K (firstStand b)) H Q
theorem keys_len {b : TL.Book} (h : BookOk b) (r : TL.Rule) : (keysOf b r).length ≤ 4 := by
  unfold keysOf
  split
  · simp; have := h.1; omega
  · split
    · simp; have := h.2.1; omega
    · unfold pairsOf
      have q : ∀ n : Nat, ((List.range n).flatMap fun (a : Nat) => (List.range b.plcs).map fun (p : Nat) => ((some (a : Int), some (p : Int)) : TL.Key)).length = n * b.plcs := fun n => by
        induction n with
        | zero => simp
        | succ i ih => rw [List.range_succ, List.flatMap_append, List.length_append, ih]; simp [Nat.succ_mul]
      rw [q]
      have a1 : b.accs * b.plcs ≤ 2 * 2 := Nat.mul_le_mul h.1 h.2.1
      omega
theorem erl_keys {σ : L2.St} {H : Hp} {t1 t2 : TE} {v vr : V} {b : TL.Book} {r : TL.Rule} (h1 : Ev t1 σ H v) (h2 : Ev t2 σ H vr) (hB : BookAt K b v H) (hR : RuleAt K r vr H) (ok : BookOk b) (hk : r.key ≤ 2) : ErL (tCall (spKeys K) [] C8.E0 (tCons t1 (tCons t2 tNil))) σ H (KeysAt K (keysOf b r)) :=
  erl_call (era_of (ea_cons h1 (ea_cons h2 ea_nil))) fun vs H2 e2 hv Q q E => by
    subst hv
    exact ⟨v, vr, b, r, rfl, bookAt_st _ _ _ e2 hB, ruleAt_st _ _ _ e2 hR, ok, hk, q⟩
theorem c_first (T : Tx K mg) : Cal P w K mg base 3 "first_standing" (spFirst K) [] := by
  have cK := c_keys (P := P) (w := w) (base := base) T
  refine calT T.first_standing sc_first (fun vs H Q E h => ?_) (fun f cdv A outer s H vs Q E hr h => ?_)
  · obtain ⟨v, b, rfl, _⟩ := h
    rfl
  · obtain ⟨v, b, rfl, hBB, ⟨hok, hru⟩, k⟩ := h
    obtain ⟨p, dx, ra, rfl, hB, vs, hR, hRs⟩ := id hBB
    obtain ⟨aN, gN, hN⟩ := T.new
    have nd := sc_first.nd
    refine ⟨_, pss_one (ps_ret (pe_callTy (r := rTupOf K) call_tuple_of rfl (T.fr "tuple") boot_tuple (pa_cons (pe_lc (own := [("rule", 1)]) (g := gName 1) (tt := tYes) rfl nd (pi_tup (pe_fld (pv 0) rfl)) (blkOk_by (N := nFirst) (sc := fnScope (top 20)) (by decide +kernel))
      (fun _ _ _ _ _ => pg_name (i := 1) nd rfl (Or.inl rfl)) (fun _ _ _ _ _ => pts_nil)
      (fun _ _ _ _ _ => pe_callTy (r := rTupOf K) call_tuple_of rfl (T.fr "tuple") boot_tuple (pa_cons (pe_lc (own := [("key", 2)]) (g := gName 2) (tt := tYes) (wi := iList K (tCall (spKeys K) [] C8.E0 (tCons (tVar 0) (tCons (tVar 1) tNil)))) rfl nd (pi_list (pe_c cK hr (Nat.le_refl _) rfl (pa_cons (pv 0) (pa_cons (pv 1) pa_nil))))
        (blkOk_by (N := nFirst) (sc := relS (lcSc eFirst) (fnScope (top 20))) (by decide +kernel)) (fun _ _ _ _ _ => pg_name (i := 2) nd rfl (Or.inl rfl)) (fun _ _ _ _ _ => pts_nil) (fun _ _ _ _ _ => pe_glob (v := .ref aN) rfl gN rfl)) pa_nil))) pa_nil))), ?_⟩
    have hs : start nFirst [.ref p] = [some (.ref p), none, none] := rfl
    rw [hs]
    have hlen : vs.length = b.rules.length := Paired.length hRs
    refine sr_ret (R := StandAt K (firstStand b)) (Er.imp (er_tupleOf (K := K) (er_lc (n := vs.length) (S := fun i v H => ∀ r, b.rules[i]? = some r → PartsAt K ((keysOf b r).map fun _ => newPart) v H) (eri_tup (ev_fld (ev_var rfl) hB T.clsB T.naR (bk_rules _ _)) hR) yes_ok
      (fun i v H H' e h r hr => partsAt_T v H H' e (h r hr)) (by rw [hlen]; have := hok.2.2; omega) ?_) ?_) ?_) fun v H1 e1 r1 => k v H1 e1 r1
    · intro i x H2 H3 C hi e y kC
      obtain ⟨rfl, hx⟩ := y
      obtain ⟨r, hr1, hr2⟩ := paired_get hRs hx
      have hrk : RuleOk r := hru r (List.mem_of_getElem? hr1)
      refine kC _ rfl (Ex.refl _) ?_
      refine Er.imp (er_tupleOf (K := K) (er_lc (n := (keysOf b r).length) (S := fun i v H => PartAt K newPart v H) (eri_new (K := K) (n := (keysOf b r).length) (erl_keys (b := b) (r := r) (ev_var rfl) (ev_var rfl) (bookAt_st _ _ _ e hBB) (ruleAt_st _ _ _ e hr2) hok hrk.1) (fun ws H2 h => Paired.length h) (fun ws H2 H3 e h => keysAt_T (exT e) h)) yes_ok
        (fun i => partAt_T) (Nat.lt_of_le_of_lt (keys_len hok r) (by decide)) ?_) ?_) ?_
      · intro i' x' H4 H5 C' hi' e' y' kC'
        obtain ⟨rfl, _⟩ := y'
        exact kC' _ rfl (Ex.refl _) (er_part (v := .ref aN) ev_c ⟨aN, rfl, hN _⟩)
      · exact fun ws H4 H5 e h => ⟨h.1, fun i hi => let ⟨v, h1, h2⟩ := h.2 i hi; ⟨v, h1, partAt_st v _ _ e h2⟩⟩
      · rintro v H4 e4 ⟨a, ws, rfl, hs, hl, hall⟩ r' hr'
        rw [hr1] at hr'
        cases hr'
        refine ⟨a, ws, rfl, hs, paired_of (by rw [hl]; simp) fun i x y h1 h2 => ?_⟩
        have hi : i < (keysOf b r).length := by rw [← hl]; exact (List.getElem?_eq_some_iff.mp h1).1
        obtain ⟨u, g1, g2⟩ := hall i hi
        rw [h1] at g1
        cases g1
        rw [List.getElem?_map] at h2
        cases hz : (keysOf b r)[i]? with
        | none => rw [hz] at h2; cases h2
        | some z =>
          rw [hz] at h2
          cases h2
          exact g2
    · exact fun ws H4 H5 e h => ⟨h.1, fun i hi => let ⟨v, h1, h2⟩ := h.2 i hi; ⟨v, h1, fun r hr => partsAt_st v _ _ e (h2 r hr)⟩⟩
    · rintro v H4 e4 ⟨a, ws, rfl, hs, hl, hall⟩
      refine ⟨a, ws, rfl, hs, paired_of (by rw [hl, hlen]; unfold firstStand; simp) fun i x y h1 h2 => ?_⟩
      have hi : i < vs.length := by rw [← hl]; exact (List.getElem?_eq_some_iff.mp h1).1
      obtain ⟨u, g1, g2⟩ := hall i hi
      rw [h1] at g1
      cases g1
      unfold firstStand at h2
      rw [List.getElem?_map] at h2
      cases hz : b.rules[i]? with
      | none => rw [hz] at h2; cases h2
      | some z =>
        rw [hz] at h2
        cases h2
        exact g2 z hz
end
end TL
/-! Trylocks, walk D: begun, kept_part, let_part. -/
namespace TL
open PySem PySem.Spec PyProof.Rows L2 Evl C8
section
variable {P : Program} {w : World} {K : PySem.W.Frag} {mg : Str → Option Value} {base : Heap}
theorem hu64 {k : Nat} {A : Around} (hr : Room k A) : A.units + 64 < cLine := by have := hr.un; omega
/-! ### the call of passed with a written number -/
theorem er_passed {σ : L2.St} {H : Hp} {t1 t2 t3 : TE} {vr : V} {r : Rule} {x : Part} {many : Int} (h1 : Ev t1 σ H vr) (h2 : Er t2 σ H (PartAt K x)) (h3 : Ev t3 σ H (.int many)) (hR : RuleAt K r vr H) :
    Er (tCall (spPassed K) [] C8.E0 (tCons t1 (tCons t2 (tCons t3 tNil)))) σ H (PartAt K (passed r x many)) := fun H1 e Q q =>
  h1 H1 e _ fun H2 e2 => h2 H2 (e.trans e2) _ fun v H3 e3 r3 => h3 H3 ((e.trans e2).trans e3) _ fun H4 e4 => by
    exact ⟨vr, v, r, x, many, rfl, ruleAt_st vr H H4 (((e.trans e2).trans e3).trans e4) hR, partAt_st v H3 H4 e4 r3, fun v5 H5 e5 r5 => q v5 H5 (((e2.trans e3).trans e4).trans e5) r5⟩
/-! ### kept_part -/
def nKept : List Str := ["rule", "part", "count", "age", "left", "whole", "streak"]
theorem sc_kept : FnScope nKept ["rule", "part"] (fnScope (top 27)) := fnScope_by (by decide +kernel)
/-- the promise of the three defs that change a part -/
def spChg (K : PySem.W.Frag) (g : Rule → Part → Part) (ok : Rule → Part → Prop) : Sp := fun vs H Q _ => ∃ (vr vp : V) (r : Rule) (x : Part), vs = [vr, vp] ∧ RuleAt K r vr H ∧ PartAt K x vp H ∧ ok r x ∧ RetR (PartAt K (g r x)) H Q
theorem c_kept (T : Tx K mg) : Cal P w K mg base 2 "kept_part" (spChg K keptPart fun _ _ => True) [] := by
  have cP := c_passed (P := P) (w := w) (base := base) T
  refine calT T.kept_part sc_kept (fun vs H Q E h => ?_) (fun f cdv A outer s H vs Q E hr h => ?_)
  · obtain ⟨vr, vp, r, x, rfl, _⟩ := h
    rfl
  · obtain ⟨vr, vp, r, x, rfl, hRR, hPP, _, k⟩ := h
    obtain ⟨ar, rfl, hR⟩ := id hRR
    obtain ⟨ap, rfl, hP⟩ := id hPP
    have nd := sc_kept.nd
    refine ⟨_, pss_cons (ps_if (PW.pt (pw_and (pt_val (pe_ix ix_tup (pv 0) pe_int (fun _ _ => rfl))) (pw_and1 (pt_cmpR op_gt (pe_ix ix_tup (pv 1) pe_int (fun _ _ => rfl)) pe_int (nomark _)))))
        (pss_cons (ps_asg (pe_c cP hr (Nat.le_refl _) rfl (pa_cons (pv 0) (pa_cons (pv 1) (pa_cons pe_int pa_nil)))) (pg_tup (n := 5) rfl (pgs_cons (pg_name (i := 2) nd rfl (.inl rfl)) (pgs_cons (pg_name (i := 3) nd rfl (.inl rfl)) (pgs_cons (pg_name (i := 4) nd rfl (.inl rfl)) (pgs_cons (pg_name (i := 5) nd rfl (.inl rfl)) (pgs_cons (pg_name (i := 6) nd rfl (.inl rfl)) pgs_nil)))))))
          (pss_one (ps_ret (pe_tup (pa_cons (pv 2) (pa_cons (pv 3) (pa_cons (pe_ix ix_tup (pv 1) pe_int (fun _ _ => rfl)) (pa_cons (pe_ix ix_tup (pv 1) pe_int (fun _ _ => rfl)) (pa_cons (pv 6) pa_nil)))))))))
        pss_nil)
      (pss_one (ps_ret (pe_c cP hr (Nat.le_refl _) rfl (pa_cons (pv 0) (pa_cons (pv 1) (pa_cons pe_int pa_nil)))))), ?_⟩
    have hs : start nKept [.ref ar, .ref ap] = [some (.ref ar), some (.ref ap), none, none, none, none, none] := rfl
    rw [hs]
    have h0 : ∀ {H1 : Hp}, Ex H H1 → Ev (tOp (rIxT K) (tVar 0) (tC (.int 6))) [some (.ref ar), some (.ref ap), none, none, none, none, none] H1 (.bl r.strict) := fun e => ev_ixT (n := 6) (ev_var rfl) ev_c (ex_t e hR) rfl
    have h1 : ∀ {H1 : Hp}, Ex H H1 → Ev (tOp (rIxT K) (tVar 1) (tC (.int 2))) [some (.ref ar), some (.ref ap), none, none, none, none, none] H1 (.int x.left) := fun e => ev_ixT (n := 2) (ev_var rfl) ev_c (ex_t e hP) rfl
    have no : keptPart r x = passed r x 1 → ∀ H1, Ex H H1 → tRet (tCall (spPassed K) [] C8.E0 (tCons (tVar 0) (tCons (tVar 1) (tCons (tC (.int 1)) tNil)))) { nx := fun _ H' => Q .non H', rt := Q } [some (.ref ar), some (.ref ap), none, none, none, none, none] H1 := fun eq H1 e1 =>
      sr_ret (er_passed (r := r) (x := x) (ev_var rfl) (er_part (ev_var rfl) (partAt_st _ _ _ e1 hPP)) ev_c (ruleAt_st _ _ _ e1 hRR)) fun v H2 e2 r2 => k v H2 (e1.trans e2) (by rw [eq]; exact r2)
    cases hst : r.strict with
    | false =>
      refine q_when (b := false) (et_and0 (et_is (et_B (h0 (Ex.refl H))) hst)) (fun z => by cases z) fun _ H1 e1 => no ?_ H1 e1
      unfold keptPart
      rw [if_neg fun q => by rw [hst] at q; cases q.1]
    | true =>
      by_cases z : x.left > 0
      · refine q_when (b := true) (et_and1 (et_is (et_B (h0 (Ex.refl H))) hst) (et_is (et_op (h1 (Ex.refl H)) ev_c rv_I0) (decide_eq_true z))) (fun _ H1 e1 => ?_) (fun z => by cases z)
        refine er_passed (K := K) (r := r) (x := x) (many := 1) (ev_var rfl) (er_part (ev_var rfl) (partAt_st _ _ _ e1 hPP)) ev_c (ruleAt_st _ _ _ e1 hRR) H1 (Ex.refl H1) _ fun v H2 e2 ⟨a, ea, ha⟩ => ?_
        refine ⟨a, _, ea, ha, rfl, _, _, rfl, _, _, rfl, _, _, rfl, _, _, rfl, _, _, rfl, rfl, ?_⟩
        have hw : ∀ {σ1 : L2.St}, σ1[1]? = some (some (.ref ap)) → Ev (tOp (rIxT K) (tVar 1) (tC (.int 3))) σ1 H2 (.int x.whole) := fun e => ev_ixT (n := 3) (ev_var e) ev_c (ex_t (e1.trans e2) hP) rfl
        refine sr_ret (er_part5 (K := K) (ev_var rfl) (ev_var rfl) (hw rfl) (hw rfl) (ev_var rfl)) fun v3 H3 e3 r3 => k v3 H3 ((e1.trans e2).trans e3) ?_
        unfold keptPart
        rw [if_pos ⟨hst, z⟩]
        exact r3
      · refine q_when (b := false) (et_and1 (et_is (et_B (h0 (Ex.refl H))) hst) (et_is (et_op (h1 (Ex.refl H)) ev_c rv_I0) (decide_eq_false z))) (fun z => by cases z) fun _ H1 e1 => no ?_ H1 e1
        unfold keptPart
        rw [if_neg fun q => z q.2]
/-! ### let_part -/
theorem sc_let : FnScope ["rule", "part"] ["rule", "part"] (fnScope (top 28)) := fnScope_by (by decide +kernel)
theorem c_let (T : Tx K mg) : Cal P w K mg base 2 "let_part" (spChg K letPart fun _ _ => True) [] := by
  have cP := c_passed (P := P) (w := w) (base := base) T
  refine calT T.let_part sc_let (fun vs H Q E h => ?_) (fun f cdv A outer s H vs Q E hr h => ?_)
  · obtain ⟨vr, vp, r, x, rfl, _⟩ := h
    rfl
  · obtain ⟨vr, vp, r, x, rfl, hRR, hPP, _, k⟩ := h
    obtain ⟨ar, rfl, hR⟩ := id hRR
    obtain ⟨ap, rfl, hP⟩ := id hPP
    refine ⟨_, pss_cons (ps_if (pt_val (pe_ix ix_tup (pv 0) pe_int (fun _ _ => rfl))) (pss_one (ps_ret (pe_tup (pa_cons pe_int (pa_cons pe_int (pa_cons pe_int (pa_cons pe_int (pa_cons pe_int pa_nil)))))))) pss_nil)
      (pss_one (ps_ret (pe_c cP hr (Nat.le_refl _) rfl (pa_cons (pv 0) (pa_cons (pv 1) (pa_cons pe_int pa_nil)))))), ?_⟩
    have hs : start ["rule", "part"] [.ref ar, .ref ap] = [some (.ref ar), some (.ref ap)] := rfl
    rw [hs]
    have h0 : Ev (tOp (rIxT K) (tVar 0) (tC (.int 4))) [some (.ref ar), some (.ref ap)] H (.bl r.clears) := ev_ixT (n := 4) (ev_var rfl) ev_c hR rfl
    cases hst : r.clears with
    | true =>
      refine q_when (b := true) (et_is (et_B h0) hst) (fun _ H1 e1 => ?_) (fun z => by cases z)
      refine sr_ret (er_part5 (K := K) ev_c ev_c ev_c ev_c ev_c) fun v3 H3 e3 r3 => k v3 H3 (e1.trans e3) ?_
      unfold letPart
      rw [if_pos hst]
      exact r3
    | false =>
      refine q_when (b := false) (et_is (et_B h0) hst) (fun z => by cases z) fun _ H1 e1 => ?_
      refine sr_ret (er_passed (r := r) (x := x) (ev_var rfl) (er_part (ev_var rfl) (partAt_st _ _ _ e1 hPP)) ev_c (ruleAt_st _ _ _ e1 hRR)) fun v H2 e2 r2 => k v H2 (e1.trans e2) ?_
      unfold letPart
      rw [if_neg (by rw [hst]; exact Bool.false_ne_true)]
      exact r2
theorem s_ret' {σ : L2.St} {H : Hp} {te : TE} {R : V → Hp → Prop} {D : Ends} (h : Er te σ H R) (k : ∀ v H1, Ex H H1 → R v H1 → D.rt v H1) : tRet te D σ H := sr_ret h k
theorem er_partS {σ : L2.St} {H : Hp} {t3 ta tb : TE} {t : TT} {b : Bool} {l s1 s2 : Int} (h3 : Ev t3 σ H (.int l)) (ht : EvT t σ H b) (ha : Ev ta σ H (.int s1)) (hb : Ev tb σ H (.int s2)) :
    Er (tTup (tCons (tC (.int 0)) (tCons (tC (.int 0)) (tCons t3 (tCons t3 (tCons (tIf t ta tb) tNil)))))) σ H (fun v H2 => ∃ p, v = .ref p ∧ SqT K H2 p [.int 0, .int 0, .int l, .int l, .int (if b = true then s1 else s2)]) := fun H1 e Q q =>
  eu_tup (ea_cons ev_c (ea_cons ev_c (ea_cons h3 (ea_cons h3 (ea_cons (ev_is (ev_ite ht ha hb) (by cases b <;> rfl)) ea_nil))))) (by show 5 ≤ 100000; decide) H1 e Q fun p H2 _ e2 h => q _ H2 e2 ⟨p, rfl, SqT.of h⟩
/-! ### begun -/
def nBegun : List Str := ["rule", "part", "count", "age", "left", "whole", "streak", "size"]
theorem sc_begun : FnScope nBegun ["rule", "part"] (fnScope (top 26)) := fnScope_by (by decide +kernel)
theorem ev_min2 {σ : L2.St} {H : Hp} {ta tb : TE} {i j : Int} (ha : Ev ta σ H (.int i)) (hb : Ev tb σ H (.int j)) : Ev (tCB (fun xs H Q => ∃ i j, xs = [V.int i, V.int j] ∧ Q (.int (if j < i then j else i)) H) (tCons ta (tCons tb tNil))) σ H (.int (if j < i then j else i)) := fun H1 e Q q =>
  ha H1 e _ fun H2 e2 => hb H2 (e.trans e2) _ fun H3 e3 => ⟨i, j, rfl, q H3 (e2.trans e3)⟩
theorem c_begun (T : Tx K mg) : Cal P w K mg base 2 "begun" (spChg K begun fun r x => RuleOk r ∧ 0 ≤ x.streak ∧ x.streak ≤ 2) [] := by
  have cP := c_passed (P := P) (w := w) (base := base) T
  refine calT T.begun sc_begun (fun vs H Q E h => ?_) (fun f cdv A outer s H vs Q E hr h => ?_)
  · obtain ⟨vr, vp, r, x, rfl, _⟩ := h
    rfl
  · obtain ⟨vr, vp, r, x, rfl, hRR, hPP, ⟨hro, hs0, hs2⟩, k⟩ := h
    obtain ⟨ar, rfl, hR⟩ := id hRR
    obtain ⟨ap, rfl, hP⟩ := id hPP
    obtain ⟨aF, gF, hF⟩ := T.factors
    have nd := sc_begun.nd
    refine ⟨_, pss_cons (ps_asg (pv 1) (pg_tup (n := 5) rfl (pgs_cons (pg_name (i := 2) nd rfl (.inl rfl)) (pgs_cons (pg_name (i := 3) nd rfl (.inl rfl)) (pgs_cons (pg_name (i := 4) nd rfl (.inl rfl)) (pgs_cons (pg_name (i := 5) nd rfl (.inl rfl)) (pgs_cons (pg_name (i := 6) nd rfl (.inl rfl)) pgs_nil)))))))
      (pss_cons (ps_if (pt_cmpR op_lt (pe_op op_add (pv 2) pe_int) (pe_ix ix_tup (pv 0) pe_int (fun _ _ => rfl)) (nomark _))
          (pss_one (ps_ret (pe_c cP hr (Nat.le_refl _) rfl (pa_cons (pv 0) (pa_cons (pe_tup (pa_cons (pe_op op_add (pv 2) pe_int) (pa_cons pe_int (pa_cons pe_int (pa_cons pe_int (pa_cons (pv 6) pa_nil)))))) (pa_cons pe_int pa_nil)))))) pss_nil)
      (pss_cons (ps_set (i := 7) nd rfl (.inl rfl) (pe_op op_mul (pe_ix ix_tup (pv 0) pe_int (fun _ _ => rfl)) (pe_ifExp (pt_val (pe_ix ix_tup (pv 0) pe_int (fun _ _ => rfl))) (pe_ix ix_tup (pe_glob (v := .ref aF) rfl gF rfl) (pv 6) (fun _ _ => rfl)) pe_int)))
      (pss_one (ps_ret (pe_tup (pa_cons pe_int (pa_cons pe_int (pa_cons (pv 7) (pa_cons (pv 7) (pa_cons (pe_ifExp (pt_val (pe_ix ix_tup (pv 0) pe_int (fun _ _ => rfl))) (pe_callB (call_min2 rfl) rfl (T.fr "min") (by decide +kernel) (pa_cons (pe_op op_add (pv 6) pe_int) (pa_cons pe_int pa_nil))) pe_int) pa_nil)))))))))), ?_⟩
    have hs : start nBegun [.ref ar, .ref ap] = [some (.ref ar), some (.ref ap), none, none, none, none, none, none] := rfl
    rw [hs]
    refine ⟨_, rfl, ap, _, rfl, hP, rfl, _, _, rfl, _, _, rfl, _, _, rfl, _, _, rfl, _, _, rfl, rfl, ?_⟩
    show tSeq _ _ _ [some (.ref ar), some (.ref ap), some (.int x.count), some (.int x.age), some (.int x.left), some (.int x.whole), some (.int x.streak), none] H
    generalize hσ : [some (V.ref ar), some (.ref ap), some (.int x.count), some (.int x.age), some (.int x.left), some (.int x.whole), some (.int x.streak), none] = σ
    have h0 : σ[0]? = some (some (.ref ar)) := by rw [← hσ]; rfl
    have h2 : σ[2]? = some (some (.int x.count)) := by rw [← hσ]; rfl
    have h6 : σ[6]? = some (some (.int x.streak)) := by rw [← hσ]; rfl
    have hlen : 7 < σ.length := by rw [← hσ]; show 7 < 8; decide
    by_cases z : x.count + 1 < r.most
    · refine q_when (b := true) (et_is (et_op (ev_add (ev_var h2) ev_c) (ev_ixT (n := 1) (ev_var h0) ev_c hR rfl) rv_I0) (decide_eq_true z)) (fun _ H1 e1 => ?_) (fun z => by cases z)
      refine sr_ret (er_passed (r := r) (x := ⟨x.count + 1, 0, 0, 0, x.streak⟩) (many := 1) (ev_var h0) (er_part5 (K := K) (ev_add (ev_var h2) ev_c) ev_c ev_c ev_c (ev_var h6)) ev_c (ruleAt_st _ _ _ e1 hRR)) fun v H2 e2 r2 => k v H2 (e1.trans e2) ?_
      unfold begun
      rw [if_pos z]
      exact r2
    · refine q_when (b := false) (et_is (et_op (ev_add (ev_var h2) ev_c) (ev_ixT (n := 1) (ev_var h0) ev_c hR rfl) rv_I0) (decide_eq_false z)) (fun z => by cases z) (fun _ H1 e1 => ?_)
      have hfac : Ev (tOp (rIxT K) (tC (.ref aF)) (tVar 6)) σ H1 (.int (factor x.streak)) := by
        have q : x.streak = 0 ∨ x.streak = 1 ∨ x.streak = 2 := by omega
        rcases q with q | q | q
        · exact ev_ixT (n := 0) ev_c (by rw [q] at h6; exact ev_var h6) (hF _) (by rw [q]; rfl)
        · exact ev_ixT (n := 1) ev_c (by rw [q] at h6; exact ev_var h6) (hF _) (by rw [q]; rfl)
        · exact ev_ixT (n := 2) ev_c (by rw [q] at h6; exact ev_var h6) (hF _) (by rw [q]; rfl)
      have hg : ∀ {H1 : Hp} {σ : L2.St}, Ex H H1 → σ[0]? = some (some (.ref ar)) → EvT (tB (tOp (rIxT K) (tVar 0) (tC (.int 5)))) σ H1 r.grows := fun e h => et_B (ev_ixT (n := 5) (ev_var h) ev_c (ex_t e hR) rfl)
      refine q_asg (v := .int (r.lock * (if r.grows = true then factor x.streak else 1))) (ev_op (x := .int r.lock) (y := .int (if r.grows = true then factor x.streak else 1)) (ev_ixT (n := 2) (ev_var h0) ev_c (ex_t e1 hR) rfl) (ev_is (ev_ite (hg e1 h0) hfac ev_c) (by cases r.grows <;> rfl)) (rv_I (.inl ⟨by have := hro.2.2.1.1; omega, by have := hro.2.2.1.2; omega⟩))) fun H2 e2 => ?_
      have g0 : (σ.set 7 (some (.int (r.lock * (if r.grows = true then factor x.streak else 1)))))[0]? = some (some (.ref ar)) := by rw [List.getElem?_set_ne (by decide)]; exact h0
      have g6 : (σ.set 7 (some (.int (r.lock * (if r.grows = true then factor x.streak else 1)))))[6]? = some (some (.int x.streak)) := by rw [List.getElem?_set_ne (by decide)]; exact h6
      have g7 : (σ.set 7 (some (.int (r.lock * (if r.grows = true then factor x.streak else 1)))))[7]? = some (some (.int (r.lock * (if r.grows = true then factor x.streak else 1)))) := List.getElem?_set_self hlen
      have fin : ∀ v H3, Ex H2 H3 → (∃ p, v = .ref p ∧ SqT K H3 p (partVs (begun r x))) → Q v H3 := fun v H3 e3 r3 => k v H3 ((e1.trans e2).trans e3) r3
      cases hgr : r.grows with
      | true =>
        rw [hgr] at g0 g6 g7
        refine s_ret' (er_partS (K := K) (b := true) (ev_var g7) (et_is (hg (e1.trans e2) g0) hgr) (ev_min2 (ev_add (ev_var g6) ev_c) ev_c) ev_c) fun v H3 e3 r3 => fin v H3 e3 ?_
        unfold begun
        rw [if_neg z, hgr]
        exact r3
      | false =>
        rw [hgr] at g0 g6 g7
        refine s_ret' (er_partS (K := K) (b := false) (ev_var g7) (et_is (hg (e1.trans e2) g0) hgr) (ev_min2 (ev_add (ev_var g6) ev_c) ev_c) ev_c) fun v H3 e3 r3 => fin v H3 e3 ?_
        unfold begun
        rw [if_neg z, hgr]
        exact r3
end
end TL
/-! Trylocks, walk E: left_at, is_locked, idle. -/
namespace TL
open PySem PySem.Spec PyProof.Rows L2 Evl C8 RZ
/-- a standing of the book's shape -/
def Fits (b : TL.Book) (σ : Stand) : Prop := σ.length = b.rules.length ∧ ∀ (i : Nat) (r : TL.Rule) (ps : List Part), b.rules[i]? = some r → σ[i]? = some ps → ps.length = (keysOf b r).length
section
variable {P : Program} {w : World} {K : PySem.W.Frag} {mg : Str → Option Value} {base : Heap}
/-! ### left_at -/
def leftRow (b : TL.Book) (a p : Int) (q : TL.Rule × List Part) (n : Nat) : List Int := (((keysOf b q.1).zip q.2).take n).filterMap fun z => if isAt z.1 a p then some z.2.left else none
def leftTo (b : TL.Book) (σ : Stand) (a p : Int) (n : Nat) : List Int := ((b.rules.zip σ).take n).flatMap fun q => ((keysOf b q.1).zip q.2).filterMap fun z => if isAt z.1 a p then some z.2.left else none
def nLeft : List Str := ["book", "standing", "account", "place", "found", "rule", "parts", "key", "part"]
theorem sc_left : FnScope nLeft ["book", "standing", "account", "place"] (fnScope (top 22)) := fnScope_by (by decide +kernel)
def spLeft (K : PySem.W.Frag) : Sp := fun vs H Q _ => ∃ (v vs0 : V) (b : TL.Book) (σ : Stand) (a p : Int), vs = [v, vs0, .int a, .int p] ∧ BookAt K b v H ∧ StandAt K σ vs0 H ∧ BookOk2 b ∧ Fits b σ ∧ RetL ((leftAt b σ a p).map V.int) H Q
theorem leftRow_len (b : TL.Book) (a p : Int) (q : TL.Rule × List Part) (n : Nat) : (leftRow b a p q n).length ≤ n := by
  unfold leftRow
  exact Nat.le_trans (List.length_filterMap_le _ _) (by rw [List.length_take]; omega)
theorem leftTo_len {b : TL.Book} (h : BookOk b) (σ : Stand) (a p : Int) (n : Nat) : (leftTo b σ a p n).length ≤ 4 * n := by
  unfold leftTo
  have q : ∀ l : List (TL.Rule × List Part), (l.flatMap fun q => ((keysOf b q.1).zip q.2).filterMap fun z => if isAt z.1 a p then some z.2.left else none).length ≤ 4 * l.length := fun l => by
    induction l with
    | nil => simp
    | cons x l ih =>
      rw [List.flatMap_cons, List.length_append, List.length_cons]
      have h1 := List.length_filterMap_le (fun z : TL.Key × Part => if isAt z.1 a p then some z.2.left else none) ((keysOf b x.1).zip x.2)
      rw [List.length_zip] at h1
      have h2 := keys_len h x.1
      omega
  exact Nat.le_trans (q _) (by rw [List.length_take]; omega)
theorem take_next {α : Type} {l : List α} {i : Nat} {x : α} (h : l[i]? = some x) : l.take (i + 1) = l.take i ++ [x] := by
  rw [List.take_succ, h]
  rfl
theorem zip_get {α β : Type} {l : List α} {m : List β} {i : Nat} {x : α} {y : β} (h1 : l[i]? = some x) (h2 : m[i]? = some y) : (l.zip m)[i]? = some (x, y) := by
  rw [List.getElem?_zip_eq_some]
  exact ⟨h1, h2⟩
theorem ev_isAt {σ : L2.St} {H : Hp} {t1 t2 t3 : TE} {v : V} {k : TL.Key} {a p : Int} (h1 : Ev t1 σ H v) (h2 : Ev t2 σ H (.int a)) (h3 : Ev t3 σ H (.int p)) (hk : KeyAt K k v H) : Ev (tCall (spIsAt K) [] C8.E0 (tCons t1 (tCons t2 (tCons t3 tNil)))) σ H (.bl (isAt k a p)) :=
  ev_callV (ea_cons h1 (ea_cons h2 (ea_cons h3 ea_nil))) fun H1 e Q q E => ⟨v, k, a, p, rfl, keyAt_st _ _ _ e hk, q⟩
theorem c_left (T : Tx K mg) : Cal P w K mg base 3 "left_at" (spLeft K) [] := by
  have cK := c_keys (P := P) (w := w) (base := base) T
  have cA := c_is_at (P := P) (w := w) (base := base) T
  refine calT T.left_at sc_left (fun vs H Q E h => ?_) (fun f cdv A outer s H vs Q E hr h => ?_)
  · obtain ⟨v, v0, b, σ, a, p, rfl, _⟩ := h
    rfl
  · obtain ⟨v, v0, b, σ0, a, p, rfl, hBB, hSS, ⟨hok, hru⟩, hfit, k⟩ := h
    obtain ⟨pb, dx, ra, rfl, hB, rs, hR, hRs⟩ := id hBB
    obtain ⟨as, ss, rfl, hS, hSs⟩ := id hSS
    have nd := sc_left.nd
    refine ⟨_, pss_cons (ps_set (i := 4) nd rfl (.inl rfl) (pe_lst pa_nil))
      (pss_cons (ps_for PassesOwn.never rfl (pi_zipA rfl (T.fr "zip") (pa_cons (pe_fld (pv 0) rfl) (pa_cons (pv 1) pa_nil))) (pg_tup (n := 2) rfl (pgs_cons (pg_name (i := 5) nd rfl (.inl rfl)) (pgs_cons (pg_name (i := 6) nd rfl (.inl rfl)) pgs_nil)))
        (pss_one (ps_for PassesOwn.never rfl (pi_zipLT rfl (T.fr "zip") (pa_cons (pe_c cK hr (by decide) rfl (pa_cons (pv 0) (pa_cons (pv 5) pa_nil))) (pa_cons (pv 6) pa_nil))) (pg_tup (n := 2) rfl (pgs_cons (pg_name (i := 7) nd rfl (.inl rfl)) (pgs_cons (pg_name (i := 8) nd rfl (.inl rfl)) pgs_nil)))
          (pss_one (ps_if (pt_val (pe_c cA hr (by decide) rfl (pa_cons (pv 7) (pa_cons (pv 2) (pa_cons (pv 3) pa_nil)))))
            (pss_one (ps_expr (pe_bm PySem.F.plainAttrs_list PySem.F.slot_list_append PySem.F.type_list_append mt_append (pv 4) (pa_cons (pe_ix ix_tup (pv 8) pe_int (fun _ _ => rfl)) pa_nil)))) pss_nil)))))
      (pss_one (ps_ret (pv 4)))), ?_⟩
    have hs : start nLeft [.ref pb, .ref as, .int a, .int p] = [some (.ref pb), some (.ref as), some (.int a), some (.int p), none, none, none, none, none] := rfl
    rw [hs]
    refine q_asgL (el_lst ea_nil (by decide)) fun l H1 hl e1 hl1 => ?_
    show tSeq _ _ _ [some (.ref pb), some (.ref as), some (.int a), some (.int p), some (.ref l), none, none, none, none] H1
    have hlen : rs.length = ss.length := by rw [Paired.length hRs, Paired.length hSs]; exact hfit.1.symm
    have hrl : rs.length ≤ 3 := by rw [Paired.length hRs]; exact hok.2.2
    refine s_forZT (K := K) (a := ra) (b := as) (xs := rs) (ys := ss) (ea_cons (ev_fld (ev_var rfl) (e1 _ _ hB) T.clsB T.naR (bk_rules _ _)) (ea_cons (ev_var rfl) ea_nil)) (ex_t e1 hR) (ex_t e1 hS) hlen
      (fun i σ' H' => ∃ u1 u2 u3 u4, σ' = [some (.ref pb), some (.ref as), some (.int a), some (.int p), some (.ref l), u1, u2, u3, u4] ∧ Ex H H' ∧ H' l = some (.lst ((leftTo b σ0 a p i).map V.int)))
      (fun H2 e2 => ⟨_, _, _, _, rfl, e1.trans e2, e2 _ _ hl1⟩) (fun i σ' H' ⟨_, _, _, _, _, e, _⟩ => ⟨ex_t e hR, ex_t e hS⟩) ?_ ?_
    · rintro i x y σ' H' t hi hx hy ⟨u1, u2, u3, u4, rfl, e2, hf⟩ hT
      obtain ⟨r, hr1, hr2⟩ := paired_get hRs hx
      obtain ⟨ps, hp1, hp2⟩ := paired_get hSs hy
      have hrk : RuleOk r := hru r (List.mem_of_getElem? hr1)
      have e3 : Ex H (upd H' t (.tup [x, y])) := e2.trans (Ex.new hT)
      have hf3 : (upd H' t (.tup [x, y])) l = some (.lst ((leftTo b σ0 a p i).map V.int)) := by rw [upd_ne (ne_of_none hf hT)]; exact hf
      obtain ⟨ap, pvs, rfl, hP, hPs⟩ := partsAt_st _ _ _ e3 hp2
      have hlz : (keysOf b r).length = pvs.length := by rw [Paired.length hPs]; exact (hfit.2 i r ps hr1 hp1).symm
      generalize hH3 : upd H' t (.tup [x, .ref ap]) = H3 at e3 hf3 hP hPs
      show tFor _ _ _ _ [some (.ref pb), some (.ref as), some (.int a), some (.int p), some (.ref l), some x, some (.ref ap), u3, u4] H3
      refine s_forZLT (K := K) (b := ap) (ys := pvs) (S := KeysAt K (keysOf b r)) (eraL_cons (erl_keys (b := b) (r := r) (ev_var rfl) (ev_var rfl) (bookAt_st _ _ _ e3 hBB) (ruleAt_st _ _ _ e3 hr2) hok hrk.1) (ev_var rfl) (fun _ _ _ e h => keysAt_T (exT e) h)) hP (fun ws H4 h => (Paired.length h).trans hlz)
        (fun kp ws j σ' H' => ∃ u3 u4, σ' = [some (.ref pb), some (.ref as), some (.int a), some (.int p), some (.ref l), some x, some (.ref ap), u3, u4] ∧ Ex H H' ∧ H' kp = some (.lst ws) ∧ kp ≠ l ∧ SqT K H' ap pvs ∧ KeysAt K (keysOf b r) ws H' ∧ Paired (fun v x => PartAt K x v H') pvs ps ∧ H' l = some (.lst ((leftTo b σ0 a p i ++ leftRow b a p (r, ps) j).map V.int)))
        (fun kp ws H4 hk e4 hw hws => ?_) (fun kp ws j σ' H' ⟨_, _, _, _, h1, _, h2, _⟩ => ⟨h1, h2⟩) ?_ ?_
      · refine ⟨_, _, rfl, e3.trans e4, hw, (ne_of_none hf3 hk).symm, ex_t e4 hP, hws, Paired.mapP hPs fun v x q => partAt_st v _ _ e4 q, ?_⟩
        rw [show leftRow b a p (r, ps) 0 = [] from rfl, List.append_nil]
        exact e4 _ _ hf3
      · rintro kp ws j kx px σ' H' t2 hj hkx hpx ⟨u3, u4, rfl, e5, hkp, hne, hP5, hK5, hPs5, hf5⟩ hT2
        obtain ⟨kk, hk1, hk2⟩ := paired_get hK5 hkx
        obtain ⟨pp, hq1, hq2⟩ := paired_get hPs5 hpx
        have eN : Ex H' (upd H' t2 (.tup [kx, px])) := Ex.new hT2
        have hf6 : (upd H' t2 (.tup [kx, px])) l = some (.lst ((leftTo b σ0 a p i ++ leftRow b a p (r, ps) j).map V.int)) := eN _ _ hf5
        obtain ⟨aq, rfl, hq3⟩ := partAt_st _ _ _ eN hq2
        have hk3 := keyAt_st _ _ _ eN hk2
        have hzip : ((keysOf b r).zip ps)[j]? = some (kk, pp) := zip_get hk1 hq1
        have hrow : leftRow b a p (r, ps) (j + 1) = leftRow b a p (r, ps) j ++ (if isAt kk a p then [pp.left] else []) := by
          unfold leftRow
          rw [take_next hzip, List.filterMap_append]
          congr 1
          cases hz : isAt kk a p <;> simp [List.filterMap_cons, hz]
        have stay : ∀ {H7 : Hp}, ExT (upd H' t2 (.tup [kx, .ref aq])) H7 → SqT K H7 ap pvs ∧ KeysAt K (keysOf b r) ws H7 ∧ Paired (fun v x => PartAt K x v H7) pvs ps := fun e7 =>
          ⟨e7.sq (ex_t eN hP5), keysAt_T ((exT eN).trans e7) hK5, Paired.mapP hPs5 fun v x q => partAt_T v _ _ ((exT eN).trans e7) q⟩
        generalize hH6 : upd H' t2 (.tup [kx, .ref aq]) = H6 at eN hf6 hq3 hk3 stay
        show tIfS _ _ _ _ [some (.ref pb), some (.ref as), some (.int a), some (.int p), some (.ref l), some x, some (.ref ap), some kx, some (.ref aq)] H6
        have hsz : ((leftTo b σ0 a p i ++ leftRow b a p (r, ps) j).map V.int).length < 100000 := by
          rw [List.length_map, List.length_append]
          have h1 := leftTo_len hok σ0 a p i
          have h2 := leftRow_len b a p (r, ps) j
          have h3 := keys_len hok r
          omega
        cases hz : isAt kk a p with
        | true =>
          refine s_when (b := true) (et_is (et_B (ev_isAt (k := kk) (ev_var rfl) (ev_var rfl) (ev_var rfl) hk3)) hz) (fun _ H7 e7 => ?_) (fun z => by cases z)
          refine s_app (K := K) (v := .int pp.left) (e7 _ _ hf6) (ev_var rfl) (ev_ixT (n := 2) (ev_var rfl) ev_c (ex_t e7 hq3) rfl) hsz fun H8 e8 => ?_
          have eT : ExT H6 (upd H8 l (.lst ((leftTo b σ0 a p i ++ leftRow b a p (r, ps) j).map V.int ++ [.int pp.left]))) := (exT (e7.trans e8)).trans (ExT.lst ((e7.trans e8) _ _ hf6))
          obtain ⟨s1, s2, s3⟩ := stay eT
          refine ⟨_, _, rfl, Ex.mut ((e5.trans eN).trans (e7.trans e8)) hl, ?_, hne, s1, s2, s3, ?_⟩
          · rw [upd_ne hne]
            exact (e7.trans e8) _ _ (eN _ _ hkp)
          · rw [upd_same, hrow, hz]
            simp only [if_true, ← List.append_assoc, List.map_append, List.map_cons, List.map_nil]
        | false =>
          refine s_when (b := false) (et_is (et_B (ev_isAt (k := kk) (ev_var rfl) (ev_var rfl) (ev_var rfl) hk3)) hz) (fun z => by cases z) (fun _ H7 e7 => ?_)
          obtain ⟨s1, s2, s3⟩ := stay (exT e7)
          refine ⟨_, _, rfl, (e5.trans eN).trans e7, e7 _ _ (eN _ _ hkp), hne, s1, s2, s3, ?_⟩
          rw [hrow, hz]
          show H7 l = some (.lst ((leftTo b σ0 a p i ++ (leftRow b a p (r, ps) j ++ [])).map V.int))
          rw [List.append_nil]
          exact e7 _ _ hf6
      · rintro kp ws σ' H' ⟨u3, u4, rfl, e5, _, _, _, _, _, hf5⟩
        refine ⟨_, _, _, _, rfl, e5, ?_⟩
        have hzip : (b.rules.zip σ0)[i]? = some (r, ps) := zip_get hr1 hp1
        have ht : leftTo b σ0 a p (i + 1) = leftTo b σ0 a p i ++ leftRow b a p (r, ps) pvs.length := by
          unfold leftTo leftRow
          rw [take_next hzip, List.flatMap_append, List.flatMap_cons, List.flatMap_nil, List.append_nil]
          congr 1
          show List.filterMap _ ((keysOf b r).zip ps) = List.filterMap _ (((keysOf b r).zip ps).take _)
          rw [List.take_of_length_le (by rw [List.length_zip]; omega)]
        rw [ht]
        exact hf5
    · rintro σ' H' ⟨u1, u2, u3, u4, rfl, e2, hf⟩
      refine ⟨_, rfl, k l H' hl e2 ?_⟩
      have ht : leftTo b σ0 a p rs.length = leftAt b σ0 a p := by
        unfold leftTo leftAt
        rw [List.take_of_length_le (by rw [List.length_zip, ← Paired.length hRs]; omega)]
      rw [← ht]
      exact hf
/-! ### is_locked -/
def nLocked : List Str := ["book", "standing", "account", "place", "left"]
theorem sc_locked : FnScope nLocked ["book", "standing", "account", "place"] (fnScope (top 23)) := fnScope_by (by decide +kernel)
def spLocked (K : PySem.W.Frag) : Sp := fun vs H Q _ => ∃ (v vs0 : V) (b : TL.Book) (σ : Stand) (a p : Int), vs = [v, vs0, .int a, .int p] ∧ BookAt K b v H ∧ StandAt K σ vs0 H ∧ BookOk2 b ∧ Fits b σ ∧ RetV (.bl (isLocked b σ a p)) H Q
theorem ev_any {σ : L2.St} {H : Hp} {te : TE} {bs : List Bool} (h : ErL te σ H (fun ws _ => ws = bs.map V.bl)) : Ev (tCB (rAny K) (tCons te tNil)) σ H (.bl (bs.any id)) := fun H1 e Q q =>
  h H1 e _ fun p vs H2 hp e2 hl hs => ⟨p, bs, rfl, by rw [← hs]; exact sq_of hl, q H2 e2⟩
theorem list_of_get {α : Type} : ∀ {l m : List α}, l.length = m.length → (∀ i, i < m.length → l[i]? = m[i]?) → l = m := fun {l m} h f => List.ext_getElem? fun i => by
  by_cases hi : i < m.length
  · exact f i hi
  · rw [List.getElem?_eq_none (by omega), List.getElem?_eq_none (by omega)]
theorem leftAt_len {b : TL.Book} (h : BookOk b) (σ : Stand) (a p : Int) : (leftAt b σ a p).length ≤ 12 := by
  have e : leftTo b σ a p 3 = leftAt b σ a p := by
    unfold leftTo leftAt
    rw [List.take_of_length_le (by rw [List.length_zip]; have := h.2.2; omega)]
  rw [← e]
  exact leftTo_len h σ a p 3
theorem c_locked (T : Tx K mg) : Cal P w K mg base 4 "is_locked" (spLocked K) [] := by
  have cL := c_left (P := P) (w := w) (base := base) T
  refine calT T.is_locked sc_locked (fun vs H Q E h => ?_) (fun f cdv A outer s H vs Q E hr h => ?_)
  · obtain ⟨v, v0, b, σ, a, p, rfl, _⟩ := h
    rfl
  · obtain ⟨v, v0, b, σ0, a, p, rfl, hBB, hSS, hok, hfit, k⟩ := h
    have nd := sc_locked.nd
    refine ⟨_, pss_one (ps_ret (pe_callB (r := rAny K) (cr_any rfl) rfl (T.fr "any") (by decide +kernel) (pa_cons (pe_lc (own := [("left", 4)]) (g := gName 4) (tt := tYes) rfl nd (pi_list (pe_c cL hr (by decide) rfl (pa_cons (pv 0) (pa_cons (pv 1) (pa_cons (pv 2) (pa_cons (pv 3) pa_nil))))))
      (blkOk_by (N := nLocked) (sc := fnScope (top 23)) (by decide +kernel)) (fun _ _ _ _ _ => pg_name (i := 4) nd rfl (Or.inl rfl)) (fun _ _ _ _ _ => pts_nil) (fun _ _ _ _ _ => pe_cmpR op_gt (pv 4) pe_int (nomark _))) pa_nil))), ?_⟩
    have hs : start nLocked [v, v0, .int a, .int p] = [some v, some v0, some (.int a), some (.int p), none] := rfl
    rw [hs]
    have hl : ErL (tCall (spLeft K) [] C8.E0 (tCons (tVar 0) (tCons (tVar 1) (tCons (tVar 2) (tCons (tVar 3) tNil))))) [some v, some v0, some (.int a), some (.int p), none] H (fun ws _ => ws = (leftAt b σ0 a p).map V.int) :=
      erl_call (era_of (ea_cons (ev_var rfl) (ea_cons (ev_var rfl) (ea_cons (ev_var rfl) (ea_cons (ev_var rfl) ea_nil))))) fun vs H2 e2 hv Q q E => by
        subst hv
        exact ⟨v, v0, b, σ0, a, p, rfl, bookAt_st _ _ _ e2 hBB, standAt_st _ _ _ e2 hSS, hok, hfit, fun p H3 hp e3 h3 => q p _ H3 hp e3 h3 rfl⟩
    refine s_ret (v := .bl (((leftAt b σ0 a p).map fun l => decide (0 < l)).any id)) (ev_any (K := K) ?_) (fun H1 e1 => ?_)
    · refine fun H1 e Q q => er_lc (n := (leftAt b σ0 a p).length) (S := fun i v H => ∀ l, (leftAt b σ0 a p)[i]? = some l → v = .bl (decide (0 < l))) (eri_new (K := K) hl (fun vs _ h => by rw [h, List.length_map]) (fun _ _ _ _ h => h)) yes_ok (fun i v H H' e h => h) (Nat.lt_of_le_of_lt (leftAt_len hok.1 _ _ _) (by decide)) ?_ H1 e Q fun lp ws H2 hp e2 hw ⟨h1, h2⟩ => q lp ws H2 hp e2 hw ?_
      · rintro i x H2 H3 C hi e ⟨rfl, vs, rfl, hx⟩ kC
        rw [List.getElem?_map] at hx
        cases hz : (leftAt b σ0 a p)[i]? with
        | none => rw [hz] at hx; cases hx
        | some l =>
          rw [hz] at hx
          cases hx
          refine kC _ rfl (Ex.refl _) (Er.imp (er_of (ev_op (z := .bl (decide (0 < l))) (ev_var rfl) ev_c rv_I0)) fun v H4 e4 h l' hl' => ?_)
          rw [hz] at hl'
          cases hl'
          exact h
      · refine list_of_get (by simp [h1]) fun i hi => ?_
        have hi : i < (leftAt b σ0 a p).length := by simpa using hi
        obtain ⟨u, g1, g2⟩ := h2 i hi
        rw [g1, List.getElem?_map, List.getElem?_map, List.getElem?_eq_getElem hi]
        rw [g2 _ (List.getElem?_eq_getElem hi)]
        rfl
    · have q := k H1 e1
      unfold isLocked at q
      rw [List.any_map]
      exact q
/-! ### idle -/
def nIdle : List Str := ["book", "standing", "many", "rule", "parts", "part"]
theorem sc_idle : FnScope nIdle ["book", "standing", "many"] (fnScope (top 25)) := fnScope_by (by decide +kernel)
abbrev eIdle : Expr := arg0 (exOf (bodyAt (top 25) 0))
def spIdle (K : PySem.W.Frag) : Sp := fun vs H Q _ => ∃ (v vs0 : V) (b : TL.Book) (σ : Stand) (many : Int), vs = [v, vs0, .int many] ∧ BookAt K b v H ∧ StandAt K σ vs0 H ∧ BookOk2 b ∧ Fits b σ ∧ RetR (StandAt K (idle b σ many)) H Q
theorem fits_le {b : TL.Book} (ok : BookOk b) {σ : Stand} (h : Fits b σ) {i : Nat} {ps : List Part} (hp : σ[i]? = some ps) : ps.length ≤ 4 := by
  have hi : i < b.rules.length := by rw [← h.1]; exact (List.getElem?_eq_some_iff.mp hp).1
  rw [h.2 i _ ps (List.getElem?_eq_getElem hi) hp]
  exact keys_len ok _
theorem c_idle (T : Tx K mg) : Cal P w K mg base 2 "idle" (spIdle K) [] := by
  have cP := c_passed (P := P) (w := w) (base := base) T
  refine calT T.idle sc_idle (fun vs H Q E h => ?_) (fun f cdv A outer s H vs Q E hr h => ?_)
  · obtain ⟨v, v0, b, σ, many, rfl, _⟩ := h
    rfl
  · obtain ⟨v, v0, b, σ0, many, rfl, hBB, hSS, ⟨hok, hru⟩, hfit, k⟩ := h
    obtain ⟨pb, dx, ra, rfl, hB, rs, hR, hRs⟩ := id hBB
    obtain ⟨as, ss, rfl, hS, hSs⟩ := id hSS
    have nd := sc_idle.nd
    refine ⟨_, pss_one (ps_ret (pe_callTy (r := rTupOf K) call_tuple_of rfl (T.fr "tuple") boot_tuple (pa_cons (pe_lc (own := [("rule", 3), ("parts", 4)]) (g := gTup K 2 (gCons (gName 3) (gCons (gName 4) gNil))) (tt := tYes) rfl nd (pi_zipA rfl (T.fr "zip") (pa_cons (pe_fld (pv 0) rfl) (pa_cons (pv 1) pa_nil))) (blkOk_by (N := nIdle) (sc := fnScope (top 25)) (by decide +kernel))
      (fun _ _ _ _ _ => pg_tup (n := 2) rfl (pgs_cons (pg_name (i := 3) nd rfl (Or.inr rfl)) (pgs_cons (pg_name (i := 4) nd rfl (Or.inl rfl)) pgs_nil))) (fun _ _ _ _ _ => pts_nil)
      (fun _ _ _ _ _ => pe_callTy (r := rTupOf K) call_tuple_of rfl (T.fr "tuple") boot_tuple (pa_cons (pe_lc (own := [("part", 5)]) (g := gName 5) (tt := tYes) (wi := iTup K (tVar 4)) rfl nd (pi_tup (pv 4))
        (blkOk_by (N := nIdle) (sc := relS (lcSc eIdle) (fnScope (top 25))) (by decide +kernel)) (fun _ _ _ _ _ => pg_name (i := 5) nd rfl (Or.inl rfl)) (fun _ _ _ _ _ => pts_nil) (fun _ _ _ _ _ => pe_c cP hr (by decide) rfl (pa_cons (pv 3) (pa_cons (pv 5) (pa_cons (pv 2) pa_nil))))) pa_nil))) pa_nil))), ?_⟩
    have hs : start nIdle [.ref pb, .ref as, .int many] = [some (.ref pb), some (.ref as), some (.int many), none, none, none] := rfl
    rw [hs]
    have hlen : rs.length = ss.length := by rw [Paired.length hRs, Paired.length hSs]; exact hfit.1.symm
    have hrl : rs.length ≤ 3 := by rw [Paired.length hRs]; exact hok.2.2
    refine sr_ret (R := StandAt K (idle b σ0 many)) (Er.imp (er_tupleOf (K := K) (er_lc (n := rs.length) (S := fun i v H => ∀ r ps, b.rules[i]? = some r → σ0[i]? = some ps → PartsAt K (ps.map fun x => passed r x many) v H)
      (eri_zipT (ea_cons (ev_fld (ev_var rfl) hB T.clsB T.naR (bk_rules _ _)) (ea_cons (ev_var rfl) ea_nil)) hR hS hlen) yes_ok
      (fun i v H H' e h r ps h1 h2 => partsAt_T v H H' e (h r ps h1 h2)) (by omega) ?_) ?_) ?_) fun v H1 e1 r1 => k v H1 e1 r1
    · rintro i x H2 H3 C hi e ⟨t, x1, x2, rfl, hT, rfl, hx, hy⟩ kC
      obtain ⟨r, hr1, hr2⟩ := paired_get hRs hx
      obtain ⟨ps, hp1, hp2⟩ := paired_get hSs hy
      have e3 : Ex H (upd H2 t (.tup [x1, x2])) := e.trans (Ex.new hT)
      obtain ⟨ap, pvs, rfl, hP, hPs⟩ := partsAt_st _ _ _ e3 hp2
      refine ⟨t, _, rfl, st_of upd_same, rfl, x1, _, rfl, .ref ap, _, rfl, rfl, kC _ rfl (Ex.new hT) ?_⟩
      have r3 := ruleAt_st _ _ _ e3 hr2
      generalize upd H2 t (.tup [x1, .ref ap]) = H3 at e3 hP hPs r3
      refine Er.imp (er_tupleOf (K := K) (er_lc (n := pvs.length) (S := fun j v H => ∀ x, ps[j]? = some x → PartAt K (passed r x many) v H) (eri_tup (ev_var rfl) hP) yes_ok
        (fun j v H H' e h x hx => partAt_T v H H' e (h x hx)) (by rw [Paired.length hPs]; have := fits_le hok hfit hp1; omega) ?_) ?_) ?_
      · rintro j z H4 H5 C' hj e' ⟨rfl, hz⟩ kC'
        obtain ⟨pp, hq1, hq2⟩ := paired_get hPs hz
        refine kC' _ rfl (Ex.refl _) (Er.imp (er_passed (r := r) (x := pp) (many := many) (ev_var rfl) (er_part (ev_var rfl) (partAt_st _ _ _ e' hq2)) (ev_var rfl) (ruleAt_st _ _ _ e' r3)) fun v H6 e6 h x hx => ?_)
        rw [hq1] at hx
        cases hx
        exact h
      · exact fun ws H4 H5 e h => ⟨h.1, fun i hi => let ⟨v, h1, h2⟩ := h.2 i hi; ⟨v, h1, fun x hx => partAt_st v _ _ e (h2 x hx)⟩⟩
      · rintro v H4 e4 ⟨a, ws, rfl, hs, hl, hall⟩ r' ps' h1' h2'
        rw [hr1] at h1'
        cases h1'
        rw [hp1] at h2'
        cases h2'
        refine ⟨a, ws, rfl, hs, paired_of (by rw [hl, List.length_map]; exact Paired.length hPs) fun j x y h1 h2 => ?_⟩
        have hj : j < pvs.length := by rw [← hl]; exact (List.getElem?_eq_some_iff.mp h1).1
        obtain ⟨u, g1, g2⟩ := hall j hj
        rw [h1] at g1
        cases g1
        rw [List.getElem?_map] at h2
        cases hz : ps[j]? with
        | none => rw [hz] at h2; cases h2
        | some z =>
          rw [hz] at h2
          cases h2
          exact g2 z hz
    · exact fun ws H4 H5 e h => ⟨h.1, fun i hi => let ⟨v, h1, h2⟩ := h.2 i hi; ⟨v, h1, fun r ps a1 a2 => partsAt_st v _ _ e (h2 r ps a1 a2)⟩⟩
    · rintro v H4 e4 ⟨a, ws, rfl, hs, hl, hall⟩
      refine ⟨a, ws, rfl, hs, paired_of (by rw [hl, Paired.length hRs]; unfold idle; rw [List.length_map, List.length_zip, hfit.1, Nat.min_self]) fun i x y h1 h2 => ?_⟩
      have hi : i < rs.length := by rw [← hl]; exact (List.getElem?_eq_some_iff.mp h1).1
      obtain ⟨u, g1, g2⟩ := hall i hi
      rw [h1] at g1
      cases g1
      unfold idle at h2
      rw [List.getElem?_map] at h2
      cases hz : (b.rules.zip σ0)[i]? with
      | none => rw [hz] at h2; cases h2
      | some z =>
        rw [hz] at h2
        cases h2
        have q := List.getElem?_zip_eq_some.mp hz
        exact g2 z.1 z.2 q.1 q.2
end
end TL
/-! Trylocks, walk L: lambdas with parameters, handed to a def and called there. -/
namespace TL
open PySem PySem.Spec PyProof.Rows L2 Evl C8 RZ LamX NdefX
/-! ### a lambda as a tracked thing -/
/-- what a lambda is: parameters, body, names, cells -/
structure LF where
  qual : Str
  params : Arguments
  body : Expr
  scope : Scope
  cl : List (Str × Addr)
def LF.nf (F : LF) (c : Addr) : NF := ⟨"<lambda>", F.qual, F.params, [], F.scope, F.cl, c⟩
def LF.obj (F : LF) (c : Addr) (pm ctv : Value) : Obj := PySem.W.kla_obj "<lambda>" F.qual F.params F.body F.scope F.cl pm c ctv
def LamO (f : Addr) (F : LF) (c : Addr) : HO := .ext fun h => ∃ pm ctv : Value, h.get? f = some (F.obj c pm ctv)
theorem lamO_at {P : Program} {w : World} {H : Hp} {h : Heap} {f c : Addr} {F : LF} (hok : HOk P w H h) (e : H f = some (LamO f F c)) : ∃ pm ctv : Value, h.get? f = some (F.obj c pm ctv) := (hok f _ e).1
section
variable {X : Cx} {pins : List (Addr × Obj)} {σ : L2.St} {H : Hp} {s : Shared}
theorem inv_lam {F : LF} {c : Addr} {t' : Nat} {pm ctv : Value} (I : Inv X pins σ H s) : Inv X pins σ (upd H s.heap.objs.size (LamO s.heap.objs.size F c)) { s with heap := s.heap.push (F.obj c pm ctv), toks := t' } :=
  I.laid (a := s.heap.objs.size) (fun b u e => Heap.get?_push_of_some _ e) (Nat.le_refl _) (by
    have e : (s.heap.push (F.obj c pm ctv)).get? s.heap.objs.size = some (F.obj c pm ctv) := Heap.get?_push_size _ rfl
    exact ⟨⟨pm, ctv, e⟩, ⟨_, e⟩, fun h1 h2 ⟨p, t, z⟩ st => ⟨p, t, st _ z⟩⟩)
/-- the lambda is made and tracked -/
theorem lam_track {T : List (Addr × Str)} {c P : Addr} {params : Arguments} {body : Expr} {scope : Scope} {pos : Pos} {E : Value → Shared → Prop} {Q : Value → Shared → Prop} (I : Inv X pins σ H s) (TB : TabB X.base X.mg c P) (hcode : X.env.code = .ref c)
    (hm : (P, X.env.qual ++ "<lambda>") ∈ T) (hu : ∀ p ∈ T, p.1 = P → p.2 = X.env.qual ++ "<lambda>") (hT : Tabs T H) (hdef : defaultsOf params X.env = ([], [])) (hfree : ∀ y ∈ scope.names, y.2 = .free → ∃ c, X.env.cells.lookup y.1 = some c)
    (h : ∀ (f c' : Addr) (H1 : Hp) (s' : Shared), Inv X pins σ H1 s' → ExtN H H1 → Tabs T H1 → H f = none →
      H1 f = some (LamO f ⟨X.env.qual ++ "<lambda>", params, body, scope, cloFrom X.env.cells scope.names []⟩ c') → H1 c' = some (CodeO c' (X.env.qual ++ "<lambda>")) → Q (.ref f) s') :
    wpAny (model X.prog X.w) X.A (eval (.Lambda params body scope pos) X.env) Q E s := by
  obtain ⟨ps, hP, ht, ha⟩ := hT _ hm
  refine PySem.W.kla_eval hdef ?_
  have bP : s.heap.BuiltinsAt X.mg P := TB.bm.keeps I.bk
  have hP' : s.heap.get? P = some { cls := .none, data := .fields ps } := I.hok P _ hP
  cases hc : codeAmong pos ps.toList with
  | none =>
    refine PySem.W.kla_makeFunction (mg := X.mg) (c := c) (P := P) (ps := ps) (closure_ok hfree) I.ok.glob (I.mod.glob.keeps I.bk) hcode (TB.code.keeps I.bk) hP' ht hc TB.gP bP fun c' ctv h' tk hx hge hlt hrec htb => ?_
    obtain ⟨c2, oc, vs, t, e2, hoc, hd, hv⟩ := hrec
    cases e2
    have nC : H c' = none := I.hok.fresh hge
    have hsz : s.heap.objs.size ≤ h'.objs.size := Nat.le_trans hge (Nat.le_of_lt hlt)
    have I1 := inv_table (t' := tk) (more := #[rawInt pos.line, rawInt pos.col, .ref c']) (h' := h') I hP (fun b o hb e => hx b o hb e) htb hge ⟨oc, vs, t, hoc, hd, hv⟩
    have I2 := inv_lam (F := ⟨X.env.qual ++ "<lambda>", params, body, scope, cloFrom X.env.cells scope.names []⟩) (c := c') (t' := tk) (pm := (X.mg "__name__").getD .none) (ctv := ctv) I1
    have nF := I1.hok.fresh (Nat.le_refl _)
    have hE : ExtN H (upd (upd H P (.tbl (ps ++ #[rawInt pos.line, rawInt pos.col, .ref c']))) c' (CodeO c' (X.env.qual ++ "<lambda>"))) := fun b o e n => by
      rw [upd_ne (ne_of_none e nC), upd_ne (fun z => n ps (Option.some.inj (e.symm.trans (by rw [z]; exact hP))))]
      exact e
    have eL : (ps ++ #[rawInt pos.line, rawInt pos.col, .ref c']).toList = ps.toList ++ [rawInt pos.line, rawInt pos.col, .ref c'] := by simp
    have T1 : Tabs T (upd (upd H P (.tbl (ps ++ #[rawInt pos.line, rawInt pos.col, .ref c']))) c' (CodeO c' (X.env.qual ++ "<lambda>"))) := fun p hp => by
      by_cases hb : p.1 = P
      · rw [hu p hp hb, hb]
        refine ⟨_, by rw [upd_ne (ne_of_none hP nC), upd_same], by rw [eL]; exact PySem.TriplesOk_snoc _ _ _ _ ht, fun p' cv hcv => ?_⟩
        rw [eL] at hcv
        rcases among_app _ ht hcv with z | z
        · obtain ⟨c0, e1, e2⟩ := ha p' cv z
          exact ⟨c0, e1, hE _ _ e2 codeO_ne⟩
        · exact ⟨c', z, upd_same⟩
      · obtain ⟨ps', a1, a2, a3⟩ := hT p hp
        refine ⟨ps', by rw [upd_ne (ne_of_none a1 nC), upd_ne hb]; exact a1, a2, fun p' cv hcv => ?_⟩
        obtain ⟨c0, e1, e2⟩ := a3 p' cv hcv
        exact ⟨c0, e1, hE _ _ e2 codeO_ne⟩
    refine h h'.objs.size c' _ _ I2 (fun b o e n => ?_) (T1.ext fun b o e => ?_) (I.hok.fresh hsz) upd_same ?_
    · have e1 := hE b o e n
      exact (upd_ne (ne_of_none e1 nF)).trans e1
    · exact (upd_ne (ne_of_none e nF)).trans e
    · exact (upd_ne (Nat.ne_of_lt hlt)).trans upd_same
  | some cv =>
    obtain ⟨c', e, hco⟩ := ha pos cv hc
    subst e
    refine PySem.W.kla_makeFunctionHit (mg := X.mg) (c := c) (P := P) (ps := ps) (closure_ok hfree) I.ok.glob (I.mod.glob.keeps I.bk) hcode (TB.code.keeps I.bk) hP' ht hc bP fun ctv h' tk hx hsz => ?_
    have I1 : Inv X pins σ H { s with heap := h', toks := tk } := I.kept hx
    have nF : H h'.objs.size = none := I1.hok.fresh (Nat.le_refl _)
    have I2 := inv_lam (F := ⟨X.env.qual ++ "<lambda>", params, body, scope, cloFrom X.env.cells scope.names []⟩) (c := c') (t' := tk) (pm := (X.mg "__name__").getD .none) (ctv := ctv) I1
    refine h h'.objs.size c' _ _ I2 (fun b o e n => ?_) (hT.ext fun b o e => ?_) nF upd_same ?_
    · exact (upd_ne (ne_of_none e nF)).trans e
    · exact (upd_ne (ne_of_none e nF)).trans e
    · exact (upd_ne (ne_of_none hco nF)).trans hco
end
/-- the reading of a lambda: a new thing, its code known -/
def tLamE (T : List (Addr × Str)) (F : LF) : TE := fun _ H Q => Tabs T H ∧ ∀ (f c' : Addr) (H1 : Hp), ExtN H H1 → Tabs T H1 → H f = none → H1 f = some (LamO f F c') → H1 c' = some (CodeO c' F.qual) → Q (.ref f) H1
theorem pe_lambda {X : Cx} {T : List (Addr × Str)} {c P : Addr} {params : Arguments} {body : Expr} {scope : Scope} {pos : Pos} (TB : TabB X.base X.mg c P) (hcode : X.env.code = .ref c) (hm : (P, X.env.qual ++ "<lambda>") ∈ T) (hu : ∀ p ∈ T, p.1 = P → p.2 = X.env.qual ++ "<lambda>")
    (hdef : defaultsOf params X.env = ([], [])) (hfree : ∀ y ∈ scope.names, y.2 = .free → X.env.scope.names.lookup y.1 = some .cell ∨ X.env.scope.names.lookup y.1 = some .free) :
    PE X (.Lambda params body scope pos) (tLamE T ⟨X.env.qual ++ "<lambda>", params, body, scope, cloFrom X.env.cells scope.names []⟩) :=
  ⟨fun pins s σ H Q I ⟨hT, h⟩ => lam_track I TB hcode hm hu hT hdef (fun y hy e => (hfree y hy e).elim (fun z => I.ok.has _ (.inl z)) fun z => I.ok.has _ (.inr z)) fun f c' H1 s' I1 eN T1 f0 f1 c1 => ⟨.ref f, H1, I1, rfl, h f c' H1 eN T1 f0 f1 c1⟩⟩
/-! ### a lambda is called -/
section
variable {P : Program} {w : World} {K : PySem.W.Frag} {mg : Str → Option Value} {base : Heap}
theorem lam_run {N ps fr : List Str} {F : LF} {f c : Addr} {k : Nat} {A : Around} {outer : List Env} {s : Shared} {H : Hp} {us : List Value} {vs : List V} {ws : List (Option V)} {Q : VK} (S : NScope N ps fr F.scope)
    (hb : ∀ (pm ctv : Value) (us : List Value), us.length = ps.length → bindArgs (PySem.W.kla_fn "<lambda>" F.qual F.params F.body F.scope F.cl pm (.ref c) ctv) ⟨us, []⟩ = pure (ps.zip us))
    (hr : Room (k + 1) A) (e0 : Env0 P w K mg base A outer s H) (ho : ∃ pm ctv : Value, s.heap.get? f = some (F.obj c pm ctv)) (hcr : s.heap.CodeRec (.ref c) F.qual) (C : CellsAt F.cl fr ws s.heap H) (r : Vals vs us) (hl : vs.length = ps.length)
    (hbody : Room k (A.deeper (envF (F.nf c) f s.heap.objs.size)) → ∃ t, PE (ncx C8.CX0 P w K mg base N (F.nf c) f A outer s H C8.E0) F.body t ∧ t (startF N vs ws) H Q) :
    codeAny (model P w) A (.call (.ref f) ⟨us, []⟩) (CR C8.CX0 outer P w H s Q C8.E0) s := by
  obtain ⟨pm, ctv, ho⟩ := ho
  have lim : s.heap.NoLimit := e0.mod.nolimit.keeps fun b o e => (e0.bs b o e).1
  refine PySem.W.kla_callFunE hr.depth ho rfl S.co S.gen rfl hcr ?_
  rw [hb pm ctv us (by rw [← r.length]; exact hl)]
  refine wpAny_pure (wpAny_newFunctionEnv S.nocell (fun ⟨n, _⟩ hy => S.par n (List.of_mem_zip hy).1) (fun h₁ hns hsb => ⟨lim.fresh _ hsb, ?_⟩) S.kind)
  show codeAny _ _ (.expr F.body (envF (F.nf c) f s.heap.objs.size)) _ _
  have kp : ∀ b o, s.heap.get? b = some o → h₁.get? b = some o := fun b o e => hsb.extBut b o (Nat.ne_of_lt (Heap.lt_size e)) (Heap.get?_push_of_some _ e)
  obtain ⟨t, ht, hq⟩ := hbody (hr.deeper _)
  have I : Inv (ncx C8.CX0 P w K mg base N (F.nf c) f A outer s H C8.E0) [] (startF N vs ws) H { s with heap := h₁, toks := s.toks + (ps.zip us).length } := inv_startN S hr.hd e0 hl r C hns kp
  refine PySem.W.kla_codeExpr (wpAny_mono (ht.run [] _ _ H Q I hq) (fun v s' hq => ?_) fun e s' hq => hq)
  obtain ⟨w', H', J, rv, q⟩ := hq
  exact ⟨w', H', J.os, J.bare, J.base, J.hok, rv, q⟩
/-! ### things that may be called from here on -/
/-- from (s, H), running over the frames outer, on: f may be called and keeps sp -/
def CallIn (P : Program) (w : World) (K : PySem.W.Frag) (mg : Str → Option Value) (base : Heap) (outer : List Env) (k : Nat) (s : Shared) (H : Hp) (f : Addr) (sp : Sp) : Prop :=
  ∀ (s' : Shared) (H' : Hp), Un (frs outer) [] H H' s.heap s'.heap → Ex H H' → K.In s'.heap → HOk P w H' s'.heap → PySem.W.FnAt f s'.heap ∧
    ∀ (A : Around) (out : List Env) (us : List Value) (vs : List V) (Q : VK), Room k A → Env0 P w K mg base A out s' H' → Vals vs us → sp vs H' Q C8.E0 → codeAny (model P w) A (.call (.ref f) ⟨us, []⟩) (CR C8.CX0 out P w H' s' Q C8.E0) s'
theorem callIn_fn {x : Str} {sp : Sp} {k : Nat} (c : Cal P w K mg base k x sp []) {f : Addr} (hf : mg x = some (.ref f)) {outer : List Env} {s : Shared} {H : Hp} (hfn : ∀ h : Heap, K.In h → PySem.W.FnAt f h) : CallIn P w K mg base outer k s H f sp := fun s' H' un ex kin hok => by
  obtain ⟨f', fd, ps, ds, F, hm, kp, b, d⟩ := c.ex
  rw [hf] at hm
  cases hm
  refine ⟨hfn _ kin, fun A out us vs Q hr e0 r h => ?_⟩
  cases d
  have hl : us.length = ps.length := by rw [← r.length]; exact F.len _ _ _ _ h
  have b' := b s' us kin (by rw [List.append_nil]; exact hl)
  rw [List.append_nil] at b'
  exact F.run A out s' H' ⟨us, []⟩ us vs Q C8.E0 hr e0 b' r h
theorem callIn_lam {N ps fr : List Str} {F : LF} {f c : Addr} {k : Nat} {ws : List (Option V)} {outer : List Env} {s : Shared} {H : Hp} {sp : Sp} (S : NScope N ps fr F.scope)
    (hb : ∀ (pm ctv : Value) (us : List Value), us.length = ps.length → bindArgs (PySem.W.kla_fn "<lambda>" F.qual F.params F.body F.scope F.cl pm (.ref c) ctv) ⟨us, []⟩ = pure (ps.zip us))
    (hf : H f = some (LamO f F c)) (hc : H c = some (CodeO c F.qual)) (C : CellsAt F.cl fr ws s.heap H) (hcf : ∀ y a, F.cl.lookup y = some a → a ∉ frs outer) (len : ∀ vs H Q E, sp vs H Q E → vs.length = ps.length)
    (hbody : ∀ (A : Around) (out : List Env) (s' : Shared) (H' : Hp) (vs : List V) (Q : VK), Room k (A.deeper (envF (F.nf c) f s'.heap.objs.size)) → Ex H H' → sp vs H' Q C8.E0 → ∃ t, PE (ncx C8.CX0 P w K mg base N (F.nf c) f A out s' H' C8.E0) F.body t ∧ t (startF N vs ws) H' Q) :
    CallIn P w K mg base outer (k + 1) s H f sp := fun s' H' un ex kin hok => by
  have ho := lamO_at hok (ex _ _ hf)
  refine ⟨?_, fun A out us vs Q hr e0 r h => ?_⟩
  · obtain ⟨pm, ctv, ho⟩ := ho
    exact ⟨_, _, _, _, ho⟩
  · have hcr : s'.heap.CodeRec (.ref c) F.qual := codeO_at hok (ex _ _ hc)
    have kp : ∀ y a, F.cl.lookup y = some a → ∀ v, s.heap.IsCell a v → s'.heap.IsCell a v := fun y a e v ⟨o, ho, hd⟩ => ⟨o, un.keep a o ho (C.all y a e).1 (hcf y a e) (by simp), hd⟩
    have C' : CellsAt F.cl fr ws s'.heap H' := ⟨C.len, fun y a e => by
      obtain ⟨n, v, z⟩ := C.all y a e
      refine ⟨?_, v, kp y a e v z⟩
      obtain ⟨o, ho, _⟩ := z
      exact un.free a o ho n (by simp), C.inj, fun i y e => by
      obtain ⟨a, ha, hv⟩ := C.has i y e
      exact ⟨a, ha, fun v ev => let ⟨u, r, z⟩ := hv v ev; ⟨u, r, kp y a ha _ z⟩⟩⟩
    exact lam_run S hb hr e0 ho hcr C' r (len _ _ _ _ h) fun hr' => hbody A out s' H' vs Q hr' ex h
end
end TL
/-! Trylocks, walk N: changed. -/
namespace TL
open PySem PySem.Spec PyProof.Rows L2 Evl C8 RZ LamX NdefX
section
variable {P : Program} {w : World} {K : PySem.W.Frag} {mg : Str → Option Value} {base : Heap}
/-- f(..), f a local that holds a thing that may be called from the entry on -/
def tCallIn (H0 : Hp) (i : Nat) (f : Addr) (sp : Sp) (t : TA) : TE := fun σ H Q => σ[i]? = some (some (.ref f)) ∧ Ex H0 H ∧ t σ H fun vs H1 => Ex H0 H1 ∧ sp vs H1 Q C8.E0
theorem pe_callIn {X : Cx} {k i : Nat} {f : Addr} {sp : Sp} {x : Str} {p pos : Pos} {e : Expr} {es : List Expr} {t : TA} (ci : CallIn X.prog X.w X.K X.mg X.base X.outer k X.s_0 X.H_0 f sp) (hex : X.ex = []) (hr : Room k X.A) (hN : X.N[i]? = some x) (hv : Vis X.env.scope x) (ha : PA X (e :: es) t)
    (hdb : (x == ("__debug__" : Str)) = false := by decide) (hcd : (x == ("__classdict__" : Str)) = false := by decide)
    (he : starEach (e :: es) X.env = (false, eval e X.env) :: starEach es X.env := by rfl) (hpl : (backTo pos (starEach es X.env)).any (·.1) = false := by rfl) : PE X (.Call (.Name x p) (e :: es) [] pos) (tCallIn X.H_0 i f sp t) := by
  refine ⟨fun pins s σ H Q I ⟨hs, hex0, ht⟩ => ?_⟩
  refine wpAny_Call_Name_kw (thn ((pe_var (pos := p) hN hv hdb hcd).run pins s σ H (fun v H1 => v = .ref f ∧ H1 = H) I ⟨.ref f, hs, rfl, rfl⟩) fun u s1 ⟨v, H1, I1, r1, ev, eH⟩ => ?_)
  subst ev
  subst eH
  obtain rfl : u = Value.ref f := r1
  have un : ∀ {H2 : Hp} {s2 : Shared}, Inv X pins σ H2 s2 → Un (frs X.outer) [] X.H_0 H2 X.s_0.heap s2.heap := fun J => by
    have b := J.base
    rw [hex] at b
    exact b
  refine PySem.W.callWith_F (first := []) (ci _ _ (un I1) hex0 I1.kIn I1.hok).1 (thn (ha.run pos pins s1 σ _ _ I1 ht) fun us s2 ⟨vs, H2, I2, r, hex2, q⟩ => ?_) he hpl
  obtain ⟨h1, h2⟩ := ci _ _ (un I2) hex2 I2.kIn I2.hok
  refine ⟨h1, ?_⟩
  refine wpAny_call (codeAny_mono (h2 X.A X.stack us vs Q hr I2.env0 r q) fun r s' hq => ?_)
  cases r with
  | error e => exact (show False from hq).elim
  | ok fl =>
    cases fl with
    | ret u => exact I2.after hq
    | next => exact False.elim hq
    | brk => exact False.elim hq
    | cont => exact False.elim hq
/-- xs.append(e), e known by a word -/
theorem s_appR {σ : L2.St} {H : Hp} {ta te : TE} {R : V → Hp → Prop} {D : Ends} {l : Addr} {xs : List V} (hl : H l = some (.lst xs)) (ha : Ev ta σ H (.ref l)) (h : Er te σ H R) (hz : xs.length < 100000) (k : ∀ v H1, Ex H H1 → R v H1 → D.nx σ (upd H1 l (.lst (xs ++ [v])))) :
    tDrop (tBM K "list" rAppend ta (tCons te tNil)) D σ H := ha H (Ex.refl H) _ fun H1 e1 =>
  ⟨Or.inl ⟨rfl, xs, sq_of (e1 l _ hl)⟩, h H1 e1 _ fun v H2 e2 r => ⟨l, xs, v, rfl, rfl, e2 l _ (e1 l _ hl), Nat.lt_of_lt_of_le hz (by decide), k v H2 (e1.trans e2) r⟩⟩
def spTouch (K : PySem.W.Frag) (g : TL.Rule → TL.Key → Bool) : Sp := fun vs H Q _ => ∃ (vr vk : V) (r : TL.Rule) (kk : TL.Key), vs = [vr, vk] ∧ RuleAt K r vr H ∧ KeyAt K kk vk H ∧ RetV (.bl (g r kk)) H Q
theorem ev_touch {H0 : Hp} {σ : L2.St} {H : Hp} {i : Nat} {f : Addr} {g : TL.Rule → TL.Key → Bool} {t1 t2 : TE} {vr vk : V} {r : TL.Rule} {kk : TL.Key} (hi : σ[i]? = some (some (.ref f))) (h0 : Ex H0 H) (h1 : Ev t1 σ H vr) (h2 : Ev t2 σ H vk) (hR : RuleAt K r vr H) (hK : KeyAt K kk vk H) :
    Ev (tCallIn H0 i f (spTouch K g) (tCons t1 (tCons t2 tNil))) σ H (.bl (g r kk)) := fun H1 e Q q => ⟨hi, h0.trans e, (ea_cons h1 (ea_cons h2 ea_nil)) H1 e _ fun H2 e2 => ⟨(h0.trans e).trans e2, vr, vk, r, kk, rfl, ruleAt_st _ _ _ (e.trans e2) hR, keyAt_st _ _ _ (e.trans e2) hK, fun H3 e3 => q H3 (e2.trans e3)⟩⟩
theorem er_chg {H0 : Hp} {σ : L2.St} {H : Hp} {i : Nat} {f : Addr} {g : TL.Rule → Part → Part} {ok : TL.Rule → Part → Prop} {t1 t2 : TE} {vr vp : V} {r : TL.Rule} {x : Part} (hi : σ[i]? = some (some (.ref f))) (h0 : Ex H0 H) (h1 : Ev t1 σ H vr) (h2 : Ev t2 σ H vp) (hR : RuleAt K r vr H) (hP : PartAt K x vp H) (hk : ok r x) :
    Er (tCallIn H0 i f (spChg K g ok) (tCons t1 (tCons t2 tNil))) σ H (PartAt K (g r x)) := fun H1 e Q q => ⟨hi, h0.trans e, (ea_cons h1 (ea_cons h2 ea_nil)) H1 e _ fun H2 e2 => ⟨(h0.trans e).trans e2, vr, vp, r, x, rfl, ruleAt_st _ _ _ (e.trans e2) hR, partAt_st _ _ _ (e.trans e2) hP, hk, fun v H3 e3 r3 => q v H3 (e2.trans e3) r3⟩⟩
/-! ### changed -/
def nChanged : List Str := ["book", "standing", "is_touched", "change", "found", "rule", "parts", "row", "key", "part"]
theorem sc_changed : FnScope nChanged ["book", "standing", "is_touched", "change"] (fnScope (top 29)) := fnScope_by (by decide +kernel)
/-- one rule's parts behind the change -/
def chRow (b : TL.Book) (touched : TL.Rule → TL.Key → Bool) (change : TL.Rule → Part → Part) (q : TL.Rule × List Part) : List Part := ((keysOf b q.1).zip q.2).map fun z => if touched q.1 z.1 then change q.1 z.2 else passed q.1 z.2 1
theorem changed_eq (b : TL.Book) (σ : Stand) (touched : TL.Rule → TL.Key → Bool) (change : TL.Rule → Part → Part) : changed b σ touched change = (b.rules.zip σ).map (chRow b touched change) := rfl
theorem none_of_ex {H H' : Hp} {a : Addr} (e : Ex H H') (h : H' a = none) : H a = none := by
  cases q : H a with
  | none => rfl
  | some o => rw [e a o q] at h; cases h
/-- rows built so far -/
def RowsAt (K : PySem.W.Frag) (b : TL.Book) (σ0 : Stand) (touched : TL.Rule → TL.Key → Bool) (change : TL.Rule → Part → Part) (l : Addr) (i : Nat) (H : Hp) : Prop := ∃ ws, H l = some (.lst ws) ∧ Paired (fun v ps => PartsAt K ps v H) ws (((b.rules.zip σ0).take i).map (chRow b touched change))
def RowAt (K : PySem.W.Frag) (b : TL.Book) (touched : TL.Rule → TL.Key → Bool) (change : TL.Rule → Part → Part) (q : TL.Rule × List Part) (l : Addr) (j : Nat) (H : Hp) : Prop := ∃ ws, H l = some (.lst ws) ∧ Paired (fun v x => PartAt K x v H) ws ((((keysOf b q.1).zip q.2).take j).map fun z => if touched q.1 z.1 then change q.1 z.2 else passed q.1 z.2 1)
theorem rowsAt_ex {b : TL.Book} {σ0 : Stand} {touched : TL.Rule → TL.Key → Bool} {change : TL.Rule → Part → Part} {l : Addr} {i : Nat} {H H' : Hp} (e : Ex H H') (h : RowsAt K b σ0 touched change l i H) : RowsAt K b σ0 touched change l i H' := let ⟨ws, a, p⟩ := h; ⟨ws, e _ _ a, Paired.mapP p fun v x q => partsAt_st v _ _ e q⟩
theorem rowAt_ex {b : TL.Book} {touched : TL.Rule → TL.Key → Bool} {change : TL.Rule → Part → Part} {q : TL.Rule × List Part} {l : Addr} {i : Nat} {H H' : Hp} (e : Ex H H') (h : RowAt K b touched change q l i H) : RowAt K b touched change q l i H' := let ⟨ws, a, p⟩ := h; ⟨ws, e _ _ a, Paired.mapP p fun v x q => partAt_st v _ _ e q⟩
theorem rowsAt_upd {b : TL.Book} {σ0 : Stand} {touched : TL.Rule → TL.Key → Bool} {change : TL.Rule → Part → Part} {l rl : Addr} {i : Nat} {H : Hp} {xs ys : List V} (n : l ≠ rl) (h : RowsAt K b σ0 touched change l i H) (hr : H rl = some (.lst xs)) : RowsAt K b σ0 touched change l i (upd H rl (.lst ys)) := let ⟨ws, a, p⟩ := h; ⟨ws, by rw [upd_ne n]; exact a, Paired.mapP p fun v x q => partsAt_T v _ _ (ExT.lst hr) q⟩
theorem er_tupVar {σ : L2.St} {H : Hp} {te : TE} {p : Addr} {ys : List V} (h : Ev te σ H (.ref p)) (hl : SqL K H p ys) : Er (tCB (rTupOf K) (tCons te tNil)) σ H (fun v H2 => ∃ a, v = .ref a ∧ SqT K H2 a ys) := fun H1 e Q q => h H1 e _ fun H2 e2 => ⟨p, ys, rfl, Or.inl ⟨ex_l (e.trans e2) hl, fun l hl => q _ _ (e2.trans (Ex.new hl)) ⟨l, rfl, st_of upd_same⟩⟩⟩
theorem run_changed (T : Tx K mg) {A : Around} {outer : List Env} {s : Shared} {H : Hp} {us : List Value} {Q : VK} {v v0 : V} {fch f1 f2 : Addr} {b : TL.Book} {σ0 : Stand} {touched : TL.Rule → TL.Key → Bool} {change : TL.Rule → Part → Part} {okc : TL.Rule → Part → Prop} (hm : mg "changed" = some (.ref fch))
    (hr : Room 4 A) (e0 : Env0 P w K mg base A outer s H) (r : Vals [v, v0, .ref f1, .ref f2] us) (hBB : BookAt K b v H) (hSS : StandAt K σ0 v0 H) (hok2 : BookOk2 b) (hfit : Fits b σ0)
    (c1 : CallIn P w K mg base outer 2 s H f1 (spTouch K touched)) (c2 : CallIn P w K mg base outer 2 s H f2 (spChg K change okc)) (hc : ∀ (i : Nat) (r : TL.Rule) (ps : List Part) (x : Part), b.rules[i]? = some r → σ0[i]? = some ps → x ∈ ps → okc r x)
    (k : RetR (StandAt K (changed b σ0 touched change)) H Q) : codeAny (model P w) A (.call (.ref fch) ⟨us, []⟩) (CR C8.CX0 outer P w H s Q C8.E0) s := by
  obtain ⟨f', fd, F, hbd⟩ := T.changed.ex
  have e := hm.symm.trans F.mgf
  cases e
  obtain ⟨oc, od, dV, kV, doc, pm, an, cdv, ct, osl, rfl, lk, hcd⟩ := F.fn.ex
  have hlu : us.length = 4 := r.length.symm
  have kin : K.In s.heap := e0.mod.kin.keeps fun b o e => (e0.bs b o e).1
  have hb' := hbd s us kin (by rw [List.append_nil]; exact hlu)
  rw [List.append_nil] at hb'
  have cK := c_keys (P := P) (w := w) (base := base) T
  have cP := c_passed (P := P) (w := w) (base := base) T
  refine run_ofS (N := nChanged) (ps := ["book", "standing", "is_touched", "change"]) lk hcd sc_changed hr e0 hb' r rfl fun hr' => ?_
  obtain ⟨pb, dx, ra, rfl, hB, rs, hR, hRs⟩ := id hBB
  obtain ⟨as, ss, rfl, hS, hSs⟩ := id hSS
  obtain ⟨hok, hru⟩ := hok2
  have nd := sc_changed.nd
  refine ⟨_, PSs.nox (pss_cons (ps_set (i := 4) nd rfl (.inl rfl) (pe_lst pa_nil))
      (pss_cons (ps_for PassesOwn.never rfl (pi_zipA rfl (T.fr "zip") (pa_cons (pe_fld (pv 0) rfl) (pa_cons (pv 1) pa_nil))) (pg_tup (n := 2) rfl (pgs_cons (pg_name (i := 5) nd rfl (.inl rfl)) (pgs_cons (pg_name (i := 6) nd rfl (.inl rfl)) pgs_nil)))
        (pss_cons (ps_set (i := 7) nd rfl (.inl rfl) (pe_lst pa_nil))
        (pss_cons (ps_for PassesOwn.never rfl (pi_zipLT rfl (T.fr "zip") (pa_cons (pe_c cK hr' (by decide) rfl (pa_cons (pv 0) (pa_cons (pv 5) pa_nil))) (pa_cons (pv 6) pa_nil))) (pg_tup (n := 2) rfl (pgs_cons (pg_name (i := 8) nd rfl (.inl rfl)) (pgs_cons (pg_name (i := 9) nd rfl (.inl rfl)) pgs_nil)))
          (pss_one (ps_expr (pe_bm PySem.F.plainAttrs_list PySem.F.slot_list_append PySem.F.type_list_append mt_append (pv 7) (pa_cons (pe_ifExp (pt_val (pe_callIn (i := 2) (f := f1) (sp := spTouch K touched) c1 rfl (hr'.mono (by decide)) rfl (Or.inl rfl) (pa_cons (pv 5) (pa_cons (pv 8) pa_nil))))
            (pe_callIn (i := 3) (f := f2) (sp := spChg K change okc) c2 rfl (hr'.mono (by decide)) rfl (Or.inl rfl) (pa_cons (pv 5) (pa_cons (pv 9) pa_nil)))
            (pe_c cP hr' (by decide) rfl (pa_cons (pv 5) (pa_cons (pv 9) (pa_cons pe_int pa_nil))))) pa_nil)))))
        (pss_one (ps_expr (pe_bm PySem.F.plainAttrs_list PySem.F.slot_list_append PySem.F.type_list_append mt_append (pv 4) (pa_cons (pe_callTy (r := rTupOf K) call_tuple_of rfl (T.fr "tuple") boot_tuple (pa_cons (pv 7) pa_nil)) pa_nil)))))))
      (pss_one (ps_ret (pe_callTy (r := rTupOf K) call_tuple_of rfl (T.fr "tuple") boot_tuple (pa_cons (pv 4) pa_nil)))))), ?_⟩
  have hs : L2.start nChanged [.ref pb, .ref as, .ref f1, .ref f2] = [some (.ref pb), some (.ref as), some (.ref f1), some (.ref f2), none, none, none, none, none, none] := rfl
  rw [hs]
  refine q_asgL (el_lst ea_nil (by decide)) fun l H1 hl e1 hl1 => ?_
  show tSeq _ _ _ [some (.ref pb), some (.ref as), some (.ref f1), some (.ref f2), some (.ref l), none, none, none, none, none] H1
  have hlen : rs.length = ss.length := by rw [Paired.length hRs, Paired.length hSs]; exact hfit.1.symm
  have hrl : rs.length ≤ 3 := by rw [Paired.length hRs]; exact hok.2.2
  refine s_forZT (K := K) (a := ra) (b := as) (xs := rs) (ys := ss) (ea_cons (ev_fld (ev_var rfl) (e1 _ _ hB) T.clsB T.naR (bk_rules _ _)) (ea_cons (ev_var rfl) ea_nil)) (ex_t e1 hR) (ex_t e1 hS) hlen
    (fun i σ' H' => ∃ u1 u2 u3 u4 u5, σ' = [some (.ref pb), some (.ref as), some (.ref f1), some (.ref f2), some (.ref l), u1, u2, u3, u4, u5] ∧ Ex H H' ∧ RowsAt K b σ0 touched change l i H')
    (fun H2 e2 => ⟨_, _, _, _, _, rfl, e1.trans e2, [], e2 _ _ hl1, by rw [List.take_zero]; exact Paired.nil⟩) (fun i σ' H' ⟨_, _, _, _, _, _, e, _⟩ => ⟨ex_t e hR, ex_t e hS⟩) ?_ ?_
  · rintro i x y σ' H' t hi hx hy ⟨u1, u2, u3, u4, u5, rfl, e2, hf⟩ hT
    obtain ⟨r, hr1, hr2⟩ := paired_get hRs hx
    obtain ⟨ps, hp1, hp2⟩ := paired_get hSs hy
    have hrk : RuleOk r := hru r (List.mem_of_getElem? hr1)
    have e3 : Ex H (upd H' t (.tup [x, y])) := e2.trans (Ex.new hT)
    have hf3 : RowsAt K b σ0 touched change l i (upd H' t (.tup [x, y])) := rowsAt_ex (Ex.new hT) hf
    obtain ⟨ap, pvs, rfl, hP, hPs⟩ := partsAt_st _ _ _ e3 hp2
    have hlz : (keysOf b r).length = pvs.length := by rw [Paired.length hPs]; exact (hfit.2 i r ps hr1 hp1).symm
    generalize hH3 : upd H' t (.tup [x, .ref ap]) = H3 at e3 hf3 hP hPs
    show tSeq _ _ _ [some (.ref pb), some (.ref as), some (.ref f1), some (.ref f2), some (.ref l), some x, some (.ref ap), u3, u4, u5] H3
    refine q_asgL (el_lst ea_nil (by decide)) fun rl H4 hrl0 e4 hrl1 => ?_
    have e34 : Ex H H4 := e3.trans e4
    have hrlH : H rl = none := none_of_ex e3 hrl0
    have hlrl : l ≠ rl := by
      obtain ⟨ws, hw, _⟩ := hf3
      exact ne_of_none hw hrl0
    have hf4 := rowsAt_ex e4 hf3
    replace hP := ex_t e4 hP
    replace hPs := Paired.mapP hPs fun v x q => partAt_st v _ _ e4 q
    show tSeq _ _ _ [some (.ref pb), some (.ref as), some (.ref f1), some (.ref f2), some (.ref l), some x, some (.ref ap), some (.ref rl), u4, u5] H4
    refine s_forZLT (K := K) (b := ap) (ys := pvs) (S := KeysAt K (keysOf b r)) (eraL_cons (erl_keys (b := b) (r := r) (ev_var rfl) (ev_var rfl) (bookAt_st _ _ _ e34 hBB) (ruleAt_st _ _ _ e34 hr2) hok hrk.1) (ev_var rfl) (fun _ _ _ e h => keysAt_T (exT e) h)) hP (fun ws H4 h => (Paired.length h).trans hlz)
      (fun kp ws j σ' H' => ∃ u4 u5, σ' = [some (.ref pb), some (.ref as), some (.ref f1), some (.ref f2), some (.ref l), some x, some (.ref ap), some (.ref rl), u4, u5] ∧ Ex H H' ∧ H' kp = some (.lst ws) ∧ kp ≠ rl ∧ SqT K H' ap pvs ∧ KeysAt K (keysOf b r) ws H' ∧ Paired (fun v x => PartAt K x v H') pvs ps ∧ RowsAt K b σ0 touched change l i H' ∧ RowAt K b touched change (r, ps) rl j H')
      (fun kp ws H5 hk e5 hw hws => ?_) (fun kp ws j σ' H' ⟨_, _, _, _, h1, _, h2, _⟩ => ⟨h1, h2⟩) ?_ ?_
    · exact ⟨_, _, rfl, e34.trans e5, hw, (ne_of_none hrl1 hk).symm, ex_t e5 hP, hws, Paired.mapP hPs fun v x q => partAt_st v _ _ e5 q, rowsAt_ex e5 hf4, [], e5 _ _ hrl1, by rw [List.take_zero]; exact Paired.nil⟩
    · rintro kp ws j kx px σ' H' t2 hj hkx hpx ⟨u4, u5, rfl, e5, hkp, hne, hP5, hK5, hPs5, hf5, hg5⟩ hT2
      obtain ⟨kk, hk1, hk2⟩ := paired_get hK5 hkx
      obtain ⟨pp, hq1, hq2⟩ := paired_get hPs5 hpx
      have eN : Ex H' (upd H' t2 (.tup [kx, px])) := Ex.new hT2
      obtain ⟨ns, hn1, hn2⟩ := rowAt_ex eN hg5
      have hf6 := rowsAt_ex eN hf5
      have hq3 := partAt_st _ _ _ eN hq2
      have hk3 := keyAt_st _ _ _ eN hk2
      have hr3 := ruleAt_st _ _ _ (e5.trans eN) hr2
      have hzip : ((keysOf b r).zip ps)[j]? = some (kk, pp) := zip_get hk1 hq1
      have stay : ∀ {H7 : Hp}, ExT (upd H' t2 (.tup [kx, px])) H7 → SqT K H7 ap pvs ∧ KeysAt K (keysOf b r) ws H7 ∧ Paired (fun v x => PartAt K x v H7) pvs ps := fun e7 =>
        ⟨e7.sq (ex_t eN hP5), keysAt_T ((exT eN).trans e7) hK5, Paired.mapP hPs5 fun v x q => partAt_T v _ _ ((exT eN).trans e7) q⟩
      have eh6 : Ex H (upd H' t2 (.tup [kx, px])) := e5.trans eN
      have hkp6 := eN _ _ hkp
      generalize hH6 : upd H' t2 (.tup [kx, px]) = H6 at eN hf6 hq3 hk3 stay hn1 hn2 hr3 eh6 hkp6
      show tDrop _ _ [some (.ref pb), some (.ref as), some (.ref f1), some (.ref f2), some (.ref l), some x, some (.ref ap), some (.ref rl), some kx, some px] H6
      have hnl : ns.length = j := by
        rw [Paired.length hn2, List.length_map, List.length_take, List.length_zip, ← Paired.length hPs, hlz]
        omega
      have hkl := keys_len hok r
      refine s_appR (K := K) (R := PartAt K (if touched r kk then change r pp else passed r pp 1)) hn1 (ev_var rfl) (er_if (b := touched r kk) (et_B (ev_touch (r := r) (kk := kk) rfl eh6 (ev_var rfl) (ev_var rfl) hr3 hk3)) (fun z => ?_) (fun z => ?_)) (by omega) ?_
      · rw [if_pos z]
        exact er_chg rfl eh6 (ev_var rfl) (ev_var rfl) hr3 hq3 (hc i r ps pp hr1 hp1 (List.mem_of_getElem? hq1))
      · rw [if_neg (by rw [z]; exact Bool.false_ne_true)]
        exact er_passed (r := r) (ev_var rfl) (er_part (ev_var rfl) hq3) ev_c hr3
      · intro v H7 e7 hv
        have hrl7 := e7 _ _ hn1
        have eT7 : ExT H7 (upd H7 rl (.lst (ns ++ [v]))) := ExT.lst hrl7
        obtain ⟨s1, s2, s3⟩ := stay ((exT e7).trans eT7)
        refine ⟨_, _, rfl, Ex.mut (eh6.trans e7) hrlH, ?_, hne, s1, s2, s3, rowsAt_upd hlrl (rowsAt_ex e7 hf6) hrl7, ns ++ [v], upd_same, ?_⟩
        · rw [upd_ne hne]
          exact e7 _ _ hkp6
        · rw [take_next hzip, List.map_append]
          exact Paired.snoc (Paired.mapP hn2 fun v x q => partAt_T v _ _ ((exT e7).trans eT7) q) (partAt_T _ _ _ eT7 hv)
    · rintro kp ws σ' H' ⟨u4, u5, rfl, e5, _, _, _, _, _, ⟨ws', hw1, hw2⟩, ns, hn1, hn2⟩
      have hzip : (b.rules.zip σ0)[i]? = some (r, ps) := zip_get hr1 hp1
      have hil : ws'.length ≤ i := by
        rw [Paired.length hw2, List.length_map, List.length_take]
        omega
      have hin : i < rs.length := (List.getElem?_eq_some_iff.mp hx).1
      refine s_appR (K := K) (R := PartsAt K (chRow b touched change (r, ps))) hw1 (ev_var rfl) (Er.imp (er_tupVar (K := K) (ev_var rfl) (sq_of hn1)) fun v H7 e7 ⟨a, ea, hs⟩ => ⟨a, ns, ea, hs, ?_⟩) (by omega) ?_
      · have q := Paired.mapP hn2 fun v x q => partAt_st v _ _ e7 q
        rw [List.take_of_length_le (by show ((keysOf b r).zip ps).length ≤ _; rw [List.length_zip, hlz]; exact Nat.min_le_left _ _)] at q
        exact q
      · intro v H7 e7 hv
        have hl7 := e7 _ _ hw1
        have eT7 : ExT H7 (upd H7 l (.lst (ws' ++ [v]))) := ExT.lst hl7
        refine ⟨_, _, _, _, _, rfl, Ex.mut (e5.trans e7) hl, ws' ++ [v], upd_same, ?_⟩
        rw [take_next hzip, List.map_append]
        exact Paired.snoc (Paired.mapP hw2 fun v x q => partsAt_T v _ _ ((exT e7).trans eT7) q) (partsAt_T _ _ _ eT7 hv)
  · rintro σ' H' ⟨u1, u2, u3, u4, u5, rfl, e2, ws, hw1, hw2⟩
    refine sr_ret (er_tupVar (K := K) (ev_var rfl) (sq_of hw1)) fun v H3 e3 ⟨a, ea, hs⟩ => k v H3 (e2.trans e3) ⟨a, ws, ea, hs, ?_⟩
    rw [List.take_of_length_le (by rw [List.length_zip, ← Paired.length hRs]; omega)] at hw2
    rw [changed_eq]
    exact Paired.mapP hw2 fun v x q => partsAt_st v _ _ e3 q
end
end TL
/-! Trylocks, walk P: step. -/
namespace TL
open PySem PySem.Spec PyProof.Rows L2 Evl C8 RZ LamX NdefX
/-! ### pieces of text -/
def ifBody : Stmt → List Stmt
  | .If _ b _ _ => b
  | _ => []
def tupN (i : Nat) : Expr → Expr
  | .Tuple es _ _ => es.getD i (.Name "" ⟨0, 0, 0, 0⟩)
  | e => e
def argN (i : Nat) : Expr → Expr
  | .Call _ es _ _ => es.getD i (.Name "" ⟨0, 0, 0, 0⟩)
  | e => e
def laPs : Expr → Arguments
  | .Lambda a _ _ _ => a
  | _ => fnArgs (top 30)
def laBd : Expr → Expr
  | .Lambda _ b _ _ => b
  | e => e
def laSc : Expr → Scope
  | .Lambda _ _ s _ => s
  | _ => fnScope (top 30)
/-- the three lambdas of step -/
abbrev eOpen : Expr := argN 2 (tupN 1 (exOf ((ifBody (bodyAt (top 30) 1)).getD 0 (top 0))))
abbrev eNew : Expr := argN 3 (tupN 1 (exOf ((ifBody (bodyAt (top 30) 1)).getD 0 (top 0))))
abbrev eTry : Expr := argN 2 (tupN 1 (exOf (bodyAt (top 30) 4)))
def LF.of (q : Str) (cells : List (Str × Addr)) (e : Expr) : LF := ⟨q ++ "<lambda>", laPs e, laBd e, laSc e, cloFrom cells (laSc e).names []⟩
theorem scOpen : NScope ["rule", "key", "action"] ["rule", "key"] ["action"] (laSc eOpen) := nscope_by (by decide +kernel)
theorem scNew : NScope ["rule", "part"] ["rule", "part"] [] (laSc eNew) := nscope_by (by decide +kernel)
theorem scTry : NScope ["rule", "key", "account", "place"] ["rule", "key"] ["account", "place"] (laSc eTry) := nscope_by (by decide +kernel)
section
variable {P : Program} {w : World} {K : PySem.W.Frag} {mg : Str → Option Value} {base : Heap}
/-! ### changed, called -/
def tChg (K : PySem.W.Frag) (W1 : L2.St → Hp → Addr → (TL.Rule → TL.Key → Bool) → Prop) (W2 : L2.St → Hp → Addr → (TL.Rule → Part → Part) → (TL.Rule → Part → Prop) → Prop) (t : TA) : TE := fun σ H Q => t σ H fun vs H1 =>
  ∃ (v v0 : V) (f1 f2 : Addr) (b : TL.Book) (σ0 : Stand) (touched : TL.Rule → TL.Key → Bool) (change : TL.Rule → Part → Part) (okc : TL.Rule → Part → Prop), vs = [v, v0, .ref f1, .ref f2] ∧ W1 σ H1 f1 touched ∧ W2 σ H1 f2 change okc ∧
    BookAt K b v H1 ∧ StandAt K σ0 v0 H1 ∧ BookOk2 b ∧ Fits b σ0 ∧ (∀ (i : Nat) (r : TL.Rule) (ps : List Part) (x : Part), b.rules[i]? = some r → σ0[i]? = some ps → x ∈ ps → okc r x) ∧ RetR (StandAt K (changed b σ0 touched change)) H1 Q
theorem pe_chg {X : Cx} {W1 : L2.St → Hp → Addr → (TL.Rule → TL.Key → Bool) → Prop} {W2 : L2.St → Hp → Addr → (TL.Rule → Part → Part) → (TL.Rule → Part → Prop) → Prop} {p pos : Pos} {e : Expr} {es : List Expr} {t : TA} (T : Tx X.K X.mg) (hr : Room 4 X.A) (hg : Gl X "changed") (ha : PA X (e :: es) t)
    (C1 : ∀ pins s σ H f g, Inv X pins σ H s → W1 σ H f g → CallIn X.prog X.w X.K X.mg X.base X.stack 2 s H f (spTouch X.K g)) (C2 : ∀ pins s σ H f g ok, Inv X pins σ H s → W2 σ H f g ok → CallIn X.prog X.w X.K X.mg X.base X.stack 2 s H f (spChg X.K g ok))
    (he : starEach (e :: es) X.env = (false, eval e X.env) :: starEach es X.env := by rfl) (hpl : (backTo pos (starEach es X.env)).any (·.1) = false := by rfl) : PE X (.Call (.Name "changed" p) (e :: es) [] pos) (tChg X.K W1 W2 t) := by
  obtain ⟨fch, fd, F, hbd⟩ := T.changed.ex
  refine ⟨fun pins s σ H Q I h => ?_⟩
  refine wpAny_Call_Name_kw (ld_glob I hg F.mgf ?_ (by decide))
  refine PySem.W.callWith_K (h₀ := X.base) I.ok.mod.kin F.kp (thn (ha.run pos pins s σ H _ I h) fun us s1 ⟨vs, H1, I1, r, q⟩ => ⟨I1.kIn, ?_⟩) he hpl
  obtain ⟨v, v0, f1, f2, b, σ0, touched, change, okc, rfl, w1, w2, hB, hS, hok, hfit, hc, k⟩ := q
  refine wpAny_call (codeAny_mono (run_changed T F.mgf hr I1.env0 r hB hS hok hfit (C1 _ _ _ _ _ _ I1 w1) (C2 _ _ _ _ _ _ _ I1 w2) hc k) fun r s' hq => ?_)
  cases r with
  | error e => exact (show False from hq).elim
  | ok fl =>
    cases fl with
    | ret u => exact I1.after hq
    | next => exact False.elim hq
    | brk => exact False.elim hq
    | cont => exact False.elim hq
/-! ### the cells of a frame are no frames -/
theorem cell_nofr {X : Cx} {pins : List (Addr × Obj)} {σ : L2.St} {H : Hp} {s : Shared} (I : Inv X pins σ H s) (hfn : ∀ x, X.fn x = true) {x : Str} {c : Addr} (h : X.env.cells.lookup x = some c) : c ∉ frs X.stack := fun z => by
  rcases List.mem_cons.mp (I.stkSub _ z) with e | e
  · exact I.cne _ _ h e
  · obtain ⟨_, o, ho, _⟩ := I.ok.funs.mem e
    exact absurd (Nat.lt_of_lt_of_le (Heap.lt_size ho) (I.ok.cab x c (hfn x) h)) (Nat.lt_irrefl _)
/-! ### the lambdas, called -/
theorem callIn_open {X : Cx} {pins : List (Addr × Obj)} {σ : L2.St} {H : Hp} {s : Shared} {q : Str} {f c pa : Addr} {a : Int} (I : Inv X pins σ H s) (hfn : ∀ x, X.fn x = true) (hsc : X.env.scope = fnScope (top 30)) (hN : X.N[2]? = some ("action" : Str))
    (hf : H f = some (LamO f (LF.of q X.env.cells eOpen) c)) (hc : H c = some (CodeO c (LF.of q X.env.cells eOpen).qual)) (hσ : σ[2]? = some (some (.ref pa))) (hp : SqT X.K H pa [.str "open", .int a]) :
    CallIn X.prog X.w X.K X.mg X.base X.stack 2 s H f (spTouch X.K fun _ k => k.1 == some a) := by
  have cp : Caps X (LF.of q X.env.cells eOpen).cl ["action"] [2] := Caps.made (scope := laSc eOpen) I.ok (by rw [hsc]; decide +kernel) (by decide +kernel) (by simp [hN])
  refine callIn_lam (k := 1) (ws := [2].map (slotAt σ)) scOpen (fun pm ctv us hl => ?_) hf hc (cells_of I cp) (fun y a e => cell_nofr I hfn (cp.sub y a e)) (fun vs H Q E ⟨_, _, _, _, h, _⟩ => by rw [h]; rfl) fun A out s' H' vs Q hr ex ⟨vr, vk, r, kk, hv, hR, hK, k⟩ => ?_
  · match us, hl with
    | [_, _], _ => rfl
  · subst hv
    obtain ⟨ak, rfl, hK⟩ := hK
    refine ⟨_, pe_cmpR op_eq (pe_ix ix_tup (pv 1) pe_int (fun _ _ => rfl)) (pe_ix ix_tup (pv 2) pe_int (fun _ _ => rfl)) (nomark _), ?_⟩
    have hs : startF ["rule", "key", "action"] [vr, .ref ak] ([2].map (slotAt σ)) = [some vr, some (.ref ak), some (.ref pa)] := by
      rw [show [2].map (slotAt σ) = [some (.ref pa)] from congrArg (fun z => [z]) (slotAt_of hσ)]
      rfl
    rw [hs]
    refine ev_op (z := .bl (decide (oV kk.1 = .int a))) (ev_ixT (n := 0) (ev_var rfl) ev_c hK rfl) (ev_ixT (n := 1) (ev_var rfl) ev_c (ex_t ex hp) rfl) (rv_eq ?_) H' (Ex.refl H') Q fun H2 e2 => ?_
    · cases kk.1 <;> rfl
    · have e : decide (oV kk.1 = .int a) = (kk.1 == some a) := by
        cases h : kk.1 with
        | none => rfl
        | some i =>
          rw [Bool.eq_iff_iff]
          simp [oV]
      rw [e]
      exact k H2 e2
theorem callIn_new (T : Tx K mg) {X : Cx} {pins : List (Addr × Obj)} {σ : L2.St} {H : Hp} {s : Shared} {q : Str} {f c : Addr} (hK : X.K = K) (hm : X.mg = mg) (I : Inv X pins σ H s) (hfn : ∀ x, X.fn x = true) (hsc : X.env.scope = fnScope (top 30))
    (hf : H f = some (LamO f (LF.of q X.env.cells eNew) c)) (hc : H c = some (CodeO c (LF.of q X.env.cells eNew).qual)) :
    CallIn X.prog X.w X.K X.mg X.base X.stack 2 s H f (spChg X.K (fun _ _ => newPart) fun _ _ => True) := by
  subst hK hm
  have cp : Caps X (LF.of q X.env.cells eNew).cl [] [] := Caps.made (scope := laSc eNew) I.ok (by rw [hsc]; decide +kernel) (by decide +kernel) rfl
  obtain ⟨aN, gN, hN⟩ := T.new
  refine callIn_lam (k := 1) (ws := [].map (slotAt σ)) scNew (fun pm ctv us hl => ?_) hf hc (cells_of I cp) (fun y a e => cell_nofr I hfn (cp.sub y a e)) (fun vs H Q E ⟨_, _, _, _, h, _⟩ => by rw [h]; rfl) fun A out s' H' vs Q hr ex ⟨vr, vp, r, x, hv, hR, hP, _, k⟩ => ?_
  · match us, hl with
    | [_, _], _ => rfl
  · subst hv
    refine ⟨_, pe_glob (v := .ref aN) rfl gN rfl, ?_⟩
    exact k _ H' (Ex.refl _) ⟨aN, rfl, hN _⟩
theorem callIn_try (T : Tx K mg) {X : Cx} {pins : List (Addr × Obj)} {σ : L2.St} {H : Hp} {s : Shared} {q : Str} {f c : Addr} {a p : Int} (hK : X.K = K) (hm : X.mg = mg) (I : Inv X pins σ H s) (hfn : ∀ x, X.fn x = true) (hsc : X.env.scope = fnScope (top 30)) (hN : X.N[4]? = some ("account" : Str)) (hN2 : X.N[5]? = some ("place" : Str))
    (hf : H f = some (LamO f (LF.of q X.env.cells eTry) c)) (hc : H c = some (CodeO c (LF.of q X.env.cells eTry).qual)) (hσ : σ[4]? = some (some (.int a))) (hσ2 : σ[5]? = some (some (.int p))) :
    CallIn X.prog X.w X.K X.mg X.base X.stack 2 s H f (spTouch X.K fun _ k => isAt k a p) := by
  subst hK hm
  have cA := c_is_at (P := X.prog) (w := X.w) (base := X.base) T
  have cp : Caps X (LF.of q X.env.cells eTry).cl ["account", "place"] [4, 5] := Caps.made (scope := laSc eTry) I.ok (by rw [hsc]; decide +kernel) (by decide +kernel) (by simp [hN, hN2])
  refine callIn_lam (k := 1) (ws := [4, 5].map (slotAt σ)) scTry (fun pm ctv us hl => ?_) hf hc (cells_of I cp) (fun y a e => cell_nofr I hfn (cp.sub y a e)) (fun vs H Q E ⟨_, _, _, _, h, _⟩ => by rw [h]; rfl) fun A out s' H' vs Q hr ex ⟨vr, vk, r, kk, hv, hR, hK, k⟩ => ?_
  · match us, hl with
    | [_, _], _ => rfl
  · subst hv
    refine ⟨_, pe_c cA hr (Nat.le_refl _) rfl (pa_cons (pv 1) (pa_cons (pv 2) (pa_cons (pv 3) pa_nil))), ?_⟩
    have hs : startF ["rule", "key", "account", "place"] [vr, vk] ([4, 5].map (slotAt σ)) = [some vr, some vk, some (.int a), some (.int p)] := by
      rw [show [4, 5].map (slotAt σ) = [some (.int a), some (.int p)] from by rw [List.map_cons, List.map_cons, slotAt_of hσ, slotAt_of hσ2]; rfl]
      rfl
    rw [hs]
    exact ev_isAt (K := X.K) (ev_var rfl) (ev_var rfl) (ev_var rfl) hK H' (Ex.refl H') Q k
end
end TL
/-! Trylocks, walk Q: step. -/
namespace TL
open PySem PySem.Spec PyProof.Rows L2 Evl C8 RZ LamX NdefX
section
variable {P : Program} {w : World} {K : PySem.W.Frag} {mg : Str → Option Value} {base : Heap}
def wordOf : Told → Str
  | .tin => "in"
  | .kept => "kept"
  | .none => "none"
  | .opened => "opened"
  | .wrong => "wrong"
def ActAt (K : PySem.W.Frag) : Act → V → Hp → Prop
  | .none, v, _ => v = .non
  | .try_ a p r, v, H => ∃ q, v = .ref q ∧ SqT K H q [.str "try", .int a, .int p, .bl r]
  | .open_ a, v, H => ∃ q, v = .ref q ∧ SqT K H q [.str "open", .int a]
theorem actAt_T : ∀ {a : Act}, StaysT (ActAt K a)
  | .none => fun v H H' e h => h
  | .try_ _ _ _ => fun v H H' e ⟨q, h, s⟩ => ⟨q, h, e.sq s⟩
  | .open_ _ => fun v H H' e ⟨q, h, s⟩ => ⟨q, h, e.sq s⟩
/-- streaks as the program keeps them -/
def StrOk (σ : Stand) : Prop := ∀ ps ∈ σ, ∀ x ∈ ps, 0 ≤ x.streak ∧ x.streak ≤ 2
/-- the pair that step hands back -/
def StepAt (K : PySem.W.Frag) (r : Told × Stand) (u : V) (H : Hp) : Prop := ∃ p v, u = .ref p ∧ SqT K H p [.str (wordOf r.1), v] ∧ StandAt K r.2 v H
theorem stepAt_T {r : Told × Stand} : StaysT (StepAt K r) := fun v H H' e ⟨p, u, h, s, q⟩ => ⟨p, u, h, e.sq s, standAt_T _ _ _ e q⟩
def tabsOf (Pt : Addr) : List (Addr × Str) := [(Pt, "step.<locals>.<lambda>")]
def spStep (K : PySem.W.Frag) (Pt : Addr) : Sp := fun vs H Q _ => ∃ (v v0 va : V) (b : TL.Book) (σ : Stand) (act : Act), vs = [v, v0, va] ∧ BookAt K b v H ∧ StandAt K σ v0 H ∧ ActAt K act va H ∧ BookOk2 b ∧ Fits b σ ∧ StrOk σ ∧ Tabs (tabsOf Pt) H ∧
  ∀ u H2, ExtN H H2 → Tabs (tabsOf Pt) H2 → StepAt K (step b σ act) u H2 → Q u H2
/-- step stands under its name, its code object at c -/
structure StepD (K : PySem.W.Frag) (mg : Str → Option Value) (c : Addr) : Prop where
  ex : ∃ (f : Addr) (fd : FuncData), Def K mg "step" (top 30) f fd ∧ Binds K fd ["book", "standing", "action"] [] ∧ fd.code = .ref c
def nStep : List Str := ["book", "standing", "action", "word", "account", "place", "right", "told", "change"]
theorem sc_step : FnScope nStep ["book", "standing", "action"] (fnScope (top 30)) := fnScope_by (by decide +kernel)
theorem pe_lam {X : Cx} {T : List (Addr × Str)} {c P : Addr} {e : Expr} {pos : Pos} (he : e = .Lambda (laPs e) (laBd e) (laSc e) pos) (TB : TabB X.base X.mg c P) (hcode : X.env.code = .ref c) (hm : (P, X.env.qual ++ "<lambda>") ∈ T) (hu : ∀ p ∈ T, p.1 = P → p.2 = X.env.qual ++ "<lambda>")
    (hdef : defaultsOf (laPs e) X.env = ([], [])) (hfree : ∀ y ∈ (laSc e).names, y.2 = .free → X.env.scope.names.lookup y.1 = some .cell ∨ X.env.scope.names.lookup y.1 = some .free) : PE X e (tLamE T (LF.of X.env.qual X.env.cells e)) := by
  have q := pe_lambda (X := X) (body := laBd e) (pos := pos) TB hcode hm hu hdef hfree
  rw [← he] at q
  exact q
/-- the words under which a lambda or a def is handed to changed -/
def WOpen (K : PySem.W.Frag) (q : Str) (cl : List (Str × Addr)) : L2.St → Hp → Addr → (TL.Rule → TL.Key → Bool) → Prop := fun σ H f g => ∃ c pa a, H f = some (LamO f (LF.of q cl eOpen) c) ∧ H c = some (CodeO c (LF.of q cl eOpen).qual) ∧ σ[2]? = some (some (.ref pa)) ∧ SqT K H pa [.str "open", .int a] ∧ g = fun _ k => k.1 == some a
def WNew (q : Str) (cl : List (Str × Addr)) : L2.St → Hp → Addr → (TL.Rule → Part → Part) → (TL.Rule → Part → Prop) → Prop := fun _ H f g ok => ∃ c, H f = some (LamO f (LF.of q cl eNew) c) ∧ H c = some (CodeO c (LF.of q cl eNew).qual) ∧ g = (fun _ _ => newPart) ∧ ok = fun _ _ => True
def WTry (q : Str) (cl : List (Str × Addr)) : L2.St → Hp → Addr → (TL.Rule → TL.Key → Bool) → Prop := fun σ H f g => ∃ c a p, H f = some (LamO f (LF.of q cl eTry) c) ∧ H c = some (CodeO c (LF.of q cl eTry).qual) ∧ σ[4]? = some (some (.int a)) ∧ σ[5]? = some (some (.int p)) ∧ g = fun _ k => isAt k a p
def WFn (mg : Str → Option Value) : L2.St → Hp → Addr → (TL.Rule → Part → Part) → (TL.Rule → Part → Prop) → Prop := fun _ _ f g ok =>
  (mg "kept_part" = some (.ref f) ∧ g = keptPart ∧ ok = fun _ _ => True) ∨ (mg "let_part" = some (.ref f) ∧ g = letPart ∧ ok = fun _ _ => True) ∨ (mg "begun" = some (.ref f) ∧ g = begun ∧ ok = fun r x => RuleOk r ∧ 0 ≤ x.streak ∧ x.streak ≤ 2)
theorem fnAt_def {x : Str} {st : Stmt} {ps : List Str} (D : DefB K mg x st ps) {f : Addr} (hf : mg x = some (.ref f)) : ∀ h : Heap, K.In h → PySem.W.FnAt f h := fun h kin => by
  obtain ⟨f', fd, F, _⟩ := D.ex
  have e := hf.symm.trans F.mgf
  cases e
  obtain ⟨oc, od, dV, kV, doc, pm, an, cdv, ct, osl, rfl, lk, hcd⟩ := F.fn.ex
  exact ⟨oc, od, _, osl, kin _ _ lk⟩


/-- cut: what stays over the making of lambdas -/
theorem tLam_cons {σ : L2.St} {H : Hp} {Tb : List (Addr × Str)} {F : LF} {t : TA} {Q : List V → Hp → Prop} (hT : Tabs Tb H) (h : ∀ (f c' : Addr) (H1 : Hp), ExtN H H1 → Tabs Tb H1 → H1 f = some (LamO f F c') → H1 c' = some (CodeO c' F.qual) → t σ H1 fun vs H2 => Q (.ref f :: vs) H2) : tCons (tLamE Tb F) t σ H Q :=
  ⟨hT, fun f c' H1 e T1 _ hf hc => h f c' H1 e T1 hf hc⟩
theorem lamO_ne {f c : Addr} {F : LF} (ps : Array Value) : LamO f F c ≠ .tbl ps := fun z => by
  unfold LamO at z
  cases z
theorem stepAt_of {b : TL.Book} {σ : Stand} {act : Act} {H : Hp} {p : Addr} {x : Str} {v : V} (hs : SqT K H p [.str x, v]) (hv : StandAt K (step b σ act).2 v H) (hx : wordOf (step b σ act).1 = x) : StepAt K (step b σ act) (.ref p) H := ⟨p, v, rfl, by rw [hx]; exact hs, hv⟩
theorem free_eOpen : ∀ y ∈ (laSc eOpen).names, y.2 = .free → (fnScope (top 30)).names.lookup y.1 = some .cell ∨ (fnScope (top 30)).names.lookup y.1 = some .free := by decide +kernel
theorem free_eNew : ∀ y ∈ (laSc eNew).names, y.2 = .free → (fnScope (top 30)).names.lookup y.1 = some .cell ∨ (fnScope (top 30)).names.lookup y.1 = some .free := by decide +kernel
theorem free_eTry : ∀ y ∈ (laSc eTry).names, y.2 = .free → (fnScope (top 30)).names.lookup y.1 = some .cell ∨ (fnScope (top 30)).names.lookup y.1 = some .free := by decide +kernel
theorem er_pairV {σ : L2.St} {H : Hp} {ta tb : TE} {x : V} {R : V → Hp → Prop} (ha : Ev ta σ H x) (hb : Er tb σ H R) (st : Stays R) : Er (tTup (tCons ta (tCons tb tNil))) σ H (fun u H2 => ∃ p v, u = .ref p ∧ SqT K H2 p [x, v] ∧ R v H2) := fun H1 e Q q =>
  ha H1 e _ fun H2 e2 => hb H2 (e.trans e2) _ fun v H3 e3 r => ⟨sz_of (by show 2 ≤ 100000; decide), fun p hp => q _ _ ((e2.trans e3).trans (Ex.new hp)) ⟨p, v, rfl, st_of upd_same, st _ _ _ (Ex.new hp) r⟩⟩
abbrev rIsN0 : R2 := fun x y H Q => y = .non ∧ Q (.bl (decide (x = .non))) H
theorem rv_isN {x : V} {H : Hp} : RV rIsN0 x .non H (.bl (decide (x = .non))) := fun H1 _ Q q => ⟨rfl, q H1 (Ex.refl H1)⟩
theorem c_step (T : Tx K mg) {cS Pt : Addr} (TB : TabB base mg cS Pt) (D : StepD K mg cS) : Cal P w K mg base 5 "step" (spStep K Pt) [] := by
  have cI := c_idle (P := P) (w := w) (base := base) T
  have cL := c_locked (P := P) (w := w) (base := base) T
  have cKe := c_kept (P := P) (w := w) (base := base) T
  have cLe := c_let (P := P) (w := w) (base := base) T
  have cBe := c_begun (P := P) (w := w) (base := base) T
  obtain ⟨f, fd, F, hb, hcode⟩ := D.ex
  obtain ⟨fK, gK⟩ : ∃ f, mg "kept_part" = some (.ref f) := let ⟨f, _, F, _⟩ := T.kept_part.ex; ⟨f, F.mgf⟩
  obtain ⟨fL, gL⟩ : ∃ f, mg "let_part" = some (.ref f) := let ⟨f, _, F, _⟩ := T.let_part.ex; ⟨f, F.mgf⟩
  obtain ⟨fB, gB⟩ : ∃ f, mg "begun" = some (.ref f) := let ⟨f, _, F, _⟩ := T.begun.ex; ⟨f, F.mgf⟩
  refine ⟨f, fd, ["book", "standing", "action"], [], ?_, F.mgf, F.kp, hb, .nil⟩
  obtain ⟨oc, od, dV, kV, doc, pm, an, cdv, ct, osl, rfl, lk, hcd⟩ := F.fn.ex
  have hcdv : cdv = .ref cS := hcode
  subst hcdv
  refine fn_of lk hcd sc_step (fun vs H Q E h => ?_) fun A outer s H vs Q E hr h => ?_
  · obtain ⟨v, v0, va, b, σ, act, rfl, _⟩ := h
    rfl
  · obtain ⟨v, v0, va, b, σ0, act, rfl, hBB, hSS, hA, hok, hfit, hstr, hTab, k⟩ := h
    have nd := sc_step.nd
    let ev := envOfC "step" (fnScope (top 30)) s.heap.objs.size f (.ref cS)
    refine ⟨_, PSs.nox (pss_cons (ps_if (pt_cmpR op_isN (pv 2) pe_non (nomark _)) (pss_one (ps_ret (pe_tup (pa_cons pe_str (pa_cons (pe_c cI hr (by decide) rfl (pa_cons (pv 0) (pa_cons (pv 1) (pa_cons pe_int pa_nil)))) pa_nil))))) pss_nil)
      (pss_cons (ps_if (pt_cmpR op_eq (pe_ix ix_tup (pv 2) pe_int (fun _ _ => rfl)) pe_str (nomark _)) (pss_one (ps_ret (pe_tup (pa_cons pe_str (pa_cons (pe_chg (W1 := WOpen K ev.qual ev.cells) (W2 := WNew ev.qual ev.cells) T hr rfl (pa_cons (pv 0) (pa_cons (pv 1)
          (pa_cons (pe_lam (T := tabsOf Pt) (e := eOpen) rfl TB rfl (List.mem_cons_self ..) (fun p hp _ => by rw [List.mem_singleton.mp hp]; rfl) rfl free_eOpen)
          (pa_cons (pe_lam (T := tabsOf Pt) (e := eNew) rfl TB rfl (List.mem_cons_self ..) (fun p hp _ => by rw [List.mem_singleton.mp hp]; rfl) rfl free_eNew) pa_nil))))
          (fun pins s σ H f g I ⟨c, pa, a, h1, h2, h3, h4, hg⟩ => by subst hg; exact callIn_open I (fun _ => rfl) rfl rfl h1 h2 h3 h4)
          (fun pins s σ H f g ok I ⟨c, h1, h2, hg, ho⟩ => by subst hg ho; exact callIn_new T rfl rfl I (fun _ => rfl) rfl h1 h2)) pa_nil))))) pss_nil)
      (pss_cons (ps_asg (pv 2) (pg_tup (n := 4) rfl (pgs_cons (pg_name (i := 3) nd rfl (.inl rfl)) (pgs_cons (pg_name (i := 4) nd rfl (.inr rfl)) (pgs_cons (pg_name (i := 5) nd rfl (.inr rfl)) (pgs_cons (pg_name (i := 6) nd rfl (.inl rfl)) pgs_nil))))))
      (pss_cons (ps_if (pt_val (pe_c cL hr (by decide) rfl (pa_cons (pv 0) (pa_cons (pv 1) (pa_cons (pv 4) (pa_cons (pv 5) pa_nil))))))
          (pss_one (ps_par (i := 7) (j := 8) rfl nd rfl rfl (by decide) rfl rfl (pa_cons pe_str (pa_cons (pe_glob (v := .ref fK) rfl gK rfl) pa_nil)) rfl))
          (pss_one (ps_if (pt_val (pv 6))
            (pss_one (ps_par (i := 7) (j := 8) rfl nd rfl rfl (by decide) rfl rfl (pa_cons pe_str (pa_cons (pe_glob (v := .ref fL) rfl gL rfl) pa_nil)) rfl))
            (pss_one (ps_par (i := 7) (j := 8) rfl nd rfl rfl (by decide) rfl rfl (pa_cons pe_str (pa_cons (pe_glob (v := .ref fB) rfl gB rfl) pa_nil)) rfl)))))
      (pss_one (ps_ret (pe_tup (pa_cons (pv 7) (pa_cons (pe_chg (W1 := WTry ev.qual ev.cells) (W2 := WFn mg) T hr rfl (pa_cons (pv 0) (pa_cons (pv 1)
          (pa_cons (pe_lam (T := tabsOf Pt) (e := eTry) rfl TB rfl (List.mem_cons_self ..) (fun p hp _ => by rw [List.mem_singleton.mp hp]; rfl) rfl free_eTry)
          (pa_cons (pv 8) pa_nil))))
          (fun pins s σ H f g I ⟨c, a, p, h1, h2, h3, h4, hg⟩ => by subst hg; exact callIn_try T rfl rfl I (fun _ => rfl) rfl rfl rfl h1 h2 h3 h4)
          (fun pins s σ H f g ok I h => by
            rcases h with ⟨hm, hg, ho⟩ | ⟨hm, hg, ho⟩ | ⟨hm, hg, ho⟩
            · subst hg ho; exact callIn_fn (c_kept T) hm (fnAt_def T.kept_part hm)
            · subst hg ho; exact callIn_fn (c_let T) hm (fnAt_def T.let_part hm)
            · subst hg ho; exact callIn_fn (c_begun T) hm (fnAt_def T.begun hm))) pa_nil))))))))), ?_⟩
    have hs : L2.start nStep [v, v0, va] = [some v, some v0, some va, none, none, none, none, none, none] := rfl
    rw [hs]
    have isN : ∀ {σ1 : L2.St} {H1 : Hp} {x : V}, σ1[2]? = some (some x) → EvT (tTest (tOp rIsN0 (tVar 2) (tC .non))) σ1 H1 (decide (x = .non)) := fun h => et_op (ev_var h) ev_c rv_isN
    cases act with
    | none =>
      obtain rfl : va = .non := hA
      refine q_when (b := true) (et_is (isN rfl) rfl) (fun _ H1 e1 => ?_) (fun z => by cases z)
      have hi : Er (tCall (spIdle K) [] C8.E0 (tCons (tVar 0) (tCons (tVar 1) (tCons (tC (.int 1)) tNil)))) [some v, some v0, some V.non, none, none, none, none, none, none] H1 (StandAt K (idle b σ0 1)) :=
        er_call (era_of (ea_cons (ev_var rfl) (ea_cons (ev_var rfl) (ea_cons ev_c ea_nil)))) fun vs H2 e2 h Q q E => by
          subst h
          exact ⟨v, v0, b, σ0, 1, rfl, bookAt_st _ _ _ (e1.trans e2) hBB, standAt_st _ _ _ (e1.trans e2) hSS, hok, hfit, q⟩
      exact sr_ret (er_pairV (K := K) ev_c hi standAt_st) fun u H2 e2 ⟨p, v1, eu, h1, h2⟩ => by
        subst eu
        exact k _ H2 (ExtN.of (e1.trans e2)) (hTab.ext (e1.trans e2)) (stepAt_of h1 h2 rfl)
    | open_ a =>
      obtain ⟨q, rfl, hq⟩ := hA
      refine q_when (b := false) (et_is (isN rfl) rfl) (fun z => by cases z) (fun _ H1 e1 => ?_)
      refine q_when (b := true) (et_is (et_op (ev_ixT (n := 0) (ev_var rfl) ev_c (ex_t e1 hq) rfl) ev_c (rv_eq rfl)) (by decide)) (fun _ H2 e2 => ?_) (fun z => by cases z)
      refine ⟨v, rfl, v0, rfl, tLam_cons (hTab.ext (e1.trans e2)) fun f1 c1 H3 e3 T3 hf1 hc1 => tLam_cons T3 fun f2 c2 H4 e4 T4 hf2 hc2 => ?_⟩
      have eN : ExtN H H4 := ((ExtN.of (e1.trans e2)).trans e3).trans e4
      refine ⟨v, v0, f1, f2, b, σ0, _, _, _, rfl, ⟨c1, q, a, e4 _ _ hf1 lamO_ne, e4 _ _ hc1 codeO_ne, rfl, (exT_N eN).sq hq, rfl⟩, ⟨c2, hf2, hc2, rfl, rfl⟩, bookAt_T _ _ _ (exT_N eN) hBB, standAt_T _ _ _ (exT_N eN) hSS, hok, hfit, fun _ _ _ _ _ _ _ => trivial, fun u H5 e5 hu => ⟨sz_of (by show 2 ≤ 100000; decide), fun p hp => ?_⟩⟩
      exact k _ _ (eN.trans (ExtN.of (e5.trans (Ex.new hp)))) (T4.ext (e5.trans (Ex.new hp))) (stepAt_of (st_of upd_same) (standAt_st _ _ _ (Ex.new hp) hu) rfl)
    | try_ a p right =>
      obtain ⟨q, rfl, hq⟩ := hA
      refine q_when (b := false) (et_is (isN rfl) rfl) (fun z => by cases z) (fun _ H1 e1 => ?_)
      refine q_when (b := false) (et_is (et_op (ev_ixT (n := 0) (ev_var rfl) ev_c (ex_t e1 hq) rfl) ev_c (rv_eq rfl)) (by decide)) (fun z => by cases z) (fun _ H2 e2 => ?_)
      have e12 : Ex H H2 := e1.trans e2
      refine ⟨_, rfl, q, _, rfl, ex_t e12 hq, rfl, _, _, rfl, _, _, rfl, _, _, rfl, _, _, rfl, rfl, ?_⟩
      show tSeq _ _ _ [some v, some v0, some (.ref q), some (.str "try"), some (.int a), some (.int p), some (.bl right), none, none] H2
      have lk : Ev (tCall (spLocked K) [] C8.E0 (tCons (tVar 0) (tCons (tVar 1) (tCons (tVar 4) (tCons (tVar 5) tNil))))) [some v, some v0, some (.ref q), some (.str "try"), some (.int a), some (.int p), some (.bl right), none, none] H2 (.bl (isLocked b σ0 a p)) :=
        ev_callV (ea_cons (ev_var rfl) (ea_cons (ev_var rfl) (ea_cons (ev_var rfl) (ea_cons (ev_var rfl) ea_nil)))) fun H3 e3 Q hQ E => ⟨v, v0, b, σ0, a, p, rfl, bookAt_st _ _ _ (e12.trans e3) hBB, standAt_st _ _ _ (e12.trans e3) hSS, hok, hfit, hQ⟩
      have fin : ∀ (word : Str) (fc : Addr) (g : TL.Rule → Part → Part) (okc : TL.Rule → Part → Prop) (H3 : Hp), Ex H H3 → (∀ (i : Nat) (r : TL.Rule) (ps : List Part) (x : Part), b.rules[i]? = some r → σ0[i]? = some ps → x ∈ ps → okc r x) → (∀ σ1 H1, WFn mg σ1 H1 fc g okc) → (step b σ0 (.try_ a p right)).2 = changed b σ0 (fun _ k => isAt k a p) g → wordOf (step b σ0 (.try_ a p right)).1 = word →
          tRet (tTup (tCons (tVar 7) (tCons (tChg K (WTry ev.qual ev.cells) (WFn mg) (tCons (tVar 0) (tCons (tVar 1) (tCons (tLamE (tabsOf Pt) (LF.of ev.qual ev.cells eTry)) (tCons (tVar 8) tNil))))) tNil))) { nx := fun _ H' => Q .non H', rt := Q } [some v, some v0, some (.ref q), some (.str "try"), some (.int a), some (.int p), some (.bl right), some (.str word), some (.ref fc)] H3 := fun word fc g okc H3 e3 hc hw h2 h1 => by
        refine ⟨_, rfl, v, rfl, v0, rfl, tLam_cons (hTab.ext e3) fun f1 c1 H4 e4 T4 hf1 hc1 => ⟨_, rfl, ?_⟩⟩
        have eN : ExtN H H4 := (ExtN.of e3).trans e4
        refine ⟨v, v0, f1, fc, b, σ0, _, g, okc, rfl, ⟨c1, a, p, hf1, hc1, rfl, rfl, rfl⟩, hw _ _, bookAt_T _ _ _ (exT_N eN) hBB, standAt_T _ _ _ (exT_N eN) hSS, hok, hfit, hc, fun u H5 e5 hu => ⟨sz_of (by show 2 ≤ 100000; decide), fun p hp => ?_⟩⟩
        exact k _ _ (eN.trans (ExtN.of (e5.trans (Ex.new hp)))) (T4.ext (e5.trans (Ex.new hp))) (stepAt_of (st_of upd_same) (by rw [h2]; exact standAt_st _ _ _ (Ex.new hp) hu) h1)
      cases hl : isLocked b σ0 a p with
      | true =>
        refine q_if (b := true) (et_is (et_B lk) hl) (fun _ H3 e3 => ?_) (fun z => by cases z)
        refine ⟨_, _, rfl, fin "kept" fK keptPart _ H3 (e12.trans e3) (fun _ _ _ _ _ _ _ => trivial) (fun _ _ => .inl ⟨gK, rfl, rfl⟩) ?_ ?_⟩
        · show (if isLocked b σ0 a p then _ else _ : Told × Stand).2 = _
          rw [hl]
          rfl
        · show wordOf (if isLocked b σ0 a p then _ else _ : Told × Stand).1 = _
          rw [hl]
          rfl
      | false =>
        refine q_if (b := false) (et_is (et_B lk) hl) (fun z => by cases z) (fun _ H3 e3 => ?_)
        cases right with
        | true =>
          refine s_if (b := true) (et_is (et_B (ev_var rfl)) rfl) (fun _ H4 e4 => ?_) (fun z => by cases z)
          refine ⟨_, _, rfl, fin "in" fL letPart _ H4 ((e12.trans e3).trans e4) (fun _ _ _ _ _ _ _ => trivial) (fun _ _ => .inr (.inl ⟨gL, rfl, rfl⟩)) ?_ ?_⟩
          · show (if isLocked b σ0 a p then _ else _ : Told × Stand).2 = _
            rw [hl]
            rfl
          · show wordOf (if isLocked b σ0 a p then _ else _ : Told × Stand).1 = _
            rw [hl]
            rfl
        | false =>
          refine s_if (b := false) (et_is (et_B (ev_var rfl)) rfl) (fun z => by cases z) (fun _ H4 e4 => ?_)
          refine ⟨_, _, rfl, fin "wrong" fB begun _ H4 ((e12.trans e3).trans e4) (fun i r ps x h1 h2 h3 => ⟨hok.2 r (List.mem_of_getElem? h1), hstr ps (List.mem_of_getElem? h2) x h3⟩) (fun _ _ => .inr (.inr ⟨gB, rfl, rfl⟩)) ?_ ?_⟩
          · show (if isLocked b σ0 a p then _ else _ : Told × Stand).2 = _
            rw [hl]
            rfl
          · show wordOf (if isLocked b σ0 a p then _ else _ : Told × Stand).1 = _
            rw [hl]
            rfl
end
end TL
/-! Trylocks, walk R: counts as dicts, added, one_round. -/
namespace TL
open PySem PySem.Spec PyProof.Rows L2 Evl C8 RZ LamX NdefX
abbrev Cnt := Told → Int
def tolds : List Told := [.tin, .kept, .none, .opened, .wrong]
def cntKvs (c : Cnt) : List (L2.Key × V) := tolds.map fun t => (Sum.inr (wordOf t), .int (c t))
def addC (one other : Cnt) (times : Int) : Cnt := fun t => one t + other t * times
def oneC (t : Told) : Cnt := fun u => if u = t then 1 else 0
/-- a round, plain -/
def rstep (b : TL.Book) (gap : Int) (z : Cnt × Stand) (a : Act) : Cnt × Stand := (fun u => z.1 u + oneC (step b z.2 a).1 u, idle b (step b z.2 a).2 (gap - 1))
def roundOf (b : TL.Book) (gap : Int) (σ : Stand) (acts : List Act) : Cnt × Stand := acts.foldl (rstep b gap) (fun _ => 0, σ)
/-! ### shapes and streaks stay -/
theorem fits_map {b : TL.Book} {σ : Stand} (g : TL.Rule × List Part → List Part) (h : Fits b σ) (hg : ∀ r ps, ps.length = (keysOf b r).length → (g (r, ps)).length = (keysOf b r).length) : Fits b ((b.rules.zip σ).map g) := by
  refine ⟨by rw [List.length_map, List.length_zip, h.1, Nat.min_self], fun i r ps h1 h2 => ?_⟩
  rw [List.getElem?_map] at h2
  cases hz : (b.rules.zip σ)[i]? with
  | none => rw [hz] at h2; cases h2
  | some z =>
    rw [hz] at h2
    cases h2
    obtain ⟨r', ps'⟩ := z
    obtain ⟨q1, q2⟩ := List.getElem?_zip_eq_some.mp hz
    have q1 : b.rules[i]? = some r' := q1
    rw [h1] at q1
    cases q1
    exact hg _ _ (h.2 i r ps' h1 q2)
theorem str_map {b : TL.Book} {σ : Stand} (g : TL.Rule × List Part → List Part) (h : StrOk σ) (hg : ∀ r ps, (∀ x ∈ ps, 0 ≤ x.streak ∧ x.streak ≤ 2) → ∀ x ∈ g (r, ps), 0 ≤ x.streak ∧ x.streak ≤ 2) : StrOk ((b.rules.zip σ).map g) := fun ps hp x hx => by
  obtain ⟨⟨r, qs⟩, hz, rfl⟩ := List.mem_map.mp hp
  exact hg r qs (fun y hy => h qs (List.of_mem_zip hz).2 y hy) x hx
theorem passed_streak (r : TL.Rule) (x : Part) (n : Int) : (passed r x n).streak = x.streak := by
  unfold passed
  dsimp only
  split
  · split <;> rfl
  · rfl
theorem begun_streak {r : TL.Rule} {x : Part} (h : 0 ≤ x.streak ∧ x.streak ≤ 2) : 0 ≤ (begun r x).streak ∧ (begun r x).streak ≤ 2 := by
  unfold begun
  split
  · rw [passed_streak]; exact h
  · dsimp only
    split
    · unfold min2
      split <;> omega
    · omega
theorem kept_streak (r : TL.Rule) (x : Part) : (keptPart r x).streak = x.streak := by
  unfold keptPart
  split
  · exact passed_streak _ _ _
  · exact passed_streak _ _ _
theorem let_streak {r : TL.Rule} {x : Part} (h : 0 ≤ x.streak ∧ x.streak ≤ 2) : 0 ≤ (letPart r x).streak ∧ (letPart r x).streak ≤ 2 := by
  unfold letPart
  split
  · exact ⟨Int.le_refl 0, by decide⟩
  · rw [passed_streak]; exact h
theorem fits_idle {b : TL.Book} {σ : Stand} (n : Int) (h : Fits b σ) : Fits b (idle b σ n) := fits_map (fun q => q.2.map fun x => passed q.1 x n) h fun r ps e => by rw [List.length_map]; exact e
theorem str_idle {b : TL.Book} {σ : Stand} (n : Int) (h : StrOk σ) : StrOk (idle b σ n) := str_map (fun q => q.2.map fun x => passed q.1 x n) h fun r ps hp x hx => by
  obtain ⟨y, hy, rfl⟩ := List.mem_map.mp hx
  rw [passed_streak]
  exact hp y hy
theorem fits_changed {b : TL.Book} {σ : Stand} {touched : TL.Rule → TL.Key → Bool} {change : TL.Rule → Part → Part} (h : Fits b σ) : Fits b (changed b σ touched change) := fits_map (chRow b touched change) h fun r ps e => by
  show (List.map _ ((keysOf b r).zip ps)).length = _
  rw [List.length_map, List.length_zip, e, Nat.min_self]
theorem str_changed {b : TL.Book} {σ : Stand} {touched : TL.Rule → TL.Key → Bool} {change : TL.Rule → Part → Part} (h : StrOk σ) (hc : ∀ r x, 0 ≤ x.streak ∧ x.streak ≤ 2 → 0 ≤ (change r x).streak ∧ (change r x).streak ≤ 2) : StrOk (changed b σ touched change) := str_map (chRow b touched change) h fun r ps hp x hx => by
  obtain ⟨⟨k, y⟩, hy, rfl⟩ := List.mem_map.mp hx
  have q := hp y (List.of_mem_zip hy).2
  dsimp only
  split
  · exact hc _ _ q
  · rw [passed_streak]; exact q
theorem fits_step {b : TL.Book} {σ : Stand} (a : Act) (h : Fits b σ) : Fits b (step b σ a).2 := by
  cases a with
  | none => exact fits_idle 1 h
  | open_ a => exact fits_changed (touched := fun _ k => k.1 == some a) (change := fun _ _ => newPart) h
  | try_ a p r =>
    unfold step
    dsimp only
    split
    · exact fits_changed (touched := fun _ k => isAt k a p) (change := keptPart) h
    · split
      · exact fits_changed (touched := fun _ k => isAt k a p) (change := letPart) h
      · exact fits_changed (touched := fun _ k => isAt k a p) (change := begun) h
theorem str_step {b : TL.Book} {σ : Stand} (a : Act) (h : StrOk σ) : StrOk (step b σ a).2 := by
  cases a with
  | none => exact str_idle 1 h
  | open_ a => exact str_changed (touched := fun _ k => k.1 == some a) (change := fun _ _ => newPart) h fun _ _ _ => ⟨Int.le_refl 0, by decide⟩
  | try_ a p r =>
    unfold step
    dsimp only
    split
    · exact str_changed (touched := fun _ k => isAt k a p) (change := keptPart) h fun _ _ q => by rw [kept_streak]; exact q
    · split
      · exact str_changed (touched := fun _ k => isAt k a p) (change := letPart) h fun _ _ q => let_streak q
      · exact str_changed (touched := fun _ k => isAt k a p) (change := begun) h fun _ _ q => begun_streak q
theorem fits_first (b : TL.Book) : Fits b (firstStand b) := by
  refine ⟨by unfold firstStand; rw [List.length_map], fun i r ps h1 h2 => ?_⟩
  unfold firstStand at h2
  rw [List.getElem?_map, h1] at h2
  cases h2
  rw [List.length_map]
theorem str_first (b : TL.Book) : StrOk (firstStand b) := fun ps hp x hx => by
  obtain ⟨r, _, rfl⟩ := List.mem_map.mp hp
  obtain ⟨_, _, rfl⟩ := List.mem_map.mp hx
  exact ⟨Int.le_refl 0, by decide⟩
theorem fits_round {b : TL.Book} {gap : Int} (acts : List Act) : ∀ z : Cnt × Stand, Fits b z.2 → Fits b (acts.foldl (rstep b gap) z).2 := by
  induction acts with
  | nil => exact fun z h => h
  | cons a r ih => exact fun z h => ih _ (fits_idle _ (fits_step a h))
theorem str_round {b : TL.Book} {gap : Int} (acts : List Act) : ∀ z : Cnt × Stand, StrOk z.2 → StrOk (acts.foldl (rstep b gap) z).2 := by
  induction acts with
  | nil => exact fun z h => h
  | cons a r ih => exact fun z h => ih _ (str_idle _ (str_step a h))
section
variable {P : Program} {w : World} {K : PySem.W.Frag} {mg : Str → Option Value} {base : Heap}
def CntAt (c : Cnt) (v : V) (H : Hp) : Prop := ∃ p, v = .ref p ∧ H p = some (.dK (cntKvs c))
theorem cntAt_N {c : Cnt} {v : V} {H H' : Hp} (e : ExtN H H') (h : CntAt c v H) : CntAt c v H' := let ⟨p, h1, h2⟩ := h; ⟨p, h1, e _ _ h2 fun ps z => by cases z⟩
theorem cntAt_st {c : Cnt} : Stays (CntAt c) := fun v H H' e h => cntAt_N (ExtN.of e) h
theorem acc_put (c : Cnt) {i : Nat} {t : Told} (h : tolds[i]? = some t) : putK ((tolds.take i).map fun t => ((Sum.inr (wordOf t), .int (c t)) : L2.Key × V)) (Sum.inr (wordOf t)) (.int (c t)) = (tolds.take (i + 1)).map fun t => (Sum.inr (wordOf t), .int (c t)) := by
  rcases i with _ | _ | _ | _ | _ | i
  · cases h; rfl
  · cases h; rfl
  · cases h; rfl
  · cases h; rfl
  · cases h; rfl
  · cases h
theorem cnt_get (c : Cnt) (t : Told) : valV (cntKvs c) (Sum.inr (wordOf t)) = some (.int (c t)) := by
  cases t <;> rfl
theorem cnt_put (c : Cnt) (t : Told) (z : Int) : putK (cntKvs c) (Sum.inr (wordOf t)) (.int z) = cntKvs (fun u => if u = t then z else c u) := by
  cases t <;> rfl
theorem cnt_bump (c : Cnt) (t : Told) : (fun u => if u = t then c t + 1 else c u) = fun u => c u + oneC t u := funext fun u => by
  unfold oneC
  by_cases h : u = t
  · rw [if_pos h, if_pos h, h]
  · rw [if_neg h, if_neg h]; omega
theorem cnt_len (c : Cnt) : (cntKvs c).length < sizeLine := Nat.lt_of_le_of_lt (show (cntKvs c).length ≤ 5 by exact Nat.le_refl _) (by decide)
/-- {word: .. for word in WORDS} -/
theorem er_wdN {aW : Addr} {i : Nat} {tv : TE} {σ : L2.St} {H : Hp} {c : Cnt} (hW : ∀ H, SqT K H aW (tolds.map fun t => .str (wordOf t))) (hw : ∀ x, wipe ((wipe σ [i]).set i (some x)) [i] = wipe σ [i]) (hg : ∀ x, ((wipe σ [i]).set i (some x))[i]? = some (some x))
    (htv : ∀ (t : Told) (H1 : Hp), Ex H H1 → Ev tv ((wipe σ [i]).set i (some (.str (wordOf t)))) H1 (.int (c t))) : ∀ H1, Ex H H1 → ∀ Q : VK, (∀ p H2, H1 p = none → Ex H1 H2 → H2 p = some (.dK (cntKvs c)) → Q (.ref p) H2) → tDc (iTup K (tC (.ref aW))) (gName i) tYes (tVar i) tv [i] σ H1 Q := fun H1 e Q q =>
  ⟨aW, rfl, ⟨_, hW H1⟩, fun D hD => dc_tup (Qd := Q (.ref D)) (fun j H' => Ex H1 H' ∧ H' D = some (.dK ((tolds.take j).map fun t => (Sum.inr (wordOf t), .int (c t))))) ⟨Ex.new hD, upd_same⟩ (fun _ H' _ _ => hW H') (fun j x H' hx ⟨e', hd⟩ => by
      rw [List.getElem?_map] at hx
      cases ht : tolds[j]? with
      | none => rw [ht] at hx; cases hx
      | some t =>
        rw [ht] at hx
        cases hx
        refine ⟨hw _, ?_⟩
        unfold tYes
        dsimp only
        rw [if_pos rfl]
        refine ⟨_, hg _, htv t H' (e.trans e') H' (Ex.refl H') _ fun H5 e5 => ⟨_, Sum.inr (wordOf t), rfl, e5 _ _ hd, ?_, Ex.mut (e'.trans e5) hD, ?_⟩⟩
        · rw [List.length_map]
          exact Nat.lt_of_le_of_lt (Nat.le_trans (by rw [List.length_take]; exact Nat.min_le_right _ _) (show tolds.length ≤ 5 by decide)) (by decide)
        · rw [upd_same, acc_put c ht])
    (fun H' ⟨e', hd⟩ => q D H' hD e' hd)⟩
theorem er_wd {aW : Addr} {i : Nat} {tv : TE} {σ : L2.St} {H : Hp} {c : Cnt} (hW : ∀ H, SqT K H aW (tolds.map fun t => .str (wordOf t))) (hw : ∀ x, wipe ((wipe σ [i]).set i (some x)) [i] = wipe σ [i]) (hg : ∀ x, ((wipe σ [i]).set i (some x))[i]? = some (some x))
    (htv : ∀ (t : Told) (H1 : Hp), Ex H H1 → Ev tv ((wipe σ [i]).set i (some (.str (wordOf t)))) H1 (.int (c t))) : Er (tDc (iTup K (tC (.ref aW))) (gName i) tYes (tVar i) tv [i]) σ H (CntAt c) := fun H1 e Q q =>
  er_wdN hW hw hg htv H1 e Q fun p H2 _ e2 hp => q _ H2 e2 ⟨p, rfl, hp⟩
/-! ### name = {..} on one line -/
theorem ps_setDc {X : Cx} {i : Nat} {y : Str} {py : Pos} {kx vx tg iter : Expr} {ifs : List Expr} {scope : Scope} {own : List (Str × Nat)} {pos spos : Pos} {wi : TI} {g : TG} {tt : TT} {tk tv : TE} (hc : X.calm = true) (hN : X.N.Nodup) (hy : X.N[i]? = some y) (hyl : X.env.scope.names.lookup y = some .local)
    (hsw : swapsWith (.DictComp kx vx [⟨tg, iter, ifs, 0⟩] scope pos) (some (.Name y py)) spos.line X.env = pure true) (hi : PI X tg iter wi) (ok : BlkOk X.N X.env.scope scope own)
    (hg : ∀ (s : Shared) (H : Hp) (C : Addr) (cl : List (Str × Addr)) (fp : List Addr), PG (X.blk s H scope (compEnvC scope cl C X.env) fp) tg g) (ht : ∀ (s : Shared) (H : Hp) (C : Addr) (cl : List (Str × Addr)) (fp : List Addr), PTs (X.blk s H scope (compEnvC scope cl C X.env) fp) ifs tt)
    (hk : ∀ (s : Shared) (H : Hp) (C : Addr) (cl : List (Str × Addr)) (fp : List Addr), PE (X.blk s H scope (compEnvC scope cl C X.env) fp) kx tk)
    (he : ∀ (s : Shared) (H : Hp) (C : Addr) (cl : List (Str × Addr)) (fp : List Addr), PE (X.blk s H scope (compEnvC scope cl C X.env) fp) vx tv) (hs : ∀ x, foldedSetIterable iter X.env x = pure x := by intro _; rfl) :
    PS X (.Assign [.Name y py] (.DictComp kx vx [⟨tg, iter, ifs, 0⟩] scope pos) spos) (tAsg (tDc wi g tt tk tv (own.map (·.2))) (gName i)) := by
  refine ⟨fun pins s σ H D I h => ?_⟩
  rw [exec_Assign_Name_used _ _ _ _ hsw]
  refine wpAny_bind (wpAny_standAt (wpAny_bind ?_))
  show wpAny _ X.A (do let _ ← comprehension (.DictComp kx vx [⟨tg, iter, ifs, 0⟩] scope pos) scope X.env (firstIterPos [⟨tg, iter, ifs, 0⟩] pos) newDict false (eval iter X.env) (some (assign (.Name y py) X.env))) _ _ s
  have h : tDc wi g tt tk tv (own.map (·.2)) σ H (fun x H1 => gName i x σ H1 D.nx) := h
  refine wpAny_bind (thn (dc_core (Qf := fun _ s' => SP X pins D .next s') hc hN I hi ok hg ht hk he hs h fun L C s' m H' I' q hn f => ?_) fun _ s' hq => wpAny_pure (wpAny_pure hq))
  show wpAny _ _ (assign (.Name y py) X.env (.ref L)) _ _ _
  refine wpAny_assign_Name (store_ok2 (v := V.ref L) I' hN hy (.inl hyl) rfl (fun s2 I2 ⟨a, sb, ha⟩ => ?_) (.inr hyl))
  obtain ⟨f0, f1, f2, f3, f4, f5⟩ := f
  have haC : C ≠ a := by
    rcases ha with z | z
    · rw [z]; exact f1
    · exact fun e => f4 y a z e.symm
  refine ⟨m, hn.sameBut sb haC, fun h3 sb3 => ?_⟩
  exact ⟨_, H', I2.turned (t' := s2.toks) (fun b o hb e => (sb3.2 b hb).trans e) f0 f1 f3 f4 f5, q⟩
theorem sw_trueD {kx vx : Expr} {gs : List Comprehension} {scope : Scope} {pos py : Pos} {y : Str} {l : Nat} {env : Env} (hk : env.scope.kind = .function) (hy : env.scope.names.lookup y = some .local) (hl : (py.line == pos.line) = true)
    (ha : (scope.names.any fun (n, k) => n == y && (k == .local || k == .cell)) = false) : swapsWith (.DictComp kx vx gs scope pos) (some (.Name y py)) l env = pure true := by
  have ky : env.kindOf y = some .local := hy
  have hb : env.blockKind = .function := by unfold Env.blockKind; rw [hk]; rfl
  unfold swapsWith
  simp only [hb, ky, ha, Expr.pos, hl]
  rfl
/-! ### added -/
def nAdded : List Str := ["one", "other", "times", "word"]
theorem sc_added : FnScope nAdded ["one", "other", "times"] (fnScope (top 35)) := fnScope_by (by decide +kernel)
def spAdded : Sp := fun vs H Q _ => ∃ (v1 v2 : V) (c1 c2 : Cnt) (n : Int), vs = [v1, v2, .int n] ∧ CntAt c1 v1 H ∧ CntAt c2 v2 H ∧ (-(2 ^ 64) < n ∧ n < 2 ^ 64) ∧ RetR (CntAt (addC c1 c2 n)) H Q
theorem ev_cnt {σ : L2.St} {H : Hp} {i j : Nat} {v : V} {c : Cnt} {t : Told} (hi : σ[i]? = some (some v)) (hj : σ[j]? = some (some (.str (wordOf t)))) (h : CntAt c v H) : Ev (tDGet (tVar i) (tVar j)) σ H (.int (c t)) := fun H1 e Q q => by
  obtain ⟨p, rfl, hp⟩ := h
  exact ⟨_, hi, _, hj, p, _, rfl, .inl ⟨cntKvs c, Sum.inr (wordOf t), .inl (e _ _ hp), rfl, (cnt_get c t).symm⟩, q H1 (Ex.refl H1)⟩
theorem words_T (T : Tx K mg) : ∃ a, mg "WORDS" = some (.ref a) ∧ ∀ H, SqT K H a (tolds.map fun t => .str (wordOf t)) := T.words
theorem c_added (T : Tx K mg) (D : DefB K mg "added" (top 35) ["one", "other", "times"]) : Cal P w K mg base 1 "added" spAdded [] := by
  refine calT D sc_added (fun vs H Q E h => ?_) (fun f cdv A outer s H vs Q E hr h => ?_)
  · obtain ⟨v1, v2, c1, c2, n, rfl, _⟩ := h
    rfl
  · obtain ⟨v1, v2, c1, c2, n, rfl, h1, h2, hn, k⟩ := h
    obtain ⟨aW, gW, hW⟩ := words_T T
    have nd := sc_added.nd
    refine ⟨_, pss_one (ps_ret (pe_dc (own := [("word", 3)]) rfl nd (pi_tup (pe_glob (v := .ref aW) rfl gW rfl)) (blkOk_by (N := nAdded) (sc := fnScope (top 35)) (by decide +kernel)) (fun _ _ _ _ _ => pg_name (i := 3) nd rfl (.inl rfl)) (fun _ _ _ _ _ => pts_nil) (fun _ _ _ _ _ => pv 3)
      (fun _ _ _ _ _ => pe_op op_add (pe_dget (hu_of hr) (pv 0) (pv 3) (fun _ _ => rfl)) (pe_op op_mul (pe_dget (hu_of hr) (pv 1) (pv 3) (fun _ _ => rfl)) (pv 2))))), ?_⟩
    have hs : L2.start nAdded [v1, v2, .int n] = [some v1, some v2, some (.int n), none] := rfl
    rw [hs]
    refine sr_ret (er_wd (c := addC c1 c2 n) hW (fun _ => rfl) (fun _ => rfl) fun t H1 e => ?_) fun v H1 e r => k v H1 e r
    exact ev_add (ev_cnt rfl rfl (cntAt_st _ _ _ e h1)) (ev_op (ev_cnt rfl rfl (cntAt_st _ _ _ e h2)) (ev_var rfl) (rv_I (.inr hn)))
end
end TL
/-! Trylocks, walk S: one_round. -/
namespace TL
open PySem PySem.Spec PyProof.Rows L2 Evl C8 RZ LamX NdefX
section
variable {P : Program} {w : World} {K : PySem.W.Frag} {mg : Str → Option Value} {base : Heap}
/-! ### standing over the growth of tables -/
theorem ExtN.mut {H H' : Hp} {p : Addr} {o : HO} (e : ExtN H H') (hp : H p = none) : ExtN H (upd H' p o) := fun a u h n => by
  have : a ≠ p := ne_of_none h hp
  rw [upd_ne this]
  exact e a u h n
theorem sqL_N {a : Addr} {xs : List V} {H H' : Hp} (e : ExtN H H') (h : SqL K H a xs) : SqL K H' a xs := by
  rcases h with (h | ⟨o, h⟩) | h
  · exact .inl (.inl (e _ _ h fun ps z => by cases z))
  · exact .inl (.inr ⟨o, e _ _ h fun ps z => by cases z⟩)
  · exact .inr h
theorem tabs_upd {T : List (Addr × Str)} {H : Hp} {d : Addr} {o u : HO} (h : Tabs T H) (hd : H d = some o) (n1 : ∀ ps, o ≠ .tbl ps) (n2 : ∀ c q, o ≠ CodeO c q) : Tabs T (upd H d u) := fun p hp => by
  obtain ⟨ps, h1, h2, h3⟩ := h p hp
  refine ⟨ps, ?_, h2, fun pos cv hc => ?_⟩
  · rw [upd_ne fun z => by rw [z, hd] at h1; exact n1 ps (Option.some.inj h1)]
    exact h1
  · obtain ⟨c, e1, e2⟩ := h3 pos cv hc
    refine ⟨c, e1, ?_⟩
    rw [upd_ne fun z => by rw [z, hd] at e2; exact n2 _ _ (Option.some.inj e2)]
    exact e2
def ActsAt (K : PySem.W.Frag) (acts : List Act) (a : Addr) (H : Hp) : Prop := ∃ vs, SqL K H a vs ∧ Paired (fun v x => ActAt K x v H) vs acts
theorem actsAt_N {acts : List Act} {a : Addr} {H H' : Hp} (e : ExtN H H') (h : ActsAt K acts a H) : ActsAt K acts a H' := let ⟨vs, s, p⟩ := h; ⟨vs, sqL_N e s, Paired.mapP p fun v x q => actAt_T _ _ _ (exT_N e) q⟩
/-! ### one_round -/
theorem q_asgNew {σ : L2.St} {H : Hp} {te : TE} {tz : TS} {D : Ends} {i : Nat} {R : Addr → Hp → Prop} (h : ∀ Q : VK, (∀ p H2, H p = none → Ex H H2 → R p H2 → Q (.ref p) H2) → te σ H Q) (k : ∀ p H2, H p = none → Ex H H2 → R p H2 → tz D (σ.set i (some (.ref p))) H2) : tSeq (tAsg te (gName i)) tz D σ H := h _ k
def nOne : List Str := ["book", "standing", "actions", "gap", "found", "action", "told", "word"]
theorem sc_one : FnScope nOne ["book", "standing", "actions", "gap"] (fnScope (top 34)) := fnScope_by (by decide +kernel)
def RoundAt (K : PySem.W.Frag) (r : Cnt × Stand) (u : V) (H : Hp) : Prop := ∃ p d v, u = .ref p ∧ SqT K H p [d, v] ∧ CntAt r.1 d H ∧ StandAt K r.2 v H
def spOne (K : PySem.W.Frag) (Pt : Addr) : Sp := fun vs H Q _ => ∃ (v v0 : V) (la : Addr) (b : TL.Book) (σ : Stand) (acts : List Act) (gap : Int), vs = [v, v0, .ref la, .int gap] ∧ BookAt K b v H ∧ StandAt K σ v0 H ∧ ActsAt K acts la H ∧ BookOk2 b ∧ Fits b σ ∧ StrOk σ ∧ Tabs (tabsOf Pt) H ∧
  ∀ u H2, ExtN H H2 → Tabs (tabsOf Pt) H2 → RoundAt K (roundOf b gap σ acts) u H2 → Q u H2
theorem round_take {b : TL.Book} {gap : Int} {σ : Stand} {acts : List Act} {i : Nat} {a : Act} (h : acts[i]? = some a) : roundOf b gap σ (acts.take (i + 1)) = rstep b gap (roundOf b gap σ (acts.take i)) a := by
  unfold roundOf
  rw [take_next h, List.foldl_append]
  rfl
theorem c_one (T : Tx K mg) {cS Pt : Addr} (TB : TabB base mg cS Pt) (DS : StepD K mg cS) (D : DefB K mg "one_round" (top 34) ["book", "standing", "actions", "gap"]) : Cal P w K mg base 6 "one_round" (spOne K Pt) [] := by
  have cS := c_step (P := P) (w := w) (base := base) T TB DS
  have cI := c_idle (P := P) (w := w) (base := base) T
  refine calT D sc_one (fun vs H Q E h => ?_) (fun f cdv A outer s H vs Q E hr h => ?_)
  · obtain ⟨v, v0, la, b, σ, acts, gap, rfl, _⟩ := h
    rfl
  · obtain ⟨v, v0, la, b, σ0, acts, gap, rfl, hBB, hSS, hAA, hok, hfit, hstr, hTab, k⟩ := h
    obtain ⟨aW, gW, hW⟩ := words_T T
    have nd := sc_one.nd
    refine ⟨_, pss_cons (ps_setDc (i := 4) (own := [("word", 7)]) rfl nd rfl rfl (sw_trueD rfl rfl rfl rfl) (pi_tup (pe_glob (v := .ref aW) rfl gW rfl)) (blkOk_by (N := nOne) (sc := fnScope (top 34)) (by decide +kernel)) (fun _ _ _ _ _ => pg_name (i := 7) nd rfl (.inl rfl)) (fun _ _ _ _ _ => pts_nil) (fun _ _ _ _ _ => pv 7) (fun _ _ _ _ _ => pe_int))
      (pss_cons (ps_for PassesOwn.never rfl (pi_list (pv 2)) (pg_name (i := 5) nd rfl (.inl rfl))
        (pss_cons (ps_asg (pe_c cS hr (by decide) rfl (pa_cons (pv 0) (pa_cons (pv 1) (pa_cons (pv 5) pa_nil)))) (pg_tup (n := 2) rfl (pgs_cons (pg_name (i := 6) nd rfl (.inl rfl)) (pgs_cons (pg_name (i := 1) nd rfl (.inl rfl)) pgs_nil))))
        (pss_cons (ps_daug (hu_of hr) (pv 4) (pv 6) pe_int in_add (fun _ _ _ => rfl))
        (pss_one (ps_set (i := 1) nd rfl (.inl rfl) (pe_c cI hr (by decide) rfl (pa_cons (pv 0) (pa_cons (pv 1) (pa_cons (pe_op op_sub (pv 3) pe_int) pa_nil)))))))))
      (pss_one (ps_ret (pe_tup (pa_cons (pv 4) (pa_cons (pv 1) pa_nil)))))), ?_⟩
    have hs : L2.start nOne [v, v0, .ref la, .int gap] = [some v, some v0, some (.ref la), some (.int gap), none, none, none, none] := rfl
    rw [hs]
    obtain ⟨avs, hAL, hAP⟩ := id hAA
    have hd0 := er_wdN (K := K) (i := 7) (tv := tC (.int 0)) (σ := [some v, some v0, some (.ref la), some (.int gap), none, none, none, none]) (H := H) (c := fun _ => 0) hW (fun _ => rfl) (fun _ => rfl) (fun t H1 e => ev_c)
    refine q_asgNew (R := fun d H1 => H1 d = some (.dK (cntKvs fun _ => 0))) (hd0 H (Ex.refl H)) fun d H1 hdH e1 hd => ?_
    show tSeq _ _ _ [some v, some v0, some (.ref la), some (.int gap), some (.ref d), none, none, none] H1
    have hll : avs.length = acts.length := Paired.length hAP
    refine q_forLn (K := K) (a := la) (xs := avs) (ev_var rfl) (sqL_N (ExtN.of e1) hAL)
      (fun i σ' H' => ∃ u5 u6 u7 vS, σ' = [some v, some vS, some (.ref la), some (.int gap), some (.ref d), u5, u6, u7] ∧ ExtN H H' ∧ Tabs (tabsOf Pt) H' ∧ H' d = some (.dK (cntKvs (roundOf b gap σ0 (acts.take i)).1)) ∧ StandAt K (roundOf b gap σ0 (acts.take i)).2 vS H')
      (fun H2 e2 => ⟨_, _, _, _, rfl, ExtN.of (e1.trans e2), hTab.ext (e1.trans e2), e2 _ _ hd, standAt_st _ _ _ (e1.trans e2) hSS⟩) (fun i σ' H' _ ⟨_, _, _, _, _, eN, _⟩ => sqL_N eN hAL) ?_ ?_
    · rintro i x σ' H' hx ⟨u5, u6, u7, vS, rfl, eN, hT, hD, hS⟩
      obtain ⟨act, ha1, ha2⟩ := paired_get hAP hx
      have hfi : Fits b (roundOf b gap σ0 (acts.take i)).2 := fits_round _ _ hfit
      have hst : StrOk (roundOf b gap σ0 (acts.take i)).2 := str_round _ _ hstr
      have hrt := round_take (b := b) (gap := gap) (σ := σ0) ha1
      generalize roundOf b gap σ0 (acts.take i) = z at hD hS hfi hst hrt
      refine ⟨v, rfl, vS, rfl, x, rfl, v, vS, x, b, z.2, act, rfl, bookAt_T _ _ _ (exT_N eN) hBB, hS, actAt_T _ _ _ (exT_N eN) ha2, hok, hfi, hst, hT, fun u H2 eN2 hT2 hu => ?_⟩
      obtain ⟨p, vS2, eu, hp, hS2⟩ := hu
      subst eu
      refine ⟨p, _, rfl, hp, rfl, _, _, rfl, _, _, rfl, rfl, ?_⟩
      have hD2 : H2 d = some (.dK (cntKvs z.1)) := eN2 _ _ hD fun ps q => by cases q
      refine ⟨_, rfl, _, rfl, d, _, rfl, .inl ⟨_, Sum.inr (wordOf (step b z.2 act).1), .inl hD2, rfl, (cnt_get z.1 _).symm⟩, _, _, rfl, rfl, _, .inl ⟨_, Sum.inr (wordOf (step b z.2 act).1), hD2, rfl, cnt_len _, rfl⟩, ?_⟩
      rw [cnt_put, cnt_bump]
      have eN3 : ExtN H (upd H2 d (.dK (cntKvs fun u => z.1 u + oneC (step b z.2 act).1 u))) := ExtN.mut (eN.trans eN2) hdH
      have eT3 : ExT H2 (upd H2 d (.dK (cntKvs fun u => z.1 u + oneC (step b z.2 act).1 u))) := ExT.upd hD2 rfl
      have hT3 : Tabs (tabsOf Pt) (upd H2 d (.dK (cntKvs fun u => z.1 u + oneC (step b z.2 act).1 u))) := tabs_upd hT2 hD2 (fun ps q => by cases q) (fun c q z => by unfold CodeO at z; cases z)
      have hS3 := standAt_T _ _ _ eT3 hS2
      have hd3 : (upd H2 d (.dK (cntKvs fun u => z.1 u + oneC (step b z.2 act).1 u))) d = some (.dK (cntKvs fun u => z.1 u + oneC (step b z.2 act).1 u)) := upd_same
      generalize upd H2 d (.dK (cntKvs fun u => z.1 u + oneC (step b z.2 act).1 u)) = H3 at eN3 hT3 hS3 hd3
      have hB3 := bookAt_T _ _ _ (exT_N eN3) hBB
      refine sr_asg (R := StandAt K (idle b (step b z.2 act).2 (gap - 1))) (er_call (era_of (vs := [v, vS2, .int (gap - 1)]) (ea_cons (ev_var rfl) (ea_cons (ev_var rfl) (ea_cons (ev_sub (ev_var rfl) ev_c) ea_nil)))) fun vs H4 e4 hv Q q E => ?_) fun vS4 H4 e4 hS4 => ?_
      · subst hv
        exact ⟨v, vS2, b, _, gap - 1, rfl, bookAt_st _ _ _ e4 hB3, standAt_st _ _ _ e4 hS3, hok, fits_step act hfi, q⟩
      · refine ⟨_, _, _, vS4, rfl, eN3.trans (ExtN.of e4), hT3.ext e4, ?_, ?_⟩
        · rw [hrt]
          exact e4 _ _ hd3
        · rw [hrt]
          exact hS4
    · rintro σ' H' ⟨u5, u6, u7, vS, rfl, eN, hT, hD, hS⟩
      rw [hll, List.take_length] at hD hS
      refine ⟨_, rfl, _, rfl, sz_of (by show 2 ≤ 100000; decide), fun p hp => k _ _ (eN.trans (ExtN.of (Ex.new hp))) (hT.ext (Ex.new hp)) ⟨p, _, _, rfl, st_of upd_same, ⟨d, rfl, Ex.new hp _ _ hD⟩, standAt_st _ _ _ (Ex.new hp) hS⟩⟩
end
end TL
/-! Trylocks, walk K: dicts whose keys are nested tuples. -/
namespace TL
open PySem PySem.Spec PyProof.Rows L2 Evl C8 RZ LamX NdefX
/-! ### a nested key in the abstract heap -/
mutual
/-- the value v is the key k -/
inductive NK (K : PySem.W.Frag) (H : Hp) : NestedKey → V → Prop where
  | none : NK K H .none .non
  | int (i : Int) : NK K H (.num i) (.int i)
  | text (x : Str) : NK K H (.text x) (.str x)
  | tup {a : Addr} {vs : List V} {ks : List NestedKey} : SqT K H a vs → NKAll K H ks vs → NK K H (.tup ks) (.ref a)
inductive NKAll (K : PySem.W.Frag) (H : Hp) : List NestedKey → List V → Prop where
  | nil : NKAll K H [] []
  | cons {k : NestedKey} {v : V} {ks : List NestedKey} {vs : List V} : NK K H k v → NKAll K H ks vs → NKAll K H (k :: ks) (v :: vs)
end
mutual
theorem NK.mono {K : PySem.W.Frag} {H H' : Hp} (e : ExT H H') : ∀ (k : NestedKey) (v : V), NK K H k v → NK K H' k v
  | .none, _, h => by cases h; exact .none
  | .num i, _, h => by cases h; exact .int i
  | .text x, _, h => by cases h; exact .text x
  | .tup ks, _, h => by
    cases h with
    | tup h1 h2 => exact .tup (e.sq h1) (NKAll.mono e ks _ h2)
theorem NKAll.mono {K : PySem.W.Frag} {H H' : Hp} (e : ExT H H') : ∀ (ks : List NestedKey) (vs : List V), NKAll K H ks vs → NKAll K H' ks vs
  | [], _, h => by cases h; exact .nil
  | k :: ks, _, h => by
    cases h with
    | cons h1 h2 => exact .cons (NK.mono e k _ h1) (NKAll.mono e ks _ h2)
end
theorem tup_at {P : Program} {w : World} {K : PySem.W.Frag} {H : Hp} {h : Heap} {a : Addr} {vs : List V} (hok : HOk P w H h) (kin : K.In h) (s : SqT K H a vs) : ∃ (o : Obj) (us : Array Value) (n : Nat), h.get? a = some o ∧ o.cls = .type "tuple" ∧ o.data = .seq us n ∧ Vals vs us.toList := by
  rcases s with s | ⟨o, us, n, h1, h2, h3, _, h4⟩
  · obtain ⟨_, its, r, o, h1, h2, n, h3⟩ := (show ObjOk P w H h a (.tup vs) from s.ok hok)
    exact ⟨o, its.toArray, n, h1, h2, h3, by simpa using r⟩
  · exact ⟨o, us, n, kin _ _ h1, h2, h3, h4⟩
mutual
theorem NK.is {P : Program} {w : World} {K : PySem.W.Frag} {H : Hp} {h : Heap} (hok : HOk P w H h) (kin : K.In h) : ∀ (k : NestedKey) (v : V) (u : Value), NK K H k v → RelV v u → NestedIs h k u
  | .none, _, u, x, r => by
    cases x
    obtain rfl : u = Value.none := r
    exact .none
  | .num i, _, u, x, r => by
    cases x
    obtain ⟨t, rfl⟩ := (show ∃ t, u = Value.int i t from r)
    exact .int i t
  | .text z, _, u, x, r => by
    cases x
    obtain ⟨t, rfl⟩ := (show ∃ t, u = Value.str z t from r)
    exact .text z t
  | .tup ks, _, u, x, r => by
    cases x with
    | tup h1 h2 =>
      rename_i a vs
      obtain rfl : u = Value.ref a := r
      obtain ⟨o, us, n, g1, g2, g3, g4⟩ := tup_at hok kin h1
      exact .tup g1 g2 g3 (NKAll.is hok kin ks _ _ h2 g4)
theorem NKAll.is {P : Program} {w : World} {K : PySem.W.Frag} {H : Hp} {h : Heap} (hok : HOk P w H h) (kin : K.In h) : ∀ (ks : List NestedKey) (vs : List V) (us : List Value), NKAll K H ks vs → Vals vs us → NestedAll h ks us
  | [], _, us, x, r => by
    cases x
    cases r
    exact .nil
  | k :: ks, _, us, x, r => by
    cases x with
    | cons h1 h2 =>
      cases r with
      | cons r1 r2 => exact .cons (NK.is hok kin k _ _ h1 r1) (NKAll.is hok kin ks _ _ h2 r2)
end
/-! ### the dict -/
abbrev NEnt := NestedKey × Addr × V
def atE (ent : List NEnt) (k : NestedKey) : Option V := (ent.find? fun p => decide (p.1 = k)).map (·.2.2)
def putE (ent : List NEnt) (k : NestedKey) (a : Addr) (v : V) : List NEnt := if (atE ent k).isSome then ent.map (fun p => if p.1 = k then (p.1, p.2.1, v) else p) else ent ++ [(k, a, v)]
abbrev ERel (p : NEnt) (q : NestedKey × Addr × Value) : Prop := p.1 = q.1 ∧ p.2.1 = q.2.1 ∧ RelV p.2.2 q.2.2
def NDphi (P : Program) (w : World) (d : Addr) (ent : List NEnt) : Heap → Prop := fun h => ent.length ≤ sizeLine ∧ (d == sysModules) = false ∧ ∃ xs : List (NestedKey × Addr × Value), Paired ERel ent xs ∧
  ∃ o es ep, h.get? d = some o ∧ o.ExactDict ∧ o.data = .dict es ep ∧ es.toList = xs.map (entryOfKey (nestedKind P w)) ∧ (xs.map (·.1)).Nodup
def NDO (P : Program) (w : World) (d : Addr) (ent : List NEnt) : HO := .ext (NDphi P w d ent)
def NKs (K : PySem.W.Frag) (H : Hp) (ent : List NEnt) : Prop := ∀ p ∈ ent, NK K H p.1 (.ref p.2.1) ∧ p.1.depth ≤ 8
theorem NKs.mono {K : PySem.W.Frag} {H H' : Hp} {ent : List NEnt} (e : ExT H H') (h : NKs K H ent) : NKs K H' ent := fun p hp => ⟨NK.mono e _ _ (h p hp).1, (h p hp).2⟩
theorem ndo_new {P : Program} {w : World} {H : Hp} {h : Heap} {d : Addr} {ent : List NEnt} (x : NDphi P w d ent h) : ObjOk P w H h d (NDO P w d ent) := by
  obtain ⟨z, hd, xs, r, o, es, ep, h1, h2, h3, h4, h5⟩ := id x
  exact ⟨x, ⟨o, h1⟩, fun g1 g2 ⟨z, hd, xs, r, o, es, ep, h1, h2⟩ st => ⟨z, hd, xs, r, o, es, ep, st _ h1, h2⟩⟩
theorem nd_at {P : Program} {w : World} {K : PySem.W.Frag} {H : Hp} {h : Heap} {d : Addr} {ent : List NEnt} (hok : HOk P w H h) (kin : K.In h) (e : H d = some (NDO P w d ent)) (nk : NKs K H ent) :
    ent.length ≤ sizeLine ∧ (d == sysModules) = false ∧ ∃ xs, Paired ERel ent xs ∧ h.DictOfH (nestedKind P w) d xs := by
  obtain ⟨⟨z, hd, xs, r, o, es, ep, h1, h2, h3, h4, h5⟩, _, _⟩ := hok d _ e
  refine ⟨z, hd, xs, r, o, es, ep, h1, h2, h3, h4, fun x hx => ?_, h5⟩
  have all : ∀ {l : List NEnt} {m : List (NestedKey × Addr × Value)}, Paired ERel l m → (∀ p ∈ l, NK K H p.1 (.ref p.2.1) ∧ p.1.depth ≤ 8) → ∀ x ∈ m, (nestedKind P w).is h x.1 x.2.1 := by
    intro l m q
    induction q with
    | nil => intro _ x hx; exact nomatch hx
    | @cons p q ps qs hq t ih =>
      intro hp x hx
      rcases List.mem_cons.mp hx with e | hx
      · subst e
        have q1 := hp p (List.mem_cons_self ..)
        obtain ⟨e1, e2, _⟩ := hq
        rw [e1, e2] at q1
        exact ⟨NK.is hok kin _ _ _ q1.1 rfl, q1.2⟩
      · exact ih (fun p hp' => hp p (List.mem_cons_of_mem _ hp')) x hx
  exact all r nk x hx
theorem at_rel {k : NestedKey} : ∀ {ent : List NEnt} {xs : List (NestedKey × Addr × Value)}, Paired ERel ent xs → RelO (atE ent k) ((atKey xs k).map (·.2))
  | _, _, .nil => True.intro
  | _, _, .cons (a := p) (b := q) ⟨e1, e2, e3⟩ t => by
    have ih := at_rel (k := k) t
    unfold atE atKey at ih ⊢
    rw [List.find?_cons, List.find?_cons, ← e1]
    by_cases h : p.1 = k
    · rw [decide_eq_true h]
      exact e3
    · rw [decide_eq_false h]
      exact ih
theorem put_rel {k : NestedKey} {a : Addr} {v : V} {u : Value} {ent : List NEnt} {xs : List (NestedKey × Addr × Value)} (r : Paired ERel ent xs) (rv : RelV v u) : Paired ERel (putE ent k a v) (storedH xs k a u) := by
  have hs : (atE ent k).isSome = (atKey xs k).isSome := by
    have q := (at_rel (k := k) r).isSome_eq
    rw [Option.isSome_map] at q
    exact q
  unfold putE storedH
  rw [hs]
  split
  · induction r with
    | nil => exact .nil
    | @cons p q ps qs hq t ih =>
      have all : ∀ {l : List NEnt} {m : List (NestedKey × Addr × Value)}, Paired ERel l m → Paired ERel (l.map fun p => if p.1 = k then (p.1, p.2.1, v) else p) (m.map (putAt k u)) := by
        intro l m z
        induction z with
        | nil => exact .nil
        | @cons p q ps qs hq t ih =>
          obtain ⟨e1, e2, e3⟩ := hq
          refine .cons ?_ ih
          unfold putAt
          rw [← e1]
          dsimp only
          by_cases h : p.1 = k
          · rw [if_pos h, if_pos h]
            exact ⟨rfl, e2, rv⟩
          · rw [if_neg h, if_neg h]
            exact ⟨e1, e2, e3⟩
      exact all (.cons hq t)
  · exact Paired.snoc r ⟨rfl, rfl, rv⟩
theorem putE_len (ent : List NEnt) (k : NestedKey) (a : Addr) (v : V) : (putE ent k a v).length ≤ ent.length + 1 := by
  unfold putE
  split
  · rw [List.length_map]; omega
  · rw [List.length_append]; exact Nat.le_refl _
theorem putE_nk {K : PySem.W.Frag} {H : Hp} {ent : List NEnt} {k : NestedKey} {a : Addr} {v : V} (nk : NKs K H ent) (hk : NK K H k (.ref a)) (hd : k.depth ≤ 8) : NKs K H (putE ent k a v) := fun p hp => by
  unfold putE at hp
  split at hp
  · obtain ⟨q, hq, rfl⟩ := List.mem_map.mp hp
    have z := nk q hq
    split
    · exact z
    · exact z
  · rcases List.mem_append.mp hp with h | h
    · exact nk p h
    · rw [List.mem_singleton.mp h]
      exact ⟨hk, hd⟩
/-! ### the rules -/
theorem nd_room {A : Around} {P : Program} {w : World} (hu : A.units + 64 < cLine) : (nestedKind P w).room A.in1 := by
  show A.units + 1 + 8 < cLine
  omega
def tNDNew (P : Program) (w : World) : TE := fun _ H Q => ∀ p, H p = none → Q (.ref p) (upd H p (NDO P w p []))
def tNDIn (P : Program) (w : World) (K : PySem.W.Frag) (ty td : TE) : TE := fun σ H Q => ty σ H fun y H1 => td σ H1 fun x H2 => ∃ d a ent k, x = .ref d ∧ y = .ref a ∧ H2 d = some (NDO P w d ent) ∧ NKs K H2 ent ∧ NK K H2 k (.ref a) ∧ k.depth ≤ 8 ∧ Q (.bl (atE ent k).isSome) H2
def tNDGet (P : Program) (w : World) (K : PySem.W.Frag) (td ty : TE) : TE := fun σ H Q => td σ H fun x H1 => ty σ H1 fun y H2 => ∃ d a ent k v, x = .ref d ∧ y = .ref a ∧ H2 d = some (NDO P w d ent) ∧ NKs K H2 ent ∧ NK K H2 k (.ref a) ∧ k.depth ≤ 8 ∧ atE ent k = some v ∧ Q v H2
def tNDGet2 (P : Program) (w : World) (K : PySem.W.Frag) (td ty tx : TE) : TE := fun σ H Q => td σ H fun x H1 => ∃ d, x = .ref d ∧ (∃ ent, H1 d = some (NDO P w d ent) ∧ NKs K H1 ent) ∧ ty σ H1 fun y H2 => tx σ H2 fun z H3 => ∃ a ent k, y = .ref a ∧ H3 d = some (NDO P w d ent) ∧ NKs K H3 ent ∧ NK K H3 k (.ref a) ∧ k.depth ≤ 8 ∧ Q ((atE ent k).getD z) H3
def sNDPut (P : Program) (w : World) (K : PySem.W.Frag) (td ty tv : TE) : TS := fun D σ H => tv σ H fun v H1 => td σ H1 fun x H2 => ty σ H2 fun y H3 => ∃ d a ent k, x = .ref d ∧ y = .ref a ∧ H3 d = some (NDO P w d ent) ∧ NKs K H3 ent ∧ NK K H3 k (.ref a) ∧ k.depth ≤ 8 ∧ (putE ent k a v).length ≤ sizeLine ∧
  D.nx σ (upd H3 d (NDO P w d (putE ent k a v)))
section
variable {X : Cx} {o i e f value : Expr} {pos pos' apos cpos : Pos} {td ty tv tx : TE}
theorem pe_ndnew : PE X (.Dict [] [] pos) (tNDNew X.prog X.w) := ⟨fun pins s σ H Q I h =>
  wpAny_Dict_empty ⟨.ref s.heap.objs.size, _, I.laid (a := s.heap.objs.size) (o := NDO X.prog X.w s.heap.objs.size []) (t' := s.toks) (fun _ _ q => Heap.get?_push_of_some _ q) (Nat.le_refl _) (ndo_new
    ⟨Nat.zero_le _, beq_eq_false_iff_ne.mpr (Ne.symm (Nat.ne_of_lt I.big)), [], .nil, _, #[], 0, Heap.get?_push_size _ rfl, ⟨rfl, rfl, rfl⟩, rfl, rfl, List.nodup_nil⟩), rfl, h _ (I.hok.fresh (Nat.le_refl _))⟩⟩
theorem pc_ndin (hu : X.A.units + 64 < cLine) (hi : PE X i ty) (ho : PE X o td) : PC X .In i o (tNDIn X.prog X.w X.K ty td) := by
  refine ⟨fun pins s σ H Q I h => ?_⟩
  refine thn (hi.run pins s σ H _ I h) fun iv s1 ⟨y, H1, I1, ry, q1⟩ => thn (ho.run pins s1 σ H1 _ I1 q1) fun u s2 ⟨x, H2, I2, rx, d, a, ent, k, ex, ey, hd, nk, hk, dk, q2⟩ => ?_
  subst ex ey
  obtain rfl : u = Value.ref d := rx
  obtain rfl : iv = Value.ref a := ry
  obtain ⟨z, hs, xs, rel, dd⟩ := nd_at I2.hok I2.kIn hd nk
  refine wpAny_in_heap (nd_room hu) ⟨NK.is I2.hok I2.kIn _ _ _ hk rfl, dk⟩ hs dd ?_
  have q := (at_rel (k := k) rel).isSome_eq
  rw [Option.isSome_map] at q
  rw [← q]
  exact ⟨.bl (atE ent k).isSome, H2, I2.tok _, rfl, q2⟩
theorem pe_ndget (hu : X.A.units + 64 < cLine) (ho : PE X o td) (hi : PE X i ty) (hs : NoSl i) : PE X (.Subscript o i pos) (tNDGet X.prog X.w X.K td ty) := by
  refine ⟨fun pins s σ H Q I h => ?_⟩
  refine subD_of PySem.F.slot_dict_getitem.lookup hs (thn (ho.run pins s σ H _ I h) fun u s1 ⟨x, H1, I1, rx, q1⟩ => thn (hi.run pins s1 σ H1 _ I1 q1) fun iv s2 ⟨y, H2, I2, ry, d, a, ent, k, v, ex, ey, hd, nk, hk, dk, hat, q2⟩ => ?_)
  subst ex ey
  obtain rfl : u = Value.ref d := rx
  obtain rfl : iv = Value.ref a := ry
  obtain ⟨z, hs, xs, rel, dd⟩ := nd_at I2.hok I2.kIn hd nk
  obtain ⟨w', hw, rw'⟩ := RelO.some_of (v := v) (o := (atKey xs k).map (·.2)) (by rw [← hat]; exact at_rel rel)
  obtain ⟨p, hp, hp2⟩ := Option.map_eq_some_iff.mp hw
  refine ⟨dd.typeIs, wpAny_getItem_heap (nd_room hu) ⟨NK.is I2.hok I2.kIn _ _ _ hk rfl, dk⟩ dd hp ?_⟩
  rw [hp2]
  exact ⟨v, H2, I2.tok _, rw', q2⟩
theorem pe_ndget2 (hu : X.A.units + 64 < cLine) (ho : PE X o td) (he : PE X e ty) (hf : PE X f tx) (m : M2 X o "get" apos e f cpos) : PE X (.Call (.Attribute o "get" apos) [e, f] [] cpos) (tNDGet2 X.prog X.w X.K td ty tx) := by
  refine ⟨fun pins s σ H Q I h => ?_⟩
  refine wpAny_Call_method m.base m.few m.line PySem.F.plainAttrs_dict PySem.F.slot_dict_get PySem.F.type_dict_get (thn (ho.run pins s σ H _ I h) fun u s1 ⟨x, H1, I1, rx, d, ex, ⟨ent1, hd1, nk1⟩, q1⟩ => ?_)
  subst ex
  obtain rfl : u = Value.ref d := rx
  obtain ⟨_, _, xs1, _, dd1⟩ := nd_at I1.hok I1.kIn hd1 nk1
  refine ⟨dd1.typeIs, (fun b q => by
    cases q
    obtain ⟨ob, _, _, h1, h2, _⟩ := dd1
    exact ⟨ob, h1, h2.2.1⟩), ?_⟩
  rw [m.trees]
  refine Calls.callWith_builtin rfl (Calls.evalArgs_plain (Calls.spliced_cons (thn (he.run pins s1 σ H1 _ I1 q1) fun iv s2 ⟨y, H2, I2, ry, q2⟩ =>
    Calls.spliced_cons (thn (hf.run pins s2 σ H2 _ I2 q2) fun fv s3 ⟨z, H3, I3, rz, a, ent, k, ey, hd, nk, hk, dk, q3⟩ => Calls.spliced_nil ?_))))
  subst ey
  obtain rfl : iv = Value.ref a := ry
  obtain ⟨_, hs, xs, rel, dd⟩ := nd_at I3.hok I3.kIn hd nk
  refine call_meetsIn PySem.F.slot_dict_get dd.typeIs PySem.F.entry_dict_get (PySem.F.args_dict_get_3 _ _ _) (meetsH_dict_get_default (nestedKind X.prog X.w) d a hs fv) ⟨nd_room hu, k, xs, ⟨NK.is I3.hok I3.kIn _ _ _ hk rfl, dk⟩, dd, ?_⟩
  exact ⟨_, H3, I3.tok _, (at_rel rel).getD rz, q3⟩
theorem ps_ndput (hu : X.A.units + 64 < cLine) (ho : PE X o td) (hi : PE X i ty) (hv : PE X value tv) (hs : swapsWith value (some (.Subscript o i pos')) pos.line X.env = pure false) :
    PS X (.Assign [.Subscript o i pos'] value pos) (sNDPut X.prog X.w X.K td ty tv) := by
  refine ⟨fun pins s σ H D I h => ?_⟩
  refine wpAny_Assign_Subscript (thn (hv.run pins s σ H _ I h) fun r s1 ⟨v, H1, I1, rv, q1⟩ => thn (ho.run pins s1 σ H1 _ I1 q1) fun u s2 ⟨x, H2, I2, rx, q2⟩ => thn (hi.run pins s2 σ H2 _ I2 q2) fun iv s3 ⟨y, H3, I3, ry, d, a, ent, k, ex, ey, hd, nk, hk, dk, hl, q3⟩ => ?_) hs
  subst ex ey
  obtain rfl : u = Value.ref d := rx
  obtain rfl : iv = Value.ref a := ry
  obtain ⟨z, hs, xs, rel, dd⟩ := nd_at I3.hok I3.kIn hd nk
  have hz : xs.length ≤ sizeLine := by rw [← Paired.length rel]; exact z
  refine wpAny_setItem_heap (hsz := hz) (nd_room hu) ⟨NK.is I3.hok I3.kIn _ _ _ hk rfl, dk⟩ dd fun h' dd' hs' => ?_
  obtain ⟨q, es, ep, hq, h2, h3, h4, _, h5⟩ := dd'
  have I4 : Inv X pins σ (upd H3 d (NDO X.prog X.w d (putE ent k a v))) { s3 with heap := h', toks := s3.toks + (nestedKind X.prog X.w).draws k } :=
    d_write I3 (by rw [hd]; exact True.intro) hs' ⟨q, hq⟩ (ndo_new ⟨hl, hs, _, put_rel rel rv, q, es, ep, hq, h2, h3, h4, h5⟩)
  exact ⟨σ, _, I4, q3⟩
end
end TL
/-! Trylocks, walk T: is_action, check_actions. -/
namespace TL
open PySem PySem.Spec PyProof.Rows L2 Evl C8 RZ LamX NdefX
section
variable {P : Program} {w : World} {K : PySem.W.Frag} {mg : Str → Option Value} {base : Heap}
/-- an action of the book -/
def ActOk (b : TL.Book) : Act → Prop
  | .none => True
  | .try_ a p _ => (0 ≤ a ∧ a ≤ (b.accs : Int) - 1) ∧ 0 ≤ p ∧ p ≤ (b.plcs : Int) - 1
  | .open_ a => 0 ≤ a ∧ a ≤ (b.accs : Int) - 1
/-- the value is an action of the book, or ("open",) -/
def ValOk (K : PySem.W.Frag) (b : TL.Book) (v : V) (H : Hp) (ok : Bool) : Prop := (∃ act, ActAt K act v H ∧ ActOk b act ∧ ok = true) ∨ ((∃ q, v = .ref q ∧ SqT K H q [.str "open"]) ∧ ok = false)
theorem valOk_T {b : TL.Book} {ok : Bool} : StaysT (fun v H => ValOk K b v H ok) := fun v H H' e h => by
  rcases h with ⟨act, h1, h2, h3⟩ | ⟨⟨q, h1, h2⟩, h3⟩
  · exact .inl ⟨act, actAt_T _ _ _ e h1, h2, h3⟩
  · exact .inr ⟨⟨q, h1, e.sq h2⟩, h3⟩
def nIsAct : List Str := ["book", "value"]
theorem sc_isAct : FnScope nIsAct ["book", "value"] (fnScope (top 13)) := fnScope_by (by decide +kernel)
def spIsAct (K : PySem.W.Frag) : Sp := fun vs H Q _ => ∃ (v va : V) (b : TL.Book) (ok : Bool), vs = [v, va] ∧ BookAt K b v H ∧ ValOk K b va H ok ∧ RetV (.bl ok) H Q
theorem ev_lenT {σ : L2.St} {H : Hp} {ta : TE} {p : Addr} {xs : List V} (ha : Ev ta σ H (.ref p)) (h : SqT K H p xs) : Ev (tCB (rLenS K) (tCons ta tNil)) σ H (.int (xs.length : Int)) := fun H1 e Q q =>
  ha H1 e _ fun H2 e2 => ⟨p, xs, rfl, Or.inr (ex_t (e.trans e2) h), q H2 e2⟩
theorem et_truT {σ : L2.St} {H : Hp} {ta : TE} {p : Addr} {xs : List V} (ha : Ev ta σ H (.ref p)) (h : SqT K H p xs) : EvT (fun σ H Q => ta σ H fun x H' => ∃ k, TruV K x H' k ∧ Q k H') σ H (!xs.isEmpty) := fun H1 e Q q =>
  ha H1 e _ fun H2 e2 => ⟨_, .inr (.inl ⟨xs, ex_t (e.trans e2) h, rfl⟩), q H2 e2⟩
theorem ev_isNum {σ : L2.St} {H : Hp} {t1 t2 t3 : TE} {v : V} {lo hi : Int} (h1 : Ev t1 σ H v) (h2 : Ev t2 σ H (.int lo)) (h3 : Ev t3 σ H (.int hi)) (p : Plain K H v) : Ev (tCall (spIsNumber K) [] C8.E0 (tCons t1 (tCons t2 (tCons t3 tNil)))) σ H (.bl (isNum v lo hi)) :=
  ev_callV (ea_cons h1 (ea_cons h2 (ea_cons h3 ea_nil))) fun H1 e Q q E => ⟨v, lo, hi, rfl, p.ex e, q⟩
theorem c_isAct (T : Tx K mg) : Cal P w K mg base 2 "is_action" (spIsAct K) [] := by
  have cN := c_is_number (P := P) (w := w) (base := base) T
  refine calT T.is_action sc_isAct (fun vs H Q E h => ?_) (fun f cdv A outer s H vs Q E hr h => ?_)
  · obtain ⟨v, va, b, ok, rfl, _⟩ := h
    rfl
  · obtain ⟨v, va, b, ok, rfl, hBB, hV, k⟩ := h
    obtain ⟨pb, dx, ra, rfl, hB, rs, hR, hRs⟩ := id hBB
    refine ⟨_, pss_cons (ps_if (pt_cmpR op_isN (pv 1) pe_non (nomark _)) (pss_one (ps_ret pe_bl)) pss_nil)
      (pss_cons (ps_if (PW.pt (pw_or (pt_not (pt_val (pe_callB call_isi rfl (T.fr "isinstance") boot_isinstance (pa_cons (pv 1) (pa_cons (pe_tyn rfl (T.fr "tuple") boot_tuple) pa_nil)))))
          (pw_or (pt_not (pt_truth (pv 1) (fun _ => rfl))) (pw_or1 (pt_not (pt_val (pe_callB call_isi rfl (T.fr "isinstance") boot_isinstance (pa_cons (pe_ix ix_tup (pv 1) pe_int (fun _ _ => rfl)) (pa_cons (pe_tyn rfl (T.fr "str") boot_str) pa_nil))))))))) (pss_one (ps_ret pe_bl)) pss_nil)
      (pss_cons (ps_if (pt_cmpR op_eq (pe_ix ix_tup (pv 1) pe_int (fun _ _ => rfl)) pe_str (nomark _))
          (pss_one (ps_ret (pe_and (pe_cmpR op_eq (pe_callB call_len_seq rfl (T.fr "len") boot_len (pa_cons (pv 1) pa_nil)) pe_int (nomark _)) (pe_one (pe_c cN hr (by decide) rfl (pa_cons (pe_ix ix_tup (pv 1) pe_int (fun _ _ => rfl)) (pa_cons pe_int (pa_cons (pe_op op_sub (pe_fld (pv 0) rfl) pe_int) pa_nil)))))))) pss_nil)
      (pss_cons (ps_if (PW.pt (pw_or (pt_cmpR op_ne (pe_ix ix_tup (pv 1) pe_int (fun _ _ => rfl)) pe_str (nomark _)) (pw_or (pt_cmpR op_ne (pe_callB call_len_seq rfl (T.fr "len") boot_len (pa_cons (pv 1) pa_nil)) pe_int (nomark _))
          (pw_or1 (pt_not (pt_val (pe_callB call_isi rfl (T.fr "isinstance") boot_isinstance (pa_cons (pe_ix ix_tup (pv 1) pe_int (fun _ _ => rfl)) (pa_cons (pe_tyn rfl (T.fr "bool") boot_bool) pa_nil))))))))) (pss_one (ps_ret pe_bl)) pss_nil)
      (pss_one (ps_ret (pe_and (pe_c cN hr (by decide) rfl (pa_cons (pe_ix ix_tup (pv 1) pe_int (fun _ _ => rfl)) (pa_cons pe_int (pa_cons (pe_op op_sub (pe_fld (pv 0) rfl) pe_int) pa_nil)))) (pe_one (pe_c cN hr (by decide) rfl (pa_cons (pe_ix ix_tup (pv 1) pe_int (fun _ _ => rfl)) (pa_cons pe_int (pa_cons (pe_op op_sub (pe_fld (pv 0) rfl) pe_int) pa_nil))))))))))), ?_⟩
    have hs : L2.start nIsAct [.ref pb, va] = [some (.ref pb), some va] := rfl
    rw [hs]
    have isN : ∀ {σ1 : L2.St} {H1 : Hp} {x : V}, σ1[1]? = some (some x) → EvT (tTest (tOp rIsN0 (tVar 1) (tC .non))) σ1 H1 (decide (x = .non)) := fun h => et_op (ev_var h) ev_c rv_isN
    have fst : ∀ {q : Addr} {x : Str} {xs : List V}, va = .ref q → SqT K H q (.str x :: xs) → ∀ {H1 : Hp}, Ex H H1 → Ev (tOp (rIxT K) (tVar 1) (tC (.int 0))) [some (.ref pb), some va] H1 (.str x) := fun e hq _ e1 => by
      subst e
      exact ev_ixT (n := 0) (ev_var rfl) ev_c (ex_t e1 hq) rfl
    have pre : ∀ {q : Addr} {x : Str} {xs : List V} {tz : TS}, va = .ref q → SqT K H q (.str x :: xs) → (∀ H1, Ex H H1 → tz { nx := fun _ H' => Q .non H', rt := Q } [some (.ref pb), some va] H1) → tSeq (tIfS (tTest (tOp rIsN0 (tVar 1) (tC .non))) (tRet (tC (.bl true))) tNext)
        (tSeq (tIfS (tOr (tNot (tB (tCB (rIsi K) (tCons (tVar 1) (tCons (tC (.ty "tuple")) tNil))))) (tOr (tNot (fun σ H Q => tVar 1 σ H fun x H' => ∃ k, TruV K x H' k ∧ Q k H')) (tNot (tB (tCB (rIsi K) (tCons (tOp (rIxT K) (tVar 1) (tC (.int 0))) (tCons (tC (.ty "str")) tNil))))))) (tRet (tC (.bl false))) tNext) tz) { nx := fun _ H' => Q .non H', rt := Q } [some (.ref pb), some va] H := fun e hq hz => by
      have f0 := @fst _ _ _ e hq
      subst e
      refine q_when (b := false) (et_is (isN rfl) rfl) (fun z => by cases z) (fun _ H1 e1 => ?_)
      refine q_when (b := false) (et_or0 (et_is (et_not (et_B (ev_isi (n := "tuple") (b := true) (ev_var rfl) ev_ty (.tup (ex_t e1 hq)) rfl (by decide +kernel)))) rfl) (et_or0 (et_is (et_not (et_truT (ev_var rfl) (ex_t e1 hq))) rfl) (et_is (et_not (et_B (ev_isi (n := "str") (b := true) (f0 e1) ev_ty (.str _) rfl (by decide +kernel)))) rfl))) (fun z => by cases z) (fun _ H2 e2 => ?_)
      exact hz H2 (e1.trans e2)
    have fld : ∀ {H1 : Hp} {σ1 : L2.St} {fn : Str} {n : Nat}, Ex H H1 → σ1[0]? = some (some (.ref pb)) → NoAttr K (bkC K) fn → (bookFs ra b).lookup fn = some (.int n) → Ev (tOp (rI0 fun i j => .int (i - j)) (tFld K (tVar 0) fn) (tC (.int 1))) σ1 H1 (.int ((n : Int) - 1)) := fun e h na hl => ev_sub (ev_fld (ev_var h) (e _ _ hB) T.clsB na hl) ev_c
    rcases hV with ⟨act, hA, hAO, rfl⟩ | ⟨⟨q, rfl, hq⟩, rfl⟩
    · cases act with
      | none =>
        obtain rfl : va = .non := hA
        exact q_when (b := true) (et_is (isN rfl) rfl) (fun _ H1 e1 => s_ret ev_c fun H2 e2 => k H2 (e1.trans e2)) (fun z => by cases z)
      | open_ a =>
        obtain ⟨q, rfl, hq⟩ := hA
        refine pre rfl hq fun H1 e1 => ?_
        refine q_when (b := true) (et_is (et_op (fst rfl hq e1) ev_c (rv_eq rfl)) (by decide)) (fun _ H2 e2 => ?_) (fun z => by cases z)
        have e12 := e1.trans e2
        refine s_ret (v := .bl true) (ev_and1 (ev_is (ev_op (z := .bl _) (ev_lenT (ev_var rfl) (ex_t e12 hq)) ev_c (rv_eq rfl)) rfl) (ev_is (ev_isNum (ev_ixT (n := 1) (ev_var rfl) ev_c (ex_t e12 hq) rfl) ev_c (fld e12 rfl T.naA (bk_accs _ _)) (.int a)) ?_)) fun H3 e3 => k H3 (e12.trans e3)
        show V.bl (decide (0 ≤ a) && decide (a ≤ (b.accs : Int) - 1)) = .bl true
        rw [decide_eq_true hAO.1, decide_eq_true hAO.2]
        rfl
      | try_ a p r =>
        obtain ⟨q, rfl, hq⟩ := hA
        refine pre rfl hq fun H1 e1 => ?_
        refine q_when (b := false) (et_is (et_op (fst rfl hq e1) ev_c (rv_eq rfl)) (by decide)) (fun z => by cases z) (fun _ H2 e2 => ?_)
        have e12 := e1.trans e2
        refine q_when (b := false) (et_or0 (et_is (et_op (fst rfl hq e12) ev_c (rv_ne rfl)) (by decide)) (et_or0 (et_is (et_op (ev_lenT (ev_var rfl) (ex_t e12 hq)) ev_c (rv_ne rfl)) rfl) (et_is (et_not (et_B (ev_isi (n := "bool") (b := true) (ev_ixT (n := 3) (ev_var rfl) ev_c (ex_t e12 hq) rfl) ev_ty (.bl _) rfl (by decide +kernel)))) rfl))) (fun z => by cases z) (fun _ H3 e3 => ?_)
        have e13 := e12.trans e3
        refine s_ret (v := .bl true) (ev_and1 (ev_is (ev_isNum (ev_ixT (n := 1) (ev_var rfl) ev_c (ex_t e13 hq) rfl) ev_c (fld e13 rfl T.naA (bk_accs _ _)) (.int a)) ?_) (ev_is (ev_isNum (ev_ixT (n := 2) (ev_var rfl) ev_c (ex_t e13 hq) rfl) ev_c (fld e13 rfl T.naP (bk_plcs _ _)) (.int p)) ?_)) fun H4 e4 => k H4 (e13.trans e4)
        · show V.bl (decide (0 ≤ a) && decide (a ≤ (b.accs : Int) - 1)) = .bl true
          rw [decide_eq_true hAO.1.1, decide_eq_true hAO.1.2]
          rfl
        · show V.bl (decide (0 ≤ p) && decide (p ≤ (b.plcs : Int) - 1)) = .bl true
          rw [decide_eq_true hAO.2.1, decide_eq_true hAO.2.2]
          rfl
    · refine pre rfl hq fun H1 e1 => ?_
      refine q_when (b := true) (et_is (et_op (fst rfl hq e1) ev_c (rv_eq rfl)) (by decide)) (fun _ H2 e2 => ?_) (fun z => by cases z)
      have e12 := e1.trans e2
      exact s_ret (v := .bl false) (ev_and0 (ev_is (ev_op (z := .bl _) (ev_lenT (ev_var rfl) (ex_t e12 hq)) ev_c (rv_eq rfl)) rfl)) fun H3 e3 => k H3 (e12.trans e3)
end
end TL
/-! Trylocks, walk U: the own errors, check_actions. -/
namespace TL
open PySem PySem.Spec PyProof.Rows L2 Evl C8 RZ LamX NdefX
abbrev bmVE : List Value := [.type "ValueError", .type "Exception", .type "BaseException", .type "object"]
/-- an own error class over ValueError, without __init__ -/
structure ExcAt (K : PySem.W.Frag) (mg : Str → Option Value) (x : Str) (C : Addr) : Prop where
  gC : mg x = some (.ref C)
  kC : PySem.W.keepIn K (.ref C) = true
  ex : PySem.W.excIn K C bmVE "ValueError.__new__" = true
  b : PySem.W.subIn K (.ref C) (.type "BaseException") = some true
  t : PySem.W.typeIn K (.ref C) = some (.type "type")
section
variable {X : Cx}
/-- X() -/
theorem pmk_own0 {C : Addr} {x : Str} {p pos : Pos} (D : ExcAt X.K X.mg x C) (hg : Gl X x) (hdb : (x == ("__debug__" : Str)) = false := by decide) : L2.PMk X (.Call (.Name x p) [] [] pos) (fun _ H Q => Q (.ref C) none H) := by
  intro pins s σ H Q I h
  refine wpAny_Call_Name_kw (ld_glob I hg D.gC ?_ hdb)
  refine PySem.W.callWith_K0 (first := []) I.kIn D.kC ?_
  show wpAny _ _ (call (.ref C) []) _ _ _
  obtain ⟨bm, N, nm, qn, bs, hdct, sn, sub, ab, col, dd, k0, k1, k2, k3, k5, mN, hC, hN, hni, T⟩ := exc_obj I.kIn D.ex
  refine wpAny_call_exc_subT PySem.F.excBase_ValueError T hC hN hni (fun h' e hm => ?_) (Nat.zero_le _)
  exact mk_of I hm (raises_own D.b D.t) h (I.hok.gone hm.new)
theorem ps_raise0 {W : WX} {C : Addr} {x : Str} {p pos pos' : Pos} (hc : X.calm = true) (tk : L2.Takes X W) (D : ExcAt X.K X.mg x C) (hg : Gl X x) (hdb : (x == ("__debug__" : Str)) = false := by decide) : PS X (.Raise (some (.Call (.Name x p) [] [] pos)) none pos') (fun _ σ H => W (.ref C) none σ H) :=
  L2.ps_raise hc tk (pmk_own0 D hg hdb)
end
section
variable {P : Program} {w : World} {K : PySem.W.Frag} {mg : Str → Option Value} {base : Heap}
/-- a def that may raise -/
structure CalX (P : Program) (w : World) (K : PySem.W.Frag) (mg : Str → Option Value) (base : Heap) (k : Nat) (x : Str) (sp : Sp) : Prop where
  ex : ∃ (f : Addr) (fd : FuncData) (ps : List Str), FnOk P w K mg base (L2.CX P w) k f fd ps sp ∧ mg x = some (.ref f) ∧ PySem.W.keepIn K (.ref f) = true ∧ Binds K fd ps []
theorem calX {x : Str} {st : Stmt} {N ps : List Str} {k : Nat} {sp : Sp} (D : DefB K mg x st ps) (S : FnScope N ps (fnScope st)) (len : ∀ vs H Q E, sp vs H Q E → vs.length = ps.length)
    (hbody : ∀ (f : Addr) (cdv : Value) (A : Around) (outer : List Env) (s : Shared) (H : Hp) (vs : List V) (Q : VK) (E : XK), Room k (A.deeper (envOfC x (fnScope st) s.heap.objs.size f cdv)) → sp vs H Q E →
      ∃ t, PSs (cxOf (L2.CX P w) P w K mg base N x (fnScope st) f cdv A outer s H E) (fnBody st) t ∧ t { nx := fun _ H' => Q .non H', rt := Q } (L2.start N vs) H) : CalX P w K mg base (k + 1) x sp := by
  obtain ⟨f, fd, F, b⟩ := D.ex
  obtain ⟨oc, od, dV, kV, doc, pm, an, cdv, ct, osl, rfl, lk, hcd⟩ := F.fn.ex
  exact ⟨f, _, ps, fn_of lk hcd S len fun A outer s H vs Q E hr hsp => hbody f cdv A outer s H vs Q E hr hsp, F.mgf, F.kp, b⟩
theorem pe_cx {X : Cx} {k j : Nat} {x : Str} {sp : Sp} {E : XK} {p pos : Pos} {e : Expr} {es : List Expr} {t : TA} (c : CalX X.prog X.w X.K X.mg X.base k x sp) (hr : Room j X.A) (hk : k ≤ j) (hg : Gl X x) (hx : Passes (L2.CX X.prog X.w) X E) (ha : PA X (e :: es) t)
    (hdb : (x == ("__debug__" : Str)) = false := by decide) (he : starEach (e :: es) X.env = (false, eval e X.env) :: starEach es X.env := by rfl) (hpl : (backTo pos (starEach es X.env)).any (·.1) = false := by rfl) :
    PE X (.Call (.Name x p) (e :: es) [] pos) (tCall sp [] E t) := by
  obtain ⟨f, fd, ps, F, hm, kp, b⟩ := c.ex
  exact pe_call F (hr.mono hk) hg hm kp b .nil hx ha hdb he hpl
/-- a def's own wish takes what its callees let out -/
theorem pass_own {N : List Str} {qual : Str} {scope : Scope} {f : Addr} {cd : Value} {A : Around} {outer : List Env} {s : Shared} {H : Hp} {E : XK} : Passes (L2.CX P w) (cxOf (L2.CX P w) P w K mg base N qual scope f cd A outer s H E) E :=
  L2.passes_call (L2.takes_of rfl rfl rfl rfl) fun _ _ _ _ h => h
/-! ### check_actions -/
def nCheck : List Str := ["book", "values", "value"]
theorem sc_check : FnScope nCheck ["book", "values"] (fnScope (top 14)) := fnScope_by (by decide +kernel)
/-- some of the values are no actions: then it raises -/
def spCheck (K : PySem.W.Frag) (cA : Addr) : Sp := fun vs H Q E => ∃ (v : V) (la : Addr) (b : TL.Book) (avs : List V) (oks : List Bool), vs = [v, .ref la] ∧ BookAt K b v H ∧ SqL K H la avs ∧ avs.length < 1000 ∧ Paired (fun v ok => ValOk K b v H ok) avs oks ∧
  (oks.all id = true → RetV .non H Q) ∧ (oks.all id = false → ∀ H', Ex H H' → E (.ref cA) none H')
theorem ev_all {σ : L2.St} {H : Hp} {te : TE} {bs : List Bool} (h : ErL te σ H (fun ws _ => ws = bs.map V.bl)) : Ev (tCB (rAll K) (tCons te tNil)) σ H (.bl (bs.all id)) := fun H1 e Q q =>
  h H1 e _ fun p vs H2 hp e2 hl hs => ⟨p, bs, rfl, by rw [← hs]; exact sq_of hl, q H2 e2⟩
theorem c_check (T : Tx K mg) {cA : Addr} (DA : ExcAt K mg "BadAction" cA) : CalX P w K mg base 3 "check_actions" (spCheck K cA) := by
  have cI := c_isAct (P := P) (w := w) (base := base) T
  refine calX T.check_actions sc_check (fun vs H Q E h => ?_) (fun f cdv A outer s H vs Q E hr h => ?_)
  · obtain ⟨v, la, b, avs, oks, rfl, _⟩ := h
    rfl
  · obtain ⟨v, la, b, avs, oks, rfl, hBB, hL, hlen, hP, k1, k2⟩ := h
    have nd := sc_check.nd
    refine ⟨_, pss_one (ps_if (pt_not (pt_val (pe_callB (r := rAll K) (cr_all rfl) rfl (T.fr "all") (by decide +kernel) (pa_cons (pe_lc (own := [("value", 2)]) (g := gName 2) (tt := tYes) rfl nd (pi_list (pv 1))
      (blkOk_by (N := nCheck) (sc := fnScope (top 14)) (by decide +kernel)) (fun _ _ _ _ _ => pg_name (i := 2) nd rfl (Or.inl rfl)) (fun _ _ _ _ _ => pts_nil) (fun _ _ _ _ _ => pe_c cI hr (by decide) rfl (pa_cons (pv 0) (pa_cons (pv 2) pa_nil)))) pa_nil))))
      (pss_one (ps_raise0 rfl (L2.takes_of rfl rfl rfl rfl) DA rfl)) pss_nil), ?_⟩
    have hs : L2.start nCheck [v, .ref la] = [some v, some (.ref la), none] := rfl
    rw [hs]
    have hall := ev_all (K := K) (σ := [some v, some (.ref la), none]) (H := H) (bs := oks) (te := tLc (iList K (tVar 1)) (gName 2) tYes (tCall (spIsAct K) [] C8.E0 (tCons (tVar 0) (tCons (tVar 2) tNil))) [2]) (fun H1 e Q q =>
      er_lc (n := avs.length) (S := fun i v H => ∀ ok, oks[i]? = some ok → v = .bl ok) (eri_lst (K := K) (ev_var rfl) hL) yes_ok (fun i v H H' e h => h) (by omega) (by
        rintro i x H2 H3 C hi e ⟨rfl, hx⟩ kC
        refine kC _ rfl (Ex.refl _) ?_
        obtain ⟨ok, ho1, ho2⟩ := paired_get hP hx
        refine Er.imp (er_of (ev_callV (z := .bl ok) (ea_cons (ev_var rfl) (ea_cons (ev_var rfl) ea_nil)) fun H4 e4 Q q E => ⟨v, x, b, ok, rfl, bookAt_st _ _ _ (e.trans e4) hBB, valOk_T _ _ _ (exT (e.trans e4)) ho2, q⟩)) fun v H4 e4 h ok' h' => ?_
        rw [ho1] at h'
        cases h'
        exact h) H1 e Q fun lp ws H2 hp e2 hw ⟨h1, h2⟩ => q lp ws H2 hp e2 hw (by
        have hl : avs.length = oks.length := Paired.length hP
        refine list_of_get (by simp [h1, hl]) fun i hi => ?_
        have hi : i < oks.length := by simpa using hi
        obtain ⟨u, g1, g2⟩ := h2 i (by omega)
        rw [g1, List.getElem?_map, List.getElem?_eq_getElem hi]
        rw [g2 _ (List.getElem?_eq_getElem hi)]
        rfl))
    cases ho : oks.all id with
    | true => exact s_when (b := false) (et_is (et_not (et_B hall)) (by rw [ho]; rfl)) (fun z => by cases z) (fun _ H1 e1 => k1 ho H1 e1)
    | false => exact s_when (b := true) (et_is (et_not (et_B hall)) (by rw [ho]; rfl)) (fun _ H1 e1 => k2 ho H1 e1) (fun z => by cases z)
end
end TL
/-! Trylocks, walk V: every. -/
namespace TL
open PySem PySem.Spec PyProof.Rows L2 Evl C8 RZ LamX NdefX
/-! ### rounds, plain -/
/-- the standing ahead of the n-th round -/
def stN (b : TL.Book) (gap : Int) (acts : List Act) : Nat → Stand
  | 0 => firstStand b
  | n + 1 => (roundOf b gap (stN b gap acts n) acts).2
/-- what was told in the first n rounds -/
def totN (b : TL.Book) (gap : Int) (acts : List Act) : Nat → Cnt
  | 0 => fun _ => 0
  | n + 1 => fun u => totN b gap acts n u + (roundOf b gap (stN b gap acts n) acts).1 u
/-- what every answers -/
def everyP (b : TL.Book) (gap : Int) (acts : List Act) (many : Nat) : Cnt := fun u => totN b gap acts (many / acts.length) u + (roundOf b gap (stN b gap acts (many / acts.length)) (acts.take (many % acts.length))).1 u
theorem st_cycle {b : TL.Book} {gap : Int} {acts : List Act} {i n : Nat} (h : stN b gap acts i = stN b gap acts n) : ∀ k, stN b gap acts (i + k) = stN b gap acts (n + k)
  | 0 => h
  | k + 1 => by
    show (roundOf b gap (stN b gap acts (i + k)) acts).2 = (roundOf b gap (stN b gap acts (n + k)) acts).2
    rw [st_cycle h k]
theorem tot_cycle {b : TL.Book} {gap : Int} {acts : List Act} {i n : Nat} (h : stN b gap acts i = stN b gap acts n) (u : Told) : ∀ k, totN b gap acts (n + k) u - totN b gap acts n u = totN b gap acts (i + k) u - totN b gap acts i u
  | 0 => by show totN b gap acts n u - totN b gap acts n u = totN b gap acts i u - totN b gap acts i u; omega
  | k + 1 => by
    have ih := tot_cycle h u k
    show totN b gap acts (n + k) u + (roundOf b gap (stN b gap acts (n + k)) acts).1 u - totN b gap acts n u = totN b gap acts (i + k) u + (roundOf b gap (stN b gap acts (i + k)) acts).1 u - totN b gap acts i u
    rw [st_cycle h k]
    omega
/-- times turns of the ring -/
theorem ring {b : TL.Book} {gap : Int} {acts : List Act} {i n : Nat} (hin : i ≤ n) (h : stN b gap acts i = stN b gap acts n) : ∀ t : Nat, stN b gap acts (n + t * (n - i)) = stN b gap acts n ∧ ∀ u, totN b gap acts (n + t * (n - i)) u = totN b gap acts n u + (totN b gap acts n u - totN b gap acts i u) * t
  | 0 => by
    rw [Nat.zero_mul, Nat.add_zero]
    exact ⟨rfl, fun u => by simp⟩
  | t + 1 => by
    obtain ⟨h1, h2⟩ := ring hin h t
    have e : n + (t + 1) * (n - i) = n + t * (n - i) + (n - i) := by rw [Nat.add_mul, Nat.one_mul]; omega
    have e0 : i + (n - i) = n := by omega
    refine ⟨?_, fun u => ?_⟩
    · rw [e, st_cycle h1 (n - i), ← st_cycle h (n - i), e0]
    · have q1 := tot_cycle (i := n) (n := n + t * (n - i)) h1.symm u (n - i)
      have q2 := tot_cycle h u (n - i)
      rw [e0] at q2
      rw [e]
      have q3 := h2 u
      have q4 : (totN b gap acts n u - totN b gap acts i u) * ((t + 1 : Nat) : Int) = (totN b gap acts n u - totN b gap acts i u) * (t : Int) + (totN b gap acts n u - totN b gap acts i u) := by
        rw [show ((t + 1 : Nat) : Int) = (t : Int) + 1 from by omega, Int.mul_add, Int.mul_one]
      omega
theorem fits_st {b : TL.Book} {gap : Int} {acts : List Act} : ∀ n, Fits b (stN b gap acts n)
  | 0 => fits_first b
  | n + 1 => fits_round acts _ (fits_st n)
theorem str_st {b : TL.Book} {gap : Int} {acts : List Act} : ∀ n, StrOk (stN b gap acts n)
  | 0 => str_first b
  | n + 1 => str_round acts _ (str_st n)
/-! ### standings as keys -/
def pkey (x : Part) : NestedKey := .tup [.num x.count, .num x.age, .num x.left, .num x.whole, .num x.streak]
def skey (σ : Stand) : NestedKey := .tup (σ.map fun ps => .tup (ps.map pkey))
theorem map_inj {α β : Type} {f : α → β} (h : ∀ x y, f x = f y → x = y) : ∀ {l m : List α}, l.map f = m.map f → l = m
  | [], [], _ => rfl
  | [], _ :: _, e => by cases e
  | _ :: _, [], e => by cases e
  | x :: l, y :: m, e => by
    rw [List.map_cons, List.map_cons] at e
    injection e with e1 e2
    rw [h _ _ e1, map_inj h e2]
theorem pkey_inj (x y : Part) (h : pkey x = pkey y) : x = y := by
  unfold pkey at h
  injection h with h
  injection h with h1 h
  injection h with h2 h
  injection h with h3 h
  injection h with h4 h
  injection h with h5 h
  injection h1 with h1
  injection h2 with h2
  injection h3 with h3
  injection h4 with h4
  injection h5 with h5
  obtain ⟨c, a, l, w, s⟩ := x
  obtain ⟨c', a', l', w', s'⟩ := y
  dsimp only at h1 h2 h3 h4 h5
  rw [h1, h2, h3, h4, h5]
theorem skey_inj {σ τ : Stand} (h : skey σ = skey τ) : σ = τ := by
  unfold skey at h
  injection h with h
  refine map_inj (fun x y e => ?_) h
  injection e with e
  exact map_inj pkey_inj e
theorem depthAll_le {n : Nat} : ∀ {ks : List NestedKey}, (∀ k ∈ ks, k.depth ≤ n) → NestedKey.depthAll ks ≤ n
  | [], _ => by unfold NestedKey.depthAll; exact Nat.zero_le _
  | k :: ks, h => by
    unfold NestedKey.depthAll
    exact Nat.max_le.mpr ⟨h k (List.mem_cons_self ..), depthAll_le fun k' hk => h k' (List.mem_cons_of_mem _ hk)⟩
theorem depth_tup {n : Nat} {ks : List NestedKey} (h : ∀ k ∈ ks, k.depth ≤ n) : (NestedKey.tup ks).depth ≤ n + 1 := by
  unfold NestedKey.depth
  exact Nat.succ_le_succ (depthAll_le h)
theorem num_depth (i : Int) : (NestedKey.num i).depth ≤ 0 := by unfold NestedKey.depth; exact Nat.le_refl _
theorem skey_depth (σ : Stand) : (skey σ).depth ≤ 8 := by
  refine Nat.le_trans (depth_tup (n := 2) fun k hk => ?_) (by decide)
  obtain ⟨ps, _, rfl⟩ := List.mem_map.mp hk
  refine depth_tup (n := 1) fun k hk => ?_
  obtain ⟨x, _, rfl⟩ := List.mem_map.mp hk
  refine depth_tup (n := 0) fun k hk => ?_
  simp only [List.mem_cons, List.not_mem_nil, or_false] at hk
  rcases hk with rfl | rfl | rfl | rfl | rfl <;> exact num_depth _
theorem nk_all {α : Type} {K : PySem.W.Frag} {H : Hp} {F : α → V → Prop} {f : α → NestedKey} (h : ∀ a v, F a v → NK K H (f a) v) : ∀ {vs : List V} {l : List α}, Paired (fun v a => F a v) vs l → NKAll K H (l.map f) vs
  | _, _, .nil => .nil
  | _, _, .cons r t => .cons (h _ _ r) (nk_all h t)
theorem nk_stand {K : PySem.W.Frag} {H : Hp} {σ : Stand} {v : V} (h : StandAt K σ v H) : NK K H (skey σ) v := by
  obtain ⟨a, vs, rfl, s, p⟩ := h
  refine .tup s (nk_all (F := fun ps v => PartsAt K ps v H) (fun ps v ⟨a, vs, e, s, p⟩ => ?_) p)
  subst e
  refine .tup s (nk_all (F := fun x v => PartAt K x v H) (fun x v ⟨a, e, s⟩ => ?_) p)
  subst e
  exact .tup s (.cons (.int _) (.cons (.int _) (.cons (.int _) (.cons (.int _) (.cons (.int _) .nil)))))
/-- no more distinct ones than there are -/
theorem nodup_le {α : Type} [DecidableEq α] : ∀ {l m : List α}, l.Nodup → (∀ x ∈ l, x ∈ m) → l.length ≤ m.length
  | [], _, _, _ => Nat.zero_le _
  | x :: l, m, nd, h => by
    have hx := h x (List.mem_cons_self ..)
    have nd' := List.nodup_cons.mp nd
    have q := nodup_le (l := l) (m := m.erase x) nd'.2 fun y hy => (List.mem_erase_of_ne (fun e => nd'.1 (by rw [← e]; exact hy))).mpr (h y (List.mem_cons_of_mem _ hy))
    rw [List.length_erase_of_mem hx] at q
    have : 0 < m.length := List.length_pos_of_mem hx
    rw [List.length_cons]
    omega
/-! ### what stays while tables and keyed dicts change -/
def softO : HO → Bool
  | .ext _ => true
  | .tbl _ => true
  | _ => false
def ExtQ (H H' : Hp) : Prop := ∀ a o, H a = some o → softO o = false → H' a = some o
theorem ExtQ.of_N {H H' : Hp} (e : ExtN H H') : ExtQ H H' := fun a o h n => e a o h fun ps z => by
  rw [z] at n
  cases n
theorem ExtQ.of {H H' : Hp} (e : Ex H H') : ExtQ H H' := fun a o h _ => e a o h
theorem ExtQ.trans {H H1 H2 : Hp} (a : ExtQ H H1) (b : ExtQ H1 H2) : ExtQ H H2 := fun x o h n => b x o (a x o h n) n
theorem ExtQ.upd {H : Hp} {p : Addr} {o u : HO} (h : H p = some o) (hs : softO o = true) : ExtQ H (upd H p u) := fun a o' e n => by
  by_cases q : a = p
  · subst q
    rw [h] at e
    cases e
    rw [hs] at n
    cases n
  · rw [upd_ne q]
    exact e
theorem ExtQ.t {H H' : Hp} (e : ExtQ H H') : ExT H H' := fun a o h n => e a o h (by cases o <;> first | rfl | cases n)
theorem cntAt_Q {c : Cnt} {v : V} {H H' : Hp} (e : ExtQ H H') (h : CntAt c v H) : CntAt c v H' := let ⟨p, h1, h2⟩ := h; ⟨p, h1, e _ _ h2 rfl⟩
theorem sqL_Q {K : PySem.W.Frag} {a : Addr} {xs : List V} {H H' : Hp} (e : ExtQ H H') (h : SqL K H a xs) : SqL K H' a xs := by
  rcases h with (h | ⟨o, h⟩) | h
  · exact .inl (.inl (e _ _ h rfl))
  · exact .inl (.inr ⟨o, e _ _ h rfl⟩)
  · exact .inr h
theorem actsAt_Q {K : PySem.W.Frag} {acts : List Act} {a : Addr} {H H' : Hp} (e : ExtQ H H') (h : ActsAt K acts a H) : ActsAt K acts a H' := let ⟨vs, s, p⟩ := h; ⟨vs, sqL_Q e s, Paired.mapP p fun v x q => actAt_T _ _ _ e.t q⟩
/-- a keyed dict is no code object -/
theorem ndo_ne_code {P : Program} {w : World} {d c : Addr} {ent : List NEnt} {q : Str} : NDO P w d ent ≠ CodeO c q := fun z => by
  have e : NDphi P w d ent = fun h : Heap => ∃ (oc : Obj) (vs : Array Value) (t : Tok), h.get? c = some oc ∧ oc.data = .fields vs ∧ vs[1]? = some (.str q t) := by
    unfold NDO CodeO at z
    injection z
  generalize ho : ({ cls := .none, data := .fields #[.none, .str q 0] } : Obj) = ob
  have get : ∀ x o, (Heap.mk (Array.replicate (c + 1) ob) {}).get? x = some o → o = ob := fun x o hx => by
    unfold Heap.get? at hx
    rw [Array.getElem?_replicate] at hx
    split at hx
    · cases hx
    · split at hx
      · exact (Option.some.inj hx).symm
      · cases hx
  have hc : (Heap.mk (Array.replicate (c + 1) ob) {}).get? c = some ob := by
    unfold Heap.get?
    rw [Array.getElem?_replicate, if_pos (Nat.lt_succ_self c), ← ho]
  have q1 : NDphi P w d ent (Heap.mk (Array.replicate (c + 1) ob) {}) := by
    rw [e]
    exact ⟨ob, _, 0, hc, by rw [← ho], rfl⟩
  obtain ⟨_, _, _, _, o, es, ep, h1, _, h3, _⟩ := q1
  have h4 := get _ _ h1
  subst h4
  rw [← ho] at h3
  cases h3
theorem ndo_ne_tbl {P : Program} {w : World} {d : Addr} {ent : List NEnt} (ps : Array Value) : NDO P w d ent ≠ .tbl ps := fun z => by
  unfold NDO at z
  cases z
/-! ### what seen holds -/
def SeenOk (K : PySem.W.Frag) (st : Nat → Stand) (tot : Nat → Cnt) (n : Nat) (ent : List NEnt) (H : Hp) : Prop := NKs K H ent ∧ (ent.map (·.1)).Nodup ∧ ∀ p ∈ ent, ∃ i, i < n ∧ p.1 = skey (st i) ∧ ∃ q dv, p.2.2 = .ref q ∧ SqT K H q [.int (i : Int), dv] ∧ CntAt (tot i) dv H
theorem SeenOk.mono {K : PySem.W.Frag} {st : Nat → Stand} {tot : Nat → Cnt} {n : Nat} {ent : List NEnt} {H H' : Hp} (e : ExtQ H H') (h : SeenOk K st tot n ent H) : SeenOk K st tot n ent H' :=
  ⟨h.1.mono e.t, h.2.1, fun p hp => let ⟨i, h1, h2, q, dv, h3, h4, h5⟩ := h.2.2 p hp; ⟨i, h1, h2, q, dv, h3, e.t.sq h4, cntAt_Q e h5⟩⟩
theorem SeenOk.nil {K : PySem.W.Frag} {st : Nat → Stand} {tot : Nat → Cnt} {n : Nat} {H : Hp} : SeenOk K st tot n [] H := ⟨(fun p hp => nomatch hp), List.nodup_nil, (fun p hp => nomatch hp)⟩
theorem at_mem {ent : List NEnt} {k : NestedKey} {v : V} (h : atE ent k = some v) : ∃ p ∈ ent, p.1 = k ∧ p.2.2 = v := by
  unfold atE at h
  obtain ⟨p, hp, e⟩ := Option.map_eq_some_iff.mp h
  exact ⟨p, List.mem_of_find?_eq_some hp, by simpa using List.find?_some hp, e⟩
theorem at_none {ent : List NEnt} {k : NestedKey} (h : atE ent k = none) : k ∉ ent.map (·.1) := fun hm => by
  obtain ⟨p, hp, e⟩ := List.mem_map.mp hm
  unfold atE at h
  rw [Option.map_eq_none_iff, List.find?_eq_none] at h
  exact h p hp (decide_eq_true e)
theorem put_new {ent : List NEnt} {k : NestedKey} (h : atE ent k = none) (a : Addr) (v : V) : putE ent k a v = ent ++ [(k, a, v)] := by
  unfold putE
  rw [h]
  rfl
theorem SeenOk.put {K : PySem.W.Frag} {st : Nat → Stand} {tot : Nat → Cnt} {n : Nat} {ent : List NEnt} {H : Hp} {a q : Addr} {vT : V} (h : SeenOk K st tot n ent H) (hn : atE ent (skey (st n)) = none) (hk : NK K H (skey (st n)) (.ref a)) (hq : SqT K H q [.int (n : Int), vT]) (hT : CntAt (tot n) vT H) : SeenOk K st tot (n + 1) (putE ent (skey (st n)) a (.ref q)) H := by
  refine ⟨putE_nk h.1 hk (skey_depth _), ?_, fun p hp => ?_⟩
  · rw [put_new hn, List.map_append]
    exact List.nodup_append.mpr ⟨h.2.1, by simp, fun x hx y hy e => at_none hn (by
      rw [List.map_cons, List.map_nil, List.mem_singleton] at hy
      have hy' : y = skey (st n) := hy
      rw [← hy', ← e]
      exact hx)⟩
  · rw [put_new hn] at hp
    rcases List.mem_append.mp hp with z | z
    · obtain ⟨i, h1, h2⟩ := h.2.2 p z
      exact ⟨i, by omega, h2⟩
    · rw [List.mem_singleton.mp z]
      exact ⟨n, by omega, rfl, q, vT, rfl, hq, hT⟩
theorem SeenOk.len {K : PySem.W.Frag} {st : Nat → Stand} {tot : Nat → Cnt} {n : Nat} {ent : List NEnt} {H : Hp} {Z : List Stand} (h : SeenOk K st tot n ent H) (hZ : ∀ i, st i ∈ Z) : ent.length ≤ Z.length := by
  have q := nodup_le (m := Z.map skey) h.2.1 fun x hx => by
    obtain ⟨p, hp, e⟩ := List.mem_map.mp hx
    obtain ⟨i, _, e2, _⟩ := h.2.2 p hp
    rw [← e, e2]
    exact List.mem_map.mpr ⟨_, hZ i, rfl⟩
  rw [List.length_map, List.length_map] at q
  exact q
end TL
/-! Trylocks, walk Y: every. -/
namespace TL
open PySem PySem.Spec PyProof.Rows L2 Evl C8 RZ LamX NdefX
section
variable {P : Program} {w : World} {K : PySem.W.Frag} {mg : Str → Option Value} {base : Heap}
/-- what every and the rest lean on, further -/
structure Ty (K : PySem.W.Frag) (mg : Str → Option Value) (cS cA cM : Addr) : Prop where
  T : Tx K mg
  S : StepD K mg cS
  A : ExcAt K mg "BadAction" cA
  M : ExcAt K mg "BadMoment" cM
  one : DefB K mg "one_round" (top 34) ["book", "standing", "actions", "gap"]
  added : DefB K mg "added" (top 35) ["one", "other", "times"]
  every : DefB K mg "every" (top 36) ["book", "actions", "gap", "many"]
def nEvery : List Str := ["book", "actions", "gap", "many", "rounds", "rest", "standing", "total", "seen", "done", "before", "earlier", "times", "found", "word"]
theorem sc_every : FnScope nEvery ["book", "actions", "gap", "many"] (fnScope (top 36)) := fnScope_by (by decide +kernel)
/-- how a call of every ends -/
inductive EvMode (P : Program) (w : World) (K : PySem.W.Frag) (Pt cA cM : Addr) (b : TL.Book) (la : Addr) (avs : List V) (oks : List Bool) (vg : V) (many : Nat) (H : Hp) (Q : VK) (E : XK) : Prop where
  | badAct (h : oks.all id = false) (k : ∀ H', Ex H H' → E (.ref cA) none H')
  | noAct (h : oks.all id = true) (h2 : avs = []) (k : ∀ H', Ex H H' → E (.ref cA) none H')
  | badMom (h : oks.all id = true) (h2 : avs ≠ []) (h3 : isNum vg 1 1000000000 = false) (k : ∀ H', Ex H H' → E (.ref cM) none H')
  | good (acts : List Act) (g : Int) (Z : List Stand) (h : oks.all id = true) (h2 : acts ≠ []) (h3 : Paired (fun v x => ActAt K x v H) avs acts) (hg : vg = .int g) (hg1 : 1 ≤ g) (hg2 : g ≤ 1000000000) (hm : many < 2 ^ 62) (hZ : Z.length < sizeLine) (hst : ∀ n, stN b g acts n ∈ Z)
      (k : ∀ v H', ExtQ H H' → Tabs (tabsOf Pt) H' → CntAt (everyP b g acts many) v H' → Q v H')
def spEvery (P : Program) (w : World) (K : PySem.W.Frag) (Pt cA cM : Addr) : Sp := fun vs H Q E => ∃ (v vg : V) (la : Addr) (b : TL.Book) (many : Nat) (avs : List V) (oks : List Bool), vs = [v, .ref la, vg, .int many] ∧ BookAt K b v H ∧ BookOk2 b ∧ SqL K H la avs ∧ avs.length < 1000 ∧ Paired (fun v ok => ValOk K b v H ok) avs oks ∧
  Plain K H vg ∧ Tabs (tabsOf Pt) H ∧ EvMode P w K Pt cA cM b la avs oks vg many H Q E
theorem hu64' {k : Nat} {A : Around} (hr : Room k A) : A.units + 64 < cLine := hr.units
theorem q_dropRaw {σ : L2.St} {H : Hp} {te : TE} {tz : TS} {D : Ends} (h : te σ H fun _ H1 => tz D σ H1) : tSeq (tDrop te) tz D σ H := h
theorem q_parRaw {σ : L2.St} {H : Hp} {ta : TA} {tz : TS} {D : Ends} {i j : Nat} {x y : V} (h : EvA ta σ H [x, y]) (k : ∀ H1, Ex H H1 → tz D ((σ.set i (some x)).set j (some y)) H1) : tSeq (tPar i j ta) tz D σ H := h H (Ex.refl H) _ fun H1 e => ⟨x, y, rfl, k H1 e⟩
theorem q_new {σ : L2.St} {H : Hp} {tz : TS} {D : Ends} {i : Nat} (k : ∀ d, H d = none → tz D (σ.set i (some (.ref d))) (upd H d (NDO P w d []))) : tSeq (tAsg (tNDNew P w) (gName i)) tz D σ H := fun d hd => k d hd
theorem cutK {σ : L2.St} {H : Hp} {ts tz : TS} {D : Ends} {M : L2.St → Hp → Prop} (kM : ∀ σ' H', M σ' H' → tz D σ' H') (h : (∀ σ' H', M σ' H' → tz D σ' H') → tSeq ts tz D σ H) : tSeq ts tz D σ H := h kM
theorem q_asgPair {σ : L2.St} {H : Hp} {te : TE} {tz : TS} {D : Ends} {i j : Nat} {R : V → V → Hp → Prop} (h : ∀ Q : VK, (∀ p x y H2, SqT K H2 p [x, y] → R x y H2 → Q (.ref p) H2) → te σ H Q) (k : ∀ x y H2, R x y H2 → tz D ((σ.set i (some x)).set j (some y)) H2) : tSeq (tAsg te (gTup K 2 (gCons (gName i) (gCons (gName j) gNil)))) tz D σ H := h _ fun p x y H2 s r => ⟨p, _, rfl, s, rfl, x, _, rfl, y, _, rfl, rfl, k x y H2 r⟩
/-- what holds at the loop's head -/
structure EvI (P : Program) (w : World) (K : PySem.W.Frag) (Pt : Addr) (b : TL.Book) (g : Int) (acts : List Act) (H : Hp) (n : Nat) (vS vT : V) (d : Addr) (ent : List NEnt) (H' : Hp) : Prop where
  eN : ExtQ H H'
  tab : Tabs (tabsOf Pt) H'
  hS : StandAt K (stN b g acts n) vS H'
  hT : CntAt (totN b g acts n) vT H'
  hd : H' d = some (NDO P w d ent)
  sk : SeenOk K (stN b g acts) (totN b g acts) n ent H'
theorem EvI.mono {Pt : Addr} {b : TL.Book} {g : Int} {acts : List Act} {H : Hp} {n : Nat} {vS vT : V} {d : Addr} {ent : List NEnt} {H1 H2 : Hp} (e : Ex H1 H2) (I : EvI P w K Pt b g acts H n vS vT d ent H1) : EvI P w K Pt b g acts H n vS vT d ent H2 :=
  ⟨I.eN.trans (ExtQ.of e), I.tab.ext e, standAt_st _ _ _ e I.hS, cntAt_st _ _ _ e I.hT, e _ _ I.hd, I.sk.mono (ExtQ.of e)⟩
theorem paired_take {α β : Type} {F : α → β → Prop} : ∀ (n : Nat) {l : List α} {m : List β}, Paired F l m → Paired F (l.take n) (m.take n)
  | 0, _, _, _ => by rw [List.take_zero, List.take_zero]; exact .nil
  | n + 1, _, _, .nil => by rw [List.take_nil, List.take_nil]; exact .nil
  | n + 1, _, _, .cons r t => by rw [List.take_succ_cons, List.take_succ_cons]; exact .cons r (paired_take n t)
theorem cut_take {xs : List V} {n : Nat} (h : n ≤ xs.length) : cutV xs none (some (n : Int)) = xs.take n := by
  unfold cutV
  rw [HT.sIx_none, HT.sIx_nat, List.drop_zero, Nat.sub_zero, Nat.min_eq_left h]
theorem q_ndput {σ : L2.St} {H : Hp} {tz : TS} {D : Ends} {i j m l : Nat} {d a : Addr} {x y : V} {ent : List NEnt} {k : NestedKey} (h1 : σ[i]? = some (some (.ref d))) (h2 : σ[j]? = some (some (.ref a))) (h3 : σ[m]? = some (some x)) (h4 : σ[l]? = some (some y)) (hd : H d = some (NDO P w d ent)) (nk : NKs K H ent) (hk : NK K H k (.ref a)) (dk : k.depth ≤ 8) (hl : ent.length < sizeLine)
    (kont : ∀ q, H q = none → tz D σ (upd (upd H q (.tup [x, y])) d (NDO P w d (putE ent k a (.ref q))))) : tSeq (sNDPut P w K (tVar i) (tVar j) (tTup (tCons (tVar m) (tCons (tVar l) tNil)))) tz D σ H :=
  ⟨_, h3, _, h4, sz_of (by show 2 ≤ 100000; decide), fun q hq => ⟨_, h1, _, h2, d, a, ent, k, rfl, rfl, Ex.new hq _ _ hd, nk.mono (exT (Ex.new hq)), NK.mono (exT (Ex.new hq)) _ _ hk, dk, Nat.le_trans (putE_len _ _ _ _) hl, kont q hq⟩⟩
theorem er_added {σ : L2.St} {H : Hp} {t1 t2 t3 : TE} {c1 c2 : Cnt} {n : Int} (h1 : Er t1 σ H (CntAt c1)) (h2 : Er t2 σ H (CntAt c2)) (h3 : Ev t3 σ H (.int n)) (hn : -(2 ^ 64) < n ∧ n < 2 ^ 64) : Er (tCall spAdded [] C8.E0 (tCons t1 (tCons t2 (tCons t3 tNil)))) σ H (CntAt (addC c1 c2 n)) := fun H1 e Q q =>
  h1 H1 e _ fun v1 H2 e2 r1 => h2 H2 (e.trans e2) _ fun v2 H3 e3 r2 => h3 H3 ((e.trans e2).trans e3) _ fun H4 e4 => ⟨v1, v2, c1, c2, n, rfl, cntAt_st _ _ _ (e3.trans e4) r1, cntAt_st _ _ _ e4 r2, hn, fun v H5 e5 r => q v H5 (((e2.trans e3).trans e4).trans e5) r⟩
theorem er_cnt {σ : L2.St} {H : Hp} {i : Nat} {v : V} {c : Cnt} (h : σ[i]? = some (some v)) (hc : CntAt c v H) : Er (tVar i) σ H (CntAt c) := fun H1 e Q q => ⟨v, h, q v H1 (Ex.refl H1) (cntAt_st _ _ _ e hc)⟩
theorem et_truL {σ : L2.St} {H : Hp} {ta : TE} {p : Addr} {xs : List V} (ha : Ev ta σ H (.ref p)) (h : SqL K H p xs) : EvT (fun σ H Q => ta σ H fun x H' => ∃ k, TruV K x H' k ∧ Q k H') σ H (!xs.isEmpty) := fun H1 e Q q =>
  ha H1 e _ fun H2 e2 => ⟨_, .inl ⟨xs, ex_l (e.trans e2) h, rfl⟩, q H2 e2⟩
theorem ev_lenS {σ : L2.St} {H : Hp} {ta : TE} {p : Addr} {xs : List V} (ha : Ev ta σ H (.ref p)) (h : SqL K H p xs) : Ev (tCB (rLenS K) (tCons ta tNil)) σ H (.int (xs.length : Int)) := ev_len ha h
theorem et_ndin {σ : L2.St} {H : Hp} {i j : Nat} {a d : Addr} {ent : List NEnt} {k : NestedKey} (hi : σ[i]? = some (some (.ref a))) (hj : σ[j]? = some (some (.ref d))) (hd : H d = some (NDO P w d ent)) (nk : NKs K H ent) (hk : NK K H k (.ref a)) (dk : k.depth ≤ 8) : EvT (tTest (tNDIn P w K (tVar i) (tVar j))) σ H (atE ent k).isSome := fun H1 e Q q =>
  ⟨_, hi, _, hj, d, a, ent, k, rfl, rfl, e _ _ hd, nk.mono (exT e), NK.mono (exT e) _ _ hk, dk, _, rfl, q H1 (Ex.refl H1)⟩
theorem c_every {cS Pt cA cM : Addr} (Y : Ty K mg cS cA cM) (TB : TabB base mg cS Pt) : CalX P w K mg base 7 "every" (spEvery P w K Pt cA cM) := by
  have T := Y.T
  have cC := c_check (P := P) (w := w) (base := base) T Y.A
  have cN := c_is_number (P := P) (w := w) (base := base) T
  have cF := c_first (P := P) (w := w) (base := base) T
  have cO := c_one (P := P) (w := w) (base := base) T TB Y.S Y.one
  have cD := c_added (P := P) (w := w) (base := base) T Y.added
  refine calX Y.every sc_every (fun vs H Q E h => ?_) (fun f cdv A outer s H vs Q E hr h => ?_)
  · obtain ⟨v, vg, la, b, many, avs, oks, rfl, _⟩ := h
    rfl
  · obtain ⟨v, vg, la, b, many, avs, oks, rfl, hBB, hok, hL, hlen, hP, hG, hTab, hMode⟩ := h
    obtain ⟨aW, gW, hW⟩ := words_T T
    obtain ⟨tW, gWd⟩ := T.widest
    have nd := sc_every.nd
    have hu := hu64' hr
    refine ⟨_, pss_cons (ps_expr (pe_cx (E := E) cC hr (by decide) rfl pass_own (pa_cons (pv 0) (pa_cons (pv 1) pa_nil))))
      (pss_cons (ps_if (pt_not (pt_truth (pv 1) (fun _ => rfl))) (pss_one (ps_raise0 rfl (L2.takes_of rfl rfl rfl rfl) Y.A rfl)) pss_nil)
      (pss_cons (ps_if (pt_not (pt_val (pe_c cN hr (by decide) rfl (pa_cons (pv 2) (pa_cons pe_int (pa_cons (pe_glob (v := .int 1000000000) rfl gWd ⟨_, rfl⟩) pa_nil)))))) (pss_one (ps_raise0 rfl (L2.takes_of rfl rfl rfl rfl) Y.M rfl)) pss_nil)
      (pss_cons (ps_par (i := 4) (j := 5) rfl nd rfl rfl (by decide) rfl rfl (pa_cons (pe_op op_fdivW (pv 3) (pe_callB call_len_seq rfl (T.fr "len") boot_len (pa_cons (pv 1) pa_nil))) (pa_cons (pe_op op_mod (pv 3) (pe_callB call_len_seq rfl (T.fr "len") boot_len (pa_cons (pv 1) pa_nil))) pa_nil)) rfl)
      (pss_cons (ps_set (i := 6) nd rfl (.inl rfl) (pe_c cF hr (by decide) rfl (pa_cons (pv 0) pa_nil)))
      (pss_cons (ps_setDc (i := 7) (own := [("word", 14)]) rfl nd rfl rfl (sw_trueD rfl rfl rfl rfl) (pi_tup (pe_glob (v := .ref aW) rfl gW rfl)) (blkOk_by (N := nEvery) (sc := fnScope (top 36)) (by decide +kernel)) (fun _ _ _ _ _ => pg_name (i := 14) nd rfl (.inl rfl)) (fun _ _ _ _ _ => pts_nil) (fun _ _ _ _ _ => pv 14) (fun _ _ _ _ _ => pe_int))
      (pss_cons (ps_set (i := 8) nd rfl (.inl rfl) pe_ndnew)
      (pss_cons (ps_set (i := 9) nd rfl (.inl rfl) pe_int)
      (pss_cons (ps_while (L2.passes_of rfl) (pt_cmpR op_lt (pv 9) (pv 4) (nomark _))
        (pss_cons (ps_if (pt_cmp (pc_ndin hu (pv 6) (pv 8)) (by rfl))
          (pss_cons (ps_asg (pe_ndget hu (pv 8) (pv 6) (fun _ _ => rfl)) (pg_tup (n := 2) rfl (pgs_cons (pg_name (i := 10) nd rfl (.inl rfl)) (pgs_cons (pg_name (i := 11) nd rfl (.inl rfl)) pgs_nil))))
          (pss_cons (ps_set (i := 12) nd rfl (.inl rfl) (pe_op op_fdivW (pe_op op_sub (pv 4) (pv 9)) (pe_op op_sub (pv 9) (pv 10))))
          (pss_cons (ps_set (i := 7) nd rfl (.inl rfl) (pe_c cD hr (by decide) rfl (pa_cons (pv 7) (pa_cons (pe_c cD hr (by decide) rfl (pa_cons (pv 7) (pa_cons (pv 11) (pa_cons (pe_un un_neg pe_int) pa_nil)))) (pa_cons (pv 12) pa_nil)))))
          (pss_cons (ps_aug (i := 9) nd rfl (.inl rfl) (pe_op op_mul (pv 12) (pe_op op_sub (pv 9) (pv 10))) ip_add)
          (pss_cons (ps_set (i := 8) nd rfl (.inl rfl) pe_ndnew)
          (pss_one (ps_if (pt_cmpR op_eq (pv 9) (pv 4) (nomark _)) (pss_one ps_break) pss_nil))))))) pss_nil)
        (pss_cons (ps_ndput hu (pv 8) (pv 6) (pe_tup (pa_cons (pv 9) (pa_cons (pv 7) pa_nil))) rfl)
        (pss_cons (ps_asg (pe_c cO hr (by decide) rfl (pa_cons (pv 0) (pa_cons (pv 6) (pa_cons (pv 1) (pa_cons (pv 2) pa_nil))))) (pg_tup (n := 2) rfl (pgs_cons (pg_name (i := 13) nd rfl (.inl rfl)) (pgs_cons (pg_name (i := 6) nd rfl (.inl rfl)) pgs_nil))))
        (pss_cons (ps_set (i := 7) nd rfl (.inl rfl) (pe_c cD hr (by decide) rfl (pa_cons (pv 7) (pa_cons (pv 13) (pa_cons pe_int pa_nil)))))
        (pss_one (ps_aug (i := 9) nd rfl (.inl rfl) pe_int ip_add)))))))
      (pss_cons (ps_asg (pe_c cO hr (by decide) rfl (pa_cons (pv 0) (pa_cons (pv 6) (pa_cons (pe_slice sl_list (pv 1) po_none (po_some (pv 5))) (pa_cons (pv 2) pa_nil))))) (pg_tup (n := 2) rfl (pgs_cons (pg_name (i := 13) nd rfl (.inl rfl)) (pgs_cons (pg_name (i := 6) nd rfl (.inl rfl)) pgs_nil))))
      (pss_one (ps_ret (pe_c cD hr (by decide) rfl (pa_cons (pv 7) (pa_cons (pv 13) (pa_cons pe_int pa_nil))))))))))))))), ?_⟩
    have hs : L2.start nEvery [v, .ref la, vg, .int many] = [some v, some (.ref la), some vg, some (.int many), none, none, none, none, none, none, none, none, none, none, none] := rfl
    rw [hs]
    refine q_dropRaw ⟨v, rfl, _, rfl, v, la, b, avs, oks, rfl, hBB, hL, hlen, hP, fun ho H1 e1 => ?_, fun ho => ?_⟩
    case refine_2 =>
      cases hMode with
      | badAct h k => exact k
      | noAct h _ _ => rw [ho] at h; cases h
      | badMom h _ _ _ => rw [ho] at h; cases h
      | good _ _ _ h => rw [ho] at h; cases h
    cases hMode with
    | badAct h k => rw [ho] at h; cases h
    | noAct h h2 k => exact q_when (b := true) (et_is (et_not (et_truL (ev_var rfl) (ex_l e1 hL))) (by rw [h2]; rfl)) (fun _ H2 e2 => k _ (e1.trans e2)) (fun z => by cases z)
    | badMom h h2 h3 k =>
      refine q_when (b := false) (et_is (et_not (et_truL (ev_var rfl) (ex_l e1 hL))) (by cases avs with | nil => exact absurd rfl h2 | cons x xs => rfl)) (fun z => by cases z) (fun _ H2 e2 => ?_)
      exact q_when (b := true) (et_is (et_not (et_B (ev_isNum (ev_var rfl) ev_c ev_c (hG.ex (e1.trans e2))))) (by rw [h3]; rfl)) (fun _ H3 e3 => k _ ((e1.trans e2).trans e3)) (fun z => by cases z)
    | good acts g Z h h2 h3 hg hg1 hg2 hm hZ hst k =>
      subst hg
      have hla : avs.length = acts.length := Paired.length h3
      have hpos : 0 < acts.length := List.length_pos_iff.mpr h2
      refine q_when (b := false) (et_is (et_not (et_truL (ev_var rfl) (ex_l e1 hL))) (by cases avs with | nil => exact absurd hla (by show ¬ 0 = acts.length; omega) | cons x xs => rfl)) (fun z => by cases z) (fun _ H2 e2 => ?_)
      have e12 := e1.trans e2
      refine q_when (b := false) (et_is (et_not (et_B (ev_isNum (ev_var rfl) ev_c ev_c (hG.ex e12)))) (by show (!(decide (1 ≤ g) && decide (g ≤ 1000000000))) = false; rw [decide_eq_true hg1, decide_eq_true hg2]; rfl)) (fun z => by cases z) (fun _ H3 e3 => ?_)
      have e13 := e12.trans e3
      have hL3 := ex_l e13 hL
      refine q_parRaw (x := .int (many / acts.length : Nat)) (y := .int (many % acts.length : Nat)) (ea_cons (ev_is (ev_op (ev_var rfl) (ev_lenS (ev_var rfl) hL3) (rv_I (wide_div (b := 20) (by rw [hla]; omega) (by rw [hla]; omega) (by decide) (by decide)))) (by rw [hla]; rfl)) (ea_cons (ev_is (ev_op (ev_var rfl) (ev_lenS (ev_var rfl) hL3) (rv_I (by rw [hla]; omega))) (by rw [hla]; rfl)) ea_nil)) fun H4 e4 => ?_
      have e14 := e13.trans e4
      have hend : everyP b g acts many = fun u => totN b g acts (many / acts.length) u + (roundOf b g (stN b g acts (many / acts.length)) (acts.take (many % acts.length))).1 u := rfl
      have hRm : many / acts.length ≤ many := Nat.div_le_self _ _
      have hMl : many % acts.length < acts.length := Nat.mod_lt _ hpos
      generalize many / acts.length = R at hend hRm ⊢
      generalize many % acts.length = M at hend hMl ⊢
      refine qr_asg (R := StandAt K (firstStand b)) (er_call (era_of (vs := [v]) (ea_cons (ev_var rfl) ea_nil)) fun vs H5 e5 hv Q q E => ?_) fun vS0 H5 e5 hS5 => ?_
      · subst hv
        exact ⟨v, b, rfl, bookAt_st _ _ _ (e14.trans e5) hBB, hok, q⟩
      refine qr_asg (R := CntAt fun _ => 0) (er_wd (K := K) (i := 14) (tv := tC (.int 0)) (c := fun _ => 0) hW (fun _ => rfl) (fun _ => rfl) (fun t H1 e => ev_c)) fun vT0 H6 e6 hT6 => ?_
      refine q_new fun d0 hd0 => ?_
      refine q_asg ev_c fun H7 e7 => ?_
      have e16 := (e14.trans e5).trans e6
      have e67 : Ex H6 H7 := (Ex.new hd0).trans e7
      have hAll : ActsAt K acts la H := ⟨avs, hL, h3⟩
      refine cutK (M := fun σ' H' => ∃ vS vT u8 u9 u10 u11 u12 u13 u14, σ' = [some v, some (.ref la), some (.int g), some (.int many), some (.int R), some (.int M), some vS, some vT, u8, u9, u10, u11, u12, u13, u14] ∧ ExtQ H H' ∧ Tabs (tabsOf Pt) H' ∧ StandAt K (stN b g acts R) vS H' ∧ CntAt (totN b g acts R) vT H') ?_ fun fin => ?_
      · rintro σ' H' ⟨vS, vT, u8, u9, u10, u11, u12, u13, u14, rfl, eN, hT, hS, hC⟩
        refine q_asgPair (K := K) (R := fun x y H3 => ExtN H' H3 ∧ Tabs (tabsOf Pt) H3 ∧ CntAt (roundOf b g (stN b g acts R) (acts.take M)).1 x H3) (fun Q q => ⟨v, rfl, vS, rfl, .ref la, rfl, .int M, rfl, (M : Int), rfl, la, avs, rfl, sqL_Q eN hL, fun p hp => ⟨.int g, rfl, v, vS, p, b, stN b g acts R, acts.take M, g, rfl, bookAt_T _ _ _ ((ExtQ.t eN).trans (exT (Ex.new hp))) hBB, standAt_st _ _ _ (Ex.new hp) hS, ⟨avs.take M, SqL.of (by rw [cut_take (by omega)]; exact upd_same), paired_take _ (Paired.mapP h3 fun v x q => actAt_T _ _ _ ((ExtQ.t eN).trans (exT (Ex.new hp))) q)⟩, hok, fits_st R, str_st R, hT.ext (Ex.new hp), fun u H3 eN3 T3 ⟨p2, dv, v2, eu, hp2, hc, hs⟩ => by
          subst eu
          exact q p2 dv v2 H3 hp2 ⟨(ExtN.of (Ex.new hp)).trans eN3, T3, hc⟩⟩⟩) fun vF vS3 H3 ⟨eN3, tab3, hF3⟩ => ?_
        refine sr_ret (er_added (er_cnt rfl (cntAt_N eN3 hC)) (er_cnt rfl hF3) ev_c (by decide)) fun vv H4 e4 hc => k vv H4 ((eN.trans (ExtQ.of_N eN3)).trans (ExtQ.of e4)) (tab3.ext e4) ?_
        have e : everyP b g acts many = addC (totN b g acts R) (roundOf b g (stN b g acts R) (acts.take M)).1 1 := by
          rw [hend]
          refine funext fun u => ?_
          show totN b g acts R u + _ = totN b g acts R u + _ * 1
          rw [Int.mul_one]
        rw [e]
        exact hc
      refine q_while (W := fun m σ' H' => ∃ n vS vT d ent u10 u11 u12 u13 u14, m = R - n ∧ n ≤ R ∧ σ' = [some v, some (.ref la), some (.int g), some (.int many), some (.int R), some (.int M), some vS, some vT, some (.ref d), some (.int (n : Nat)), u10, u11, u12, u13, u14] ∧ EvI P w K Pt b g acts H n vS vT d ent H') (m0 := R - 0)
        ⟨0, vS0, vT0, d0, [], none, none, none, none, none, rfl, Nat.zero_le _, rfl, ⟨ExtQ.of (e16.trans e67), hTab.ext (e16.trans e67), standAt_st _ _ _ (e6.trans e67) hS5, cntAt_st _ _ _ e67 hT6, e7 _ _ upd_same, SeenOk.nil⟩⟩ fun m σ' H' hw => ?_
      obtain ⟨n, vS, vT, d, ent, u10, u11, u12, u13, u14, rfl, hnR, rfl, I⟩ := hw
      refine ⟨decide ((n : Int) < (R : Int)), et_op (ev_var rfl) (ev_var rfl) rv_I0, fun hb H1 e1' => ⟨fun σ2 H2 => ∃ m', m' < R - n ∧ ∃ n vS vT d ent u10 u11 u12 u13 u14, m' = R - n ∧ n ≤ R ∧ σ2 = [some v, some (.ref la), some (.int g), some (.int many), some (.int R), some (.int M), some vS, some vT, some (.ref d), some (.int (n : Nat)), u10, u11, u12, u13, u14] ∧ EvI P w K Pt b g acts H n vS vT d ent H2, fun σ2 H2 h => h, ?_⟩, fun hb H1 e1' => ?_⟩
      · have hnlt : n < R := by have := of_decide_eq_true hb; omega
        replace I := I.mono e1'
        refine cutK (M := fun σ' H' => ∃ n' vS vT d ent u10 u11 u12 u13 u14, n ≤ n' ∧ n' < R ∧ atE ent (skey (stN b g acts n')) = none ∧ σ' = [some v, some (.ref la), some (.int g), some (.int many), some (.int R), some (.int M), some vS, some vT, some (.ref d), some (.int (n' : Nat)), u10, u11, u12, u13, u14] ∧ EvI P w K Pt b g acts H n' vS vT d ent H') ?_ fun kB => ?_
        · rintro σ' H' ⟨n', vS, vT, d, ent, u10, u11, u12, u13, u14, hnn, hn'R, hat, rfl, I⟩
          obtain ⟨as, ss, rfl, hS1, hS2⟩ := id I.hS
          refine q_ndput (P := P) (w := w) (K := K) rfl rfl rfl rfl I.hd I.sk.1 (nk_stand I.hS) (skey_depth _) (Nat.lt_of_le_of_lt (I.sk.len hst) hZ) fun q hq => ?_
          · have eq1 : Ex H' (upd H' q (.tup [.int (n' : Nat), vT])) := Ex.new hq
            have hdq : (upd H' q (.tup [.int (n' : Nat), vT])) d = some (NDO P w d ent) := eq1 _ _ I.hd
            have eQ : ExtQ H' (upd (upd H' q (.tup [.int (n' : Nat), vT])) d (NDO P w d (putE ent (skey (stN b g acts n')) as (.ref q)))) := (ExtQ.of eq1).trans (ExtQ.upd hdq rfl)
            have eNx : ExtQ H (upd (upd H' q (.tup [.int (n' : Nat), vT])) d (NDO P w d (putE ent (skey (stN b g acts n')) as (.ref q)))) := I.eN.trans eQ
            have tabx : Tabs (tabsOf Pt) (upd (upd H' q (.tup [.int (n' : Nat), vT])) d (NDO P w d (putE ent (skey (stN b g acts n')) as (.ref q)))) := tabs_upd (I.tab.ext eq1) hdq (fun ps => ndo_ne_tbl ps) (fun c q => ndo_ne_code)
            have skx := SeenOk.put (q := q) (I.sk.mono eQ) hat (NK.mono eQ.t _ _ (nk_stand I.hS)) (ExT.sq (ExtQ.t (ExtQ.upd hdq rfl)) (st_of upd_same)) (cntAt_Q eQ I.hT)
            have hSx := standAt_T _ _ _ (ExtQ.t eQ) I.hS
            have hTx := cntAt_Q eQ I.hT
            have hdx : (upd (upd H' q (.tup [.int (n' : Nat), vT])) d (NDO P w d (putE ent (skey (stN b g acts n')) as (.ref q)))) d = some (NDO P w d (putE ent (skey (stN b g acts n')) as (.ref q))) := upd_same
            generalize putE ent (skey (stN b g acts n')) as (.ref q) = ent2 at eNx tabx skx hSx hTx hdx ⊢
            generalize upd (upd H' q (.tup [.int (n' : Nat), vT])) d (NDO P w d ent2) = Hx at eNx tabx skx hSx hTx hdx ⊢
            refine q_asgPair (K := K) (R := fun x y H3 => ExtN Hx H3 ∧ Tabs (tabsOf Pt) H3 ∧ CntAt (roundOf b g (stN b g acts n') acts).1 x H3 ∧ StandAt K (stN b g acts (n' + 1)) y H3) (fun Q q => ⟨v, rfl, .ref as, rfl, .ref la, rfl, .int g, rfl, v, .ref as, la, b, stN b g acts n', acts, g, rfl, bookAt_T _ _ _ (ExtQ.t eNx) hBB, hSx, actsAt_Q eNx hAll, hok, fits_st n', str_st n', tabx, fun u H3 eN3 T3 ⟨p, dv, v2, eu, hp, hc, hs⟩ => by
              subst eu
              exact q p dv v2 H3 hp ⟨eN3, T3, hc, hs⟩⟩) fun vF vS3 H3 ⟨eN3, tab3, hF3, hS3⟩ => ?_
            refine qr_asg (R := CntAt (totN b g acts (n' + 1))) (Er.imp (er_added (er_cnt rfl (cntAt_N eN3 hTx)) (er_cnt rfl hF3) ev_c (by decide)) fun vv H4 e4 hc => ?_) fun vT4 H4 e4 hT4 => ?_
            · have e : totN b g acts (n' + 1) = addC (totN b g acts n') (roundOf b g (stN b g acts n') acts).1 1 := funext fun u => by
                show totN b g acts n' u + _ = totN b g acts n' u + _ * 1
                rw [Int.mul_one]
              rw [e]
              exact hc
            · refine s_aug (a := (n' : Int)) (b := 1) rfl ev_c fun H5 e5 => ?_
              have eN5 : ExtN Hx H5 := eN3.trans (ExtN.of (e4.trans e5))
              refine ⟨R - (n' + 1), by omega, n' + 1, vS3, vT4, d, ent2, _, _, _, _, _, rfl, by omega, rfl, ⟨eNx.trans (ExtQ.of_N eN5), tab3.ext (e4.trans e5), standAt_st _ _ _ (e4.trans e5) hS3, cntAt_st _ _ _ e5 hT4, eN5 _ _ hdx (fun ps => ndo_ne_tbl ps), skx.mono (ExtQ.of_N eN5)⟩⟩
        obtain ⟨as, ss, rfl, hS1, hS2⟩ := id I.hS
        refine q_when (b := (atE ent (skey (stN b g acts n))).isSome) (et_ndin rfl rfl I.hd I.sk.1 (nk_stand I.hS) (skey_depth _)) (fun hb' H2 e2' => ?_) (fun hb' H2 e2' => kB _ _ ⟨n, _, _, d, ent, _, _, _, _, _, Nat.le_refl _, hnlt, Option.not_isSome_iff_eq_none.mp (by rw [hb']; exact Bool.false_ne_true), rfl, I.mono e2'⟩)
        replace I := I.mono e2'
        obtain ⟨val, hval⟩ := Option.isSome_iff_exists.mp hb'
        obtain ⟨pe, hpe, hpk, hpv⟩ := at_mem hval
        obtain ⟨i, hin, hik, q, dv, hpq, hqt, hqc⟩ := I.sk.2.2 pe hpe
        have hst' : stN b g acts i = stN b g acts n := skey_inj (hik.symm.trans hpk)
        subst hpv
        rw [hpq] at hval
        refine q_asgPair (K := K) (R := fun x y H3 => x = .int (i : Nat) ∧ y = dv ∧ H3 = H2) (fun Q q0 => ⟨_, rfl, _, rfl, d, as, ent, skey (stN b g acts n), .ref q, rfl, rfl, I.hd, I.sk.1, nk_stand I.hS, skey_depth _, hval, q0 q _ _ H2 hqt ⟨rfl, rfl, rfl⟩⟩) fun x y H3 ⟨ex, ey, eH⟩ => ?_
        subst ex ey eH
        have hdiv : ((R : Int) - (n : Int)) / ((n : Int) - (i : Int)) = (((R - n) / (n - i) : Nat) : Int) := by
          rw [show ((R : Int) - (n : Int)) = ((R - n : Nat) : Int) by omega, show ((n : Int) - (i : Int)) = ((n - i : Nat) : Int) by omega]
          rfl
        have htle : (R - n) / (n - i) * (n - i) ≤ R - n := Nat.div_mul_le_self _ _
        have ht62 : (R - n) / (n - i) < 2 ^ 62 := Nat.lt_of_le_of_lt (Nat.div_le_self _ _) (by omega)
        refine q_asg (v := .int (((R - n) / (n - i) : Nat) : Int)) (ev_is (ev_op (ev_sub (ev_var rfl) (ev_var rfl)) (ev_sub (ev_var rfl) (ev_var rfl)) (rv_I (wide_div (b := 64) (by omega) (by omega) (by decide) (by decide)))) (by rw [hdiv])) fun H4 e4 => ?_
        generalize (R - n) / (n - i) = t at htle ht62
        have hring := ring (Nat.le_of_lt hin) hst' t
        refine qr_asg (R := CntAt (totN b g acts (n + t * (n - i)))) (Er.imp (er_added (n := (t : Int)) (er_cnt rfl (cntAt_st _ _ _ e4 I.hT)) (er_added (er_cnt rfl (cntAt_st _ _ _ e4 I.hT)) (er_cnt rfl (cntAt_st _ _ _ e4 hqc)) (ev_un ev_c ru_neg) (by decide)) (ev_var rfl) (by omega)) fun vv H5 e5 hc => ?_) fun vT5 H5 e5 hT5 => ?_
        · have e : totN b g acts (n + t * (n - i)) = addC (totN b g acts n) (addC (totN b g acts n) (totN b g acts i) (-1)) (t : Int) := funext fun u => by
            rw [hring.2 u]
            show _ = totN b g acts n u + (totN b g acts n u + totN b g acts i u * (-1)) * (t : Int)
            congr 2
            omega
          rw [e]
          exact hc
        refine q_aug (a := (n : Int)) (b := (t : Int) * ((n : Int) - (i : Int))) rfl (ev_op (ev_var rfl) (ev_sub (ev_var rfl) (ev_var rfl)) (rv_I (.inl ⟨by omega, by omega⟩))) fun H6' e6' => ?_
        have hn' : (n : Int) + (t : Int) * ((n : Int) - (i : Int)) = ((n + t * (n - i) : Nat) : Int) := by
          rw [show ((n : Int) - (i : Int)) = ((n - i : Nat) : Int) by omega]
          omega
        refine q_new fun d' hd' => ?_
        show tIfS _ _ _ _ [some v, some (.ref la), some (.int g), some (.int many), some (.int R), some (.int M), some (.ref as), some vT5, some (.ref d'), some (.int ((n : Int) + (t : Int) * ((n : Int) - (i : Int)))), some (.int (i : Nat)), some y, some (.int (t : Nat)), u13, u14] _
        rw [hn']
        have hle : n + t * (n - i) ≤ R := by omega
        have hS' : StandAt K (stN b g acts (n + t * (n - i))) (.ref as) H3 := by rw [hring.1]; exact I.hS
        have hnn : n ≤ n + t * (n - i) := Nat.le_add_right _ _
        generalize n + t * (n - i) = n' at hn' hle hS' hT5 hnn hring ⊢
        have e36 : Ex H3 H6' := (e4.trans e5).trans e6'
        have e3x : Ex H3 (upd H6' d' (NDO P w d' [])) := e36.trans (Ex.new hd')
        have Ix : EvI P w K Pt b g acts H n' (.ref as) vT5 d' [] (upd H6' d' (NDO P w d' [])) := ⟨I.eN.trans (ExtQ.of e3x), I.tab.ext e3x, standAt_st _ _ _ e3x hS', cntAt_st _ _ _ (e6'.trans (Ex.new hd')) hT5, upd_same, SeenOk.nil⟩
        refine s_when (b := decide (V.int (n' : Nat) = V.int (R : Nat))) (et_op (ev_var rfl) (ev_var rfl) (rv_eq rfl)) (fun hb2 H7' e7' => ?_) (fun hb2 H7' e7' => ?_)
        · have e : n' = R := by
            have q := of_decide_eq_true hb2
            injection q with q
            omega
          subst e
          exact fin _ _ ⟨_, _, _, _, _, _, _, _, _, rfl, Ix.eN.trans (ExtQ.of e7'), Ix.tab.ext e7', standAt_st _ _ _ e7' Ix.hS, cntAt_st _ _ _ e7' Ix.hT⟩
        · have e : n' ≠ R := fun z => of_decide_eq_false hb2 (by rw [z])
          exact kB _ _ ⟨n', _, _, d', [], _, _, _, _, _, hnn, by omega, rfl, rfl, Ix.mono e7'⟩
      · have hnR' : n = R := by have := of_decide_eq_false hb; omega
        subst hnR'
        exact fin _ _ ⟨_, _, _, _, _, _, _, _, _, rfl, I.eN.trans (ExtQ.of e1'), I.tab.ext e1', standAt_st _ _ _ e1' I.hS, cntAt_st _ _ _ e1' I.hT⟩
end
end TL
/-! Trylocks, walk Bk: is_rule, Book. -/
namespace TL
open PySem PySem.Spec PyProof.Rows L2 Evl C8 RZ LamX NdefX
/-- the body of a class -/
def clsBody : Stmt → List Stmt
  | .ClassDef _ _ _ b _ _ _ _ _ _ _ => b
  | _ => []
def sInit : Stmt := (clsBody (top 12)).getD 0 (top 0)
section
variable {P : Program} {w : World} {K : PySem.W.Frag} {mg : Str → Option Value} {base : Heap}
theorem eri_slT {σ : L2.St} {H : Hp} {i : Nat} {a : Addr} {xs ys : List V} {n : Nat} {m : Nat} (hi : σ[i]? = some (some (.ref a))) (h : SqT K H a xs) (hn : ¬ (HT.sIx xs.length 0 (some (n : Int)) = 0 ∧ HT.sIx xs.length xs.length none = xs.length)) (hy : cutV xs (some (n : Int)) none = ys) (hm : m = ys.length := by rfl) : ErI (iTup K (tSl (rSlT K) (tVar i) (tPart (tC (.int (n : Int)))) tNoPart)) σ H m (YAt ys) := fun H1 e Rk k =>
  ⟨_, hi, _, rfl, a, xs, rfl, ex_t e h, hn, fun p hp => ⟨p, rfl, ⟨ys, st_of (by rw [hy]; exact upd_same)⟩, by
    subst hm
    exact k _ _ (Ex.new hp) (walk_tup.mono (fun H3 e3 => st_of (e3 p _ (by rw [hy]; exact upd_same))) fun _ _ _ _ _ _ y => y)⟩⟩
def nIsRule : List Str := ["value", "one"]
theorem sc_isRule : FnScope nIsRule ["value"] (fnScope (top 11)) := fnScope_by (by decide +kernel)
def spIsRule (K : PySem.W.Frag) : Sp := fun vs H Q _ => ∃ (v : V) (r : TL.Rule), vs = [v] ∧ RuleAt K r v H ∧ RuleOk r ∧ RetV (.bl true) H Q
theorem c_isRule (T : Tx K mg) : Cal P w K mg base 2 "is_rule" (spIsRule K) [] := by
  have cN := c_is_number (P := P) (w := w) (base := base) T
  obtain ⟨aK, gK, hK⟩ := T.keys
  refine calT T.is_rule sc_isRule (fun vs H Q E h => ?_) (fun f cdv A outer s H vs Q E hr h => ?_)
  · obtain ⟨v, r, rfl, _⟩ := h
    rfl
  · obtain ⟨v, r, rfl, hR, hro, k⟩ := h
    obtain ⟨q, rfl, hq⟩ := hR
    have nd := sc_isRule.nd
    refine ⟨_, pss_cons (ps_if (PW.pt (pw_or (pt_not (pt_val (pe_callB call_isi rfl (T.fr "isinstance") boot_isinstance (pa_cons (pv 0) (pa_cons (pe_tyn rfl (T.fr "tuple") boot_tuple) pa_nil)))))
          (pw_or (pt_cmpR op_ne (pe_callB call_len_seq rfl (T.fr "len") boot_len (pa_cons (pv 0) pa_nil)) pe_int (nomark _))
          (pw_or (pt_not (pt_val (pe_callB call_isi rfl (T.fr "isinstance") boot_isinstance (pa_cons (pe_ix ix_tup (pv 0) pe_int (fun _ _ => rfl)) (pa_cons (pe_tyn rfl (T.fr "str") boot_str) pa_nil)))))
          (pw_or1 (pt_cmpR op_notIn_seq (pe_ix ix_tup (pv 0) pe_int (fun _ _ => rfl)) (pe_glob (v := .ref aK) rfl gK rfl) (by rfl))))))) (pss_one (ps_ret pe_bl)) pss_nil)
      (pss_cons (ps_if (PW.pt (pw_or (pt_not (pt_val (pe_c cN hr (by decide) rfl (pa_cons (pe_ix ix_tup (pv 0) pe_int (fun _ _ => rfl)) (pa_cons pe_int (pa_cons pe_int pa_nil))))))
          (pw_or (pt_not (pt_val (pe_c cN hr (by decide) rfl (pa_cons (pe_ix ix_tup (pv 0) pe_int (fun _ _ => rfl)) (pa_cons pe_int (pa_cons pe_int pa_nil))))))
          (pw_or1 (pt_not (pt_val (pe_c cN hr (by decide) rfl (pa_cons (pe_ix ix_tup (pv 0) pe_int (fun _ _ => rfl)) (pa_cons pe_int (pa_cons pe_int pa_nil)))))))))) (pss_one (ps_ret pe_bl)) pss_nil)
      (pss_one (ps_ret (pe_callB (r := rAll K) (cr_all rfl) rfl (T.fr "all") (by decide +kernel) (pa_cons (pe_lc (own := [("one", 1)]) (g := gName 1) (tt := tYes) rfl nd (pi_tup (pe_slice sl_tup (pv 0) (po_some pe_int) po_none))
        (blkOk_by (N := nIsRule) (sc := fnScope (top 11)) (by decide +kernel)) (fun _ _ _ _ _ => pg_name (i := 1) nd rfl (Or.inl rfl)) (fun _ _ _ _ _ => pts_nil)
        (fun _ _ _ _ _ => pe_callB (r := rIsi K) call_isi rfl (T.fr "isinstance") boot_isinstance (pa_cons (pv 1) (pa_cons (pe_tyn rfl (T.fr "bool") boot_bool) pa_nil)))) pa_nil))))), ?_⟩
    have hs : L2.start nIsRule [.ref q] = [some (.ref q), none] := rfl
    rw [hs]
    have ix : ∀ {H1 : Hp} {σ1 : L2.St} {n : Nat} {x : V}, Ex H H1 → σ1[0]? = some (some (.ref q)) → (ruleVs r)[n]? = some x → Ev (tOp (rIxT K) (tVar 0) (tC (.int (n : Int)))) σ1 H1 x := fun e h hx => ev_ixT (ev_var h) ev_c (ex_t e hq) hx
    obtain ⟨hk, hm, hl, hf⟩ := hro
    refine q_when (b := false) (et_or0 (et_is (et_not (et_B (ev_isi (n := "tuple") (b := true) (ev_var rfl) ev_ty (.tup hq) rfl (by decide +kernel)))) rfl) (et_or0 (et_is (et_op (ev_lenT (ev_var rfl) hq) ev_c (rv_ne rfl)) rfl)
      (et_or0 (et_is (et_not (et_B (ev_isi (n := "str") (b := true) (ix (n := 0) (Ex.refl H) rfl rfl) ev_ty (.str _) rfl (by decide +kernel)))) rfl) (et_is (et_op (ix (n := 0) (Ex.refl H) rfl rfl) ev_c (rv_niT (hK _) rfl rfl)) ?_)))) (fun z => by cases z) (fun _ H1 e1 => ?_)
    · have q : r.key = 0 ∨ r.key = 1 ∨ r.key = 2 := by omega
      rcases q with q | q | q <;> rw [q] <;> decide +kernel
    refine q_when (b := false) (et_or0 (et_is (et_not (et_B (ev_isNum (ix (n := 1) e1 rfl rfl) ev_c ev_c (.int _)))) ?_) (et_or0 (et_is (et_not (et_B (ev_isNum (ix (n := 2) e1 rfl rfl) ev_c ev_c (.int _)))) ?_) (et_is (et_not (et_B (ev_isNum (ix (n := 3) e1 rfl rfl) ev_c ev_c (.int _)))) ?_))) (fun z => by cases z) (fun _ H2 e2 => ?_)
    · show (!(decide (1 ≤ r.most) && decide (r.most ≤ 3))) = false
      rw [decide_eq_true hm.1, decide_eq_true hm.2]; rfl
    · show (!(decide (1 ≤ r.lock) && decide (r.lock ≤ 4))) = false
      rw [decide_eq_true hl.1, decide_eq_true hl.2]; rfl
    · show (!(decide (0 ≤ r.fade) && decide (r.fade ≤ 5))) = false
      rw [decide_eq_true hf.1, decide_eq_true hf.2]; rfl
    have e12 := e1.trans e2
    refine s_ret (v := .bl ([true, true, true].all id)) (ev_all (K := K) (bs := [true, true, true]) fun H3 e3 Q q => er_lc (n := 3) (S := fun i v H => v = .bl true) (eri_slT (K := K) (xs := ruleVs r) (n := 4) rfl (ex_t e12 hq) (fun h => absurd (show HT.sIx 7 0 (some (4 : Int)) = 0 from h.1) (by decide)) rfl) yes_ok (fun i v H H' e h => h) (by decide) (by
        rintro i x H4 H5 C hi e ⟨rfl, hx⟩ kC
        refine kC _ rfl (Ex.refl _) ?_
        obtain ⟨bb, rfl⟩ : ∃ bb, x = .bl bb := by
          rcases i with _ | _ | _ | i
          · exact ⟨_, (Option.some.inj hx).symm⟩
          · exact ⟨_, (Option.some.inj hx).symm⟩
          · exact ⟨_, (Option.some.inj hx).symm⟩
          · omega
        exact er_of (ev_isi (n := "bool") (b := true) (ev_var rfl) ev_ty (.bl _) rfl (by decide +kernel))) H3 e3 Q fun lp ws H4 hp e4 hw ⟨h1, h2⟩ => q lp ws H4 hp e4 hw (by
        refine list_of_get (by simp [h1]) fun i hi => ?_
        have hi : i < 3 := by simpa using hi
        obtain ⟨u, g1, g2⟩ := h2 i hi
        rw [g1, g2]
        rcases i with _ | _ | _ | i
        · rfl
        · rfl
        · rfl
        · omega)) fun H3 e3 => ?_
    exact k H3 (e12.trans e3)
theorem s_forE {σ : L2.St} {H : Hp} {a : Addr} {xs : List V} {ta : TA} {tb : TS} {D : Ends} {j k : Nat} (h : EvA ta σ H [.ref a]) (h1 : SqL K H a xs) (Pv : Nat → L2.St → Hp → Prop) (h0 : ∀ H1, Ex H H1 → Pv 0 σ H1) (hG : ∀ i σ' H', Pv i σ' H' → SqL K H' a xs)
    (hs : ∀ i x σ' H' T, i < xs.length → xs[i]? = some x → Pv i σ' H' → H' T = none → tb { D with nx := Pv (i + 1), ct := Pv (i + 1), bk := D.nx } ((σ'.set j (some (.int (i : Nat)))).set k (some x)) (upd H' T (.tup [.int (i : Nat), x]))) (hd : ∀ σ' H', Pv xs.length σ' H' → D.nx σ' H') :
    tFor (iEnum K ta) (gTup K 2 (gCons (gName j) (gCons (gName k) gNil))) tb D σ H := h H (Ex.refl H) _ fun H1 e1 => ⟨a, xs, rfl, ex_l e1 h1,
  for_it walk_enum Pv (h0 H1 e1) (fun i σ' H' _ p => hG i σ' H' p) (fun i v σ' H' H2 hi p y => by
    obtain ⟨T, x, z, rfl, hT, rfl, hx, hz⟩ := y
    cases hx
    exact ⟨T, _, rfl, st_of upd_same, rfl, _, _, rfl, z, _, rfl, rfl, hs i z σ' H' T hi hz p hT⟩) hd⟩
/-! ### Book.__init__ -/
def nInit : List Str := ["self", "rules", "accounts", "places", "index", "rule"]
theorem sc_init : FnScope nInit ["self", "rules", "accounts", "places"] (fnScope sInit) := fnScope_by (by decide +kernel)
/-- good books alone: nothing is raised -/
def spInit (K : PySem.W.Frag) : Sp := fun vs H Q _ => ∃ (x dx lr : Addr) (b : TL.Book) (rvs : List V), vs = [.ref x, .ref lr, .int b.accs, .int b.plcs] ∧ H x = some (.ins (bkC K) dx []) ∧ SqL K H lr rvs ∧ Paired (fun v r => RuleAt K r v H) rvs b.rules ∧ BookOk2 b ∧
  (1 ≤ b.accs ∧ 1 ≤ b.plcs ∧ b.accs * b.plcs ≤ 2) ∧ ∀ H', (∀ a o, a ≠ x → H a = some o → H' a = some o) → BookAt K b (.ref x) H' → Q .non H'
/-- Book's making, as the module has it -/
structure BookD (K : PySem.W.Frag) (mg : Str → Option Value) : Prop where
  ex : ∃ (f : Addr) (fd : FuncData), Mk K (bkC K) f ∧ C8.Fun K "__init__" "Book.__init__" sInit f fd ∧ mg "Book" = some (.ref (bkC K)) ∧ Binds K fd ["self", "rules", "accounts", "places"] []
theorem c_init (T : Tx K mg) (D : BookD K mg) : Mak P w K mg base 3 "Book" (bkC K) (spInit K) [] := by
  have cR := c_isRule (P := P) (w := w) (base := base) T
  have cN := c_is_number (P := P) (w := w) (base := base) T
  obtain ⟨tM, gM⟩ := T.mostRules
  obtain ⟨f, fd, M, F, hm, bd⟩ := D.ex
  refine mak0 M hm F bd .nil sc_init (fun vs H Q E h => ?_) (fun cdv A outer s H vs Q E hr h => ?_)
  · obtain ⟨x, dx, lr, b, rvs, rfl, _⟩ := h
    rfl
  · obtain ⟨x, dx, lr, b, rvs, rfl, hx, hL, hP, hok, ⟨ha, hp, hap⟩, k⟩ := h
    have nd := sc_init.nd
    refine ⟨_, pss_cons (ps_if (pt_cmpR op_gt (pe_callB call_len_seq rfl (T.fr "len") boot_len (pa_cons (pv 1) pa_nil)) (pe_glob (v := .int 3) rfl gM ⟨_, rfl⟩) (nomark _)) (pss_one ps_never) pss_nil)
      (pss_cons (ps_for PassesOwn.never rfl (pi_enum rfl (T.fr "enumerate") (pa_cons (pv 1) pa_nil)) (pg_tup (n := 2) rfl (pgs_cons (pg_name (i := 4) nd rfl (.inl rfl)) (pgs_cons (pg_name (i := 5) nd rfl (.inl rfl)) pgs_nil)))
        (pss_one (ps_if (pt_not (pt_val (pe_c cR hr (by decide) rfl (pa_cons (pv 5) pa_nil)))) (pss_one ps_never) pss_nil)))
      (pss_cons (ps_if (PW.pt (pw_or (pt_not (pt_val (pe_c cN hr (by decide) rfl (pa_cons (pv 2) (pa_cons pe_int (pa_cons pe_int pa_nil)))))) (pw_or (pt_not (pt_val (pe_c cN hr (by decide) rfl (pa_cons (pv 3) (pa_cons pe_int (pa_cons pe_int pa_nil))))))
          (pw_or1 (pt_cmpR op_gt (pe_op op_mul (pv 2) (pv 3)) pe_int (nomark _)))))) (pss_one ps_never) pss_nil)
      (pss_cons (ps_fld (pv 0) (pe_callTy (r := rTupOf K) call_tuple_of rfl (T.fr "tuple") boot_tuple (pa_cons (pv 1) pa_nil)) rfl)
      (pss_cons (ps_fld (pv 0) (pv 2) rfl)
      (pss_one (ps_fld (pv 0) (pv 3) rfl)))))), ?_⟩
    have hs : L2.start nInit [.ref x, .ref lr, .int b.accs, .int b.plcs] = [some (.ref x), some (.ref lr), some (.int b.accs), some (.int b.plcs), none, none] := rfl
    rw [hs]
    have hrl : rvs.length ≤ 3 := by rw [Paired.length hP]; exact hok.1.2.2
    refine q_when (b := false) (et_is (et_op (ev_lenS (ev_var rfl) hL) ev_c rv_I0) (decide_eq_false (by omega))) (fun z => by cases z) (fun _ H1 e1 => ?_)
    refine cutK (M := fun σ' H' => ∃ u4 u5, σ' = [some (.ref x), some (.ref lr), some (.int b.accs), some (.int b.plcs), u4, u5] ∧ Ex H H') ?_ fun kM => ?_
    · rintro σ' H2 ⟨u4, u5, rfl, e2⟩
      refine q_when (b := false) (et_or0 (et_is (et_not (et_B (ev_isNum (ev_var rfl) ev_c ev_c (.int _)))) ?_) (et_or0 (et_is (et_not (et_B (ev_isNum (ev_var rfl) ev_c ev_c (.int _)))) ?_) (et_is (et_op (ev_op (ev_var rfl) (ev_var rfl) (rv_I (.inl ?_))) ev_c rv_I0) ?_))) (fun z => by cases z) (fun _ H3 e3 => ?_)
      · show (!(decide ((1 : Int) ≤ b.accs) && decide ((b.accs : Int) ≤ 2))) = false
        rw [decide_eq_true (by omega), decide_eq_true (by have := hok.1.1; omega)]; rfl
      · show (!(decide ((1 : Int) ≤ b.plcs) && decide ((b.plcs : Int) ≤ 2))) = false
        rw [decide_eq_true (by omega), decide_eq_true (by have := hok.1.2.1; omega)]; rfl
      · have := hok.1.1; exact ⟨by omega, by omega⟩
      · refine decide_eq_false ?_
        have : ((b.accs * b.plcs : Nat) : Int) ≤ 2 := by omega
        rw [Int.natCast_mul] at this
        omega
      have e23 := e2.trans e3
      have hx3 := e23 _ _ hx
      refine ⟨_, rfl, lr, rvs, rfl, .inl ⟨ex_l e23 hL, fun l hl => ⟨_, rfl, x, bkC K, dx, [], rfl, Ex.new hl _ _ hx3, T.clsB, T.naR, by decide, ?_⟩⟩⟩
      refine ⟨_, rfl, _, rfl, x, bkC K, dx, _, rfl, upd_same, T.clsB, T.naA, (show 1 < 1000 by decide), ?_⟩
      refine ⟨_, rfl, _, rfl, x, bkC K, dx, _, rfl, upd_same, T.clsB, T.naP, (show 2 < 1000 by decide), ?_⟩
      have hlx : l ≠ x := (ne_of_none hx3 hl).symm
      refine k _ (fun a o hax ho => ?_) ⟨x, dx, l, rfl, ?_, rvs, st_of ?_, ?_⟩
      · rw [upd_ne hax, upd_ne hax, upd_ne hax]
        exact Ex.new hl _ _ (e23 _ _ ho)
      · rw [upd_same]
        rfl
      · rw [upd_ne hlx, upd_ne hlx, upd_ne hlx, upd_same]
      · refine Paired.mapP hP fun v r ⟨q, e, hq⟩ => ⟨q, e, ?_⟩
        have st : ∀ {H4 : Hp}, ExT H4 H4 := fun {H4} => ExT.refl H4
        rcases hq with (hq | ⟨o, hq⟩) | hq
        · have hqx : q ≠ x := ne_of hq hx fun z => by cases z
          refine .inl (.inl ?_)
          rw [upd_ne hqx, upd_ne hqx, upd_ne hqx]
          exact Ex.new hl _ _ (e23 _ _ hq)
        · have hqx : q ≠ x := ne_of hq hx fun z => by cases z
          refine .inl (.inr ⟨o, ?_⟩)
          rw [upd_ne hqx, upd_ne hqx, upd_ne hqx]
          exact Ex.new hl _ _ (e23 _ _ hq)
        · exact .inr hq
    · refine s_forE (K := K) (a := lr) (xs := rvs) (ea_cons (ev_var rfl) ea_nil) (ex_l e1 hL) (fun i σ' H' => ∃ u4 u5, σ' = [some (.ref x), some (.ref lr), some (.int b.accs), some (.int b.plcs), u4, u5] ∧ Ex H H')
        (fun H2 e2 => ⟨_, _, rfl, e1.trans e2⟩) (fun i σ' H' ⟨_, _, _, e⟩ => ex_l e hL) ?_ (fun σ' H' h => kM σ' H' h)
      rintro i v σ' H' t hi hv ⟨u4, u5, rfl, e2⟩ ht
      obtain ⟨r, hr1, hr2⟩ := paired_get hP hv
      have e3 : Ex H (upd H' t (.tup [.int (i : Nat), v])) := e2.trans (Ex.new ht)
      refine s_when (b := false) (et_is (et_not (et_B (b := true) (ev_callV (ea_cons (ev_var rfl) ea_nil) fun H4 e4 Q q E => ⟨v, r, rfl, ruleAt_st _ _ _ (e3.trans e4) hr2, hok.2 r (List.mem_of_getElem? hr1), q⟩))) rfl) (fun z => by cases z) (fun _ H4 e4 => ⟨_, _, rfl, e3.trans e4⟩)
end
end TL
/-! Trylocks, walk G: the law's draws. -/
namespace TL
open PySem PySem.Spec PyProof.Rows L2 Evl C8 RZ LamX NdefX
/-- all but p stay -/
def ExB (p : Addr) (H H' : Hp) : Prop := ∀ a o, a ≠ p → H a = some o → H' a = some o
theorem ExB.refl {p : Addr} {H : Hp} : ExB p H H := fun _ _ _ h => h
theorem ExB.of {p : Addr} {H H' : Hp} (e : Ex H H') : ExB p H H' := fun a o _ h => e a o h
theorem ExB.trans {p : Addr} {H H1 H2 : Hp} (a : ExB p H H1) (b : ExB p H1 H2) : ExB p H H2 := fun x o n h => b x o n (a x o n h)
theorem ExB.upd {p : Addr} {H : Hp} {o : HO} : ExB p H (upd H p o) := fun a u n h => by rw [upd_ne n]; exact h
section
variable {P : Program} {w : World} {K : PySem.W.Frag} {mg : Str → Option Value} {base : Heap}
/-- the draws at ld, in the midst of a script -/
def DrawsAt (K : PySem.W.Frag) (ld ls : Addr) (H : Hp) : Prop := ∃ (i wd s : Int) (ns : List Int), H ld = some (.lst [.ref ls, .int i, .int wd, .int s]) ∧ H ls = some (.lst (ns.map V.int)) ∧ ls ≠ ld ∧ 0 ≤ i ∧ 0 ≤ wd
theorem sqL_B {p a : Addr} {xs : List V} {H H' : Hp} (e : ExB p H H') (n : a ≠ p) (h : SqL K H a xs) : SqL K H' a xs := by
  rcases h with (h | ⟨o, h⟩) | h
  · exact .inl (.inl (e _ _ n h))
  · exact .inl (.inr ⟨o, e _ _ n h⟩)
  · exact .inr h
theorem drawsAt_st {ld ls : Addr} {H H' : Hp} (e : Ex H H') (h : DrawsAt K ld ls H) : DrawsAt K ld ls H' := let ⟨i, wd, s, ns, h1, h2, h3⟩ := h; ⟨i, wd, s, ns, e _ _ h1, e _ _ h2, h3⟩
/-- a draw: some number below m -/
def spDraw (K : PySem.W.Frag) : Sp := fun vs H Q _ => ∃ (ld ls : Addr) (m : Int), vs = [.ref ld, .int m] ∧ DrawsAt K ld ls H ∧ (1 ≤ m ∧ m ≤ 1000000) ∧ ∀ (z : Int) (H' : Hp), ExB ld H H' → DrawsAt K ld ls H' → 0 ≤ z → z < m → Q (.int z) H'
def nDraw : List Str := ["_law_draws", "_law_many", "_law_cell_here", "_law_found"]
theorem sc_draw : FnScope nDraw ["_law_draws", "_law_many"] (fnScope (top 39)) := fnScope_by (by decide +kernel)
theorem ev_ixL {σ : L2.St} {H : Hp} {ta tb : TE} {a : Addr} {xs : List V} {i : Int} {v : V} (h : Ev ta σ H (.ref a)) (hi : Ev tb σ H (.int i)) (s : SqL K H a xs) (e : atI xs i = some v) : Ev (tOp (rIxL K) ta tb) σ H v := ev_op h hi (rv_ixL s e)
abbrev rInt1 : List V → Hp → VK → Prop := fun xs H Q => (∃ i, xs = [.int i] ∧ Q (.int i) H) ∨ ∃ k, xs = [.bl k] ∧ Q (.int (if k then 1 else 0)) H
theorem ev_int1 {σ : L2.St} {H : Hp} {te : TE} {i : Int} (h : Ev te σ H (.int i)) : Ev (tCB rInt1 (tCons te tNil)) σ H (.int i) := fun H1 e Q q => h H1 e _ fun H2 e2 => .inl ⟨i, rfl, q H2 e2⟩
/-- xs[k] = v, as a statement -/
theorem q_setL {σ : L2.St} {H : Hp} {tv to ti : TE} {tz : TS} {D : Ends} {a : Addr} {xs : List V} {v : V} {k : Int} {j : Nat} (hv : Ev tv σ H v) (ho : Ev to σ H (.ref a)) (hi : Ev ti σ H (.int k)) (ha : H a = some (.lst xs)) (hj : ixN xs.length k = some j) (kont : ∀ H1, Ex H H1 → tz D σ (upd H1 a (.lst (xs.set j v)))) : tSeq (tAsg tv (gSub to ti rSetL)) tz D σ H :=
  hv H (Ex.refl H) _ fun H1 e1 => ho H1 e1 _ fun H2 e2 => hi H2 (e1.trans e2) _ fun H3 e3 => ⟨a, xs, k, j, rfl, rfl, ((e1.trans e2).trans e3) _ _ ha, hj, kont H3 ((e1.trans e2).trans e3)⟩
theorem s_setL {σ : L2.St} {H : Hp} {tv to ti : TE} {D : Ends} {a : Addr} {xs : List V} {v : V} {k : Int} {j : Nat} (hv : Ev tv σ H v) (ho : Ev to σ H (.ref a)) (hi : Ev ti σ H (.int k)) (ha : H a = some (.lst xs)) (hj : ixN xs.length k = some j) (kont : ∀ H1, Ex H H1 → D.nx σ (upd H1 a (.lst (xs.set j v)))) : tAsg tv (gSub to ti rSetL) D σ H :=
  hv H (Ex.refl H) _ fun H1 e1 => ho H1 e1 _ fun H2 e2 => hi H2 (e1.trans e2) _ fun H3 e3 => ⟨a, xs, k, j, rfl, rfl, ((e1.trans e2).trans e3) _ _ ha, hj, kont H3 ((e1.trans e2).trans e3)⟩
theorem c_draw (T : Tx K mg) (D : DefB K mg "_law_draw" (top 39) ["_law_draws", "_law_many"]) : Cal P w K mg base 1 "_law_draw" (spDraw K) [] := by
  refine calT D sc_draw (fun vs H Q E h => ?_) (fun f cdv A outer s H vs Q E hr h => ?_)
  · obtain ⟨ld, ls, m, rfl, _⟩ := h
    rfl
  · obtain ⟨ld, ls, m, rfl, hD, ⟨hm1, hm2⟩, k⟩ := h
    have nd := sc_draw.nd
    refine ⟨_, pss_cons (ps_if (pt_cmpR op_eq (pe_ix ix_list (pv 0) pe_int (fun _ _ => rfl)) pe_int (nomark _))
        (pss_one (ps_if (pt_cmpR op_lt (pe_ix ix_list (pv 0) pe_int (fun _ _ => rfl)) (pe_callB call_len_seq rfl (T.fr "len") boot_len (pa_cons (pe_ix ix_list (pv 0) pe_int (fun _ _ => rfl)) pa_nil)) (nomark _))
          (pss_cons (ps_set (i := 2) nd rfl (.inl rfl) (pe_ix ix_list (pe_ix ix_list (pv 0) pe_int (fun _ _ => rfl)) (pe_ix ix_list (pv 0) pe_int (fun _ _ => rfl)) (fun _ _ => rfl)))
          (pss_cons (ps_asg (pe_op op_add (pe_ix ix_list (pv 0) pe_int (fun _ _ => rfl)) pe_int) (pg_sub (pv 0) pe_int set_list (fun _ => rfl)))
          (pss_one (ps_if (pt_cmpR op_ge (pv 2) (pe_op op_pow pe_int pe_int) (nomark _))
            (pss_one (ps_asg (pv 2) (pg_sub (pv 0) pe_int set_list (fun _ => rfl))))
            (pss_one (ps_asg (pe_op op_mod (pe_callTy (r := rInt1) call_int1 rfl (T.fr "int") boot_int (pa_cons (pe_op op_add (pe_op op_add (pe_op op_mul (pe_ix ix_list (pv 0) pe_int (fun _ _ => rfl)) pe_int) (pe_op op_mul (pv 2) pe_int)) pe_int) pa_nil)) pe_int) (pg_sub (pv 0) pe_int set_list (fun _ => rfl))))))))
          (pss_one (ps_asg (pe_op op_mod (pe_callTy (r := rInt1) call_int1 rfl (T.fr "int") boot_int (pa_cons (pe_op op_add (pe_op op_mul (pe_ix ix_list (pv 0) pe_int (fun _ _ => rfl)) pe_int) pe_int) pa_nil)) pe_int) (pg_sub (pv 0) pe_int set_list (fun _ => rfl)))))) pss_nil)
      (pss_cons (ps_if (pt_cmpR op_gt (pe_ix ix_list (pv 0) pe_int (fun _ _ => rfl)) pe_int (nomark _))
        (pss_cons (ps_set (i := 3) nd rfl (.inl rfl) (pe_op op_mod (pe_callTy (r := rInt1) call_int1 rfl (T.fr "int") boot_int (pa_cons (pe_ix ix_list (pv 0) pe_int (fun _ _ => rfl)) pa_nil)) (pv 1)))
        (pss_cons (ps_asg (pe_op op_fdivW (pe_ix ix_list (pv 0) pe_int (fun _ _ => rfl)) (pv 1)) (pg_sub (pv 0) pe_int set_list (fun _ => rfl)))
        (pss_one (ps_ret (pv 3))))) pss_nil)
      (pss_one (ps_ret (pe_op op_mod (pe_op op_mod (pe_callTy (r := rInt1) call_int1 rfl (T.fr "int") boot_int (pa_cons (pe_op op_mul (pe_ix ix_list (pv 0) pe_int (fun _ _ => rfl)) pe_int) pa_nil)) pe_int) (pv 1))))), ?_⟩
    have hs : L2.start nDraw [.ref ld, .int m] = [some (.ref ld), some (.int m), none, none] := rfl
    rw [hs]
    obtain ⟨i, wd, sd, ns, hl, hS, hne, hi0, hw0⟩ := id hD
    have g : ∀ {σ1 : L2.St} {H1 : Hp} {n : Nat} {xs : List V} {x : V}, σ1[0]? = some (some (.ref ld)) → H1 ld = some (.lst xs) → xs[n]? = some x → Ev (tOp (rIxL K) (tVar 0) (tC (.int (n : Int)))) σ1 H1 x := fun h0 h1 hx => ev_ixL (ev_var h0) ev_c (SqL.of h1) (atI_nat hx)
    refine cutK (M := fun σ' H' => ∃ u2 u3, σ' = [some (.ref ld), some (.int m), u2, u3] ∧ ExB ld H H' ∧ DrawsAt K ld ls H') ?_ fun kM => ?_
    · rintro σ' H' ⟨u2, u3, rfl, eB, i, wd, sd, ns, hl, hS, hne, hi0, hw0⟩
      refine q_when (b := decide (0 < wd)) (et_op (g (n := 2) rfl hl rfl) ev_c rv_I0) (fun hb H1 e1 => ?_) (fun hb H1 e1 => ?_)
      · refine q_asg (v := .int (wd % m)) (ev_op (ev_int1 (g (n := 2) rfl (e1 _ _ hl) rfl)) (ev_var rfl) (rv_I (by omega))) fun H2 e2 => ?_
        have hl2 := (e1.trans e2) _ _ hl
        refine q_setL (j := 2) (v := .int (wd / m)) (ev_op (g (n := 2) rfl hl2 rfl) (ev_var rfl) (rv_I (wide_div (b := 20) (by omega) (by omega) (by decide) (by decide)))) (ev_var rfl) ev_c hl2 rfl fun H3 e3 => ?_
        refine s_ret (ev_var rfl) fun H4 e4 => k (wd % m) H4 (((eB.trans (ExB.of ((e1.trans e2).trans e3))).trans ExB.upd).trans (ExB.of e4)) (drawsAt_st e4 ⟨i, wd / m, sd, ns, upd_same, ExB.upd _ _ hne (((e1.trans e2).trans e3) _ _ hS), hne, hi0, Int.ediv_nonneg hw0 (by omega)⟩) (Int.emod_nonneg _ (by omega)) (Int.emod_lt_of_pos _ (by omega))
      · refine s_ret (v := .int (sd * 16807 % 2147483629 % m)) (ev_op (ev_op (ev_int1 (ev_op (g (n := 3) rfl (e1 _ _ hl) rfl) ev_c (rv_I (.inr ⟨by decide, by decide⟩)))) ev_c (rv_I (by decide))) (ev_var rfl) (rv_I (by omega))) fun H2 e2 => ?_
        exact k _ H2 (eB.trans (ExB.of (e1.trans e2))) (drawsAt_st (e1.trans e2) ⟨i, wd, sd, ns, hl, hS, hne, hi0, hw0⟩) (Int.emod_nonneg _ (by omega)) (Int.emod_lt_of_pos _ (by omega))
    · refine q_when (b := decide (V.int wd = V.int 0)) (et_op (g (n := 2) rfl hl rfl) ev_c (rv_eq rfl)) (fun hb H1 e1 => ?_) (fun hb H1 e1 => kM _ _ ⟨_, _, rfl, ExB.of e1, drawsAt_st e1 hD⟩)
      have hl1 := e1 _ _ hl
      have hS1 := e1 _ _ hS
      refine s_if (b := decide (i < ((ns.map V.int).length : Int))) (et_op (g (n := 1) rfl hl1 rfl) (ev_lenS (g (n := 0) rfl hl1 rfl) (SqL.of hS1)) rv_I0) (fun hb2 H2 e2 => ?_) (fun hb2 H2 e2 => ?_)
      · have hlt : i < (ns.length : Int) := by have q := of_decide_eq_true hb2; rw [List.length_map] at q; exact q
        obtain ⟨n, rfl⟩ : ∃ n : Nat, i = (n : Int) := ⟨i.toNat, by omega⟩
        have hn : n < ns.length := by omega
        have hl2 := e2 _ _ hl1
        have hS2 := e2 _ _ hS1
        refine q_asg (v := .int ns[n]) (ev_ixL (g (n := 0) rfl hl2 rfl) (g (n := 1) rfl hl2 rfl) (SqL.of hS2) (atI_nat (by rw [List.getElem?_map, List.getElem?_eq_getElem hn]; rfl))) fun H3 e3 => ?_
        have hl3 := e3 _ _ hl2
        have hS3 := e3 _ _ hS2
        refine q_setL (j := 1) (v := .int ((n : Int) + 1)) (ev_add (g (n := 1) rfl hl3 rfl) ev_c) (ev_var rfl) ev_c hl3 rfl fun H4 e4 => ?_
        have eB4 : ExB ld H (upd H4 ld (.lst ([.ref ls, .int (n : Int), .int wd, .int sd].set 1 (.int ((n : Int) + 1))))) := (ExB.of (((e1.trans e2).trans e3).trans e4)).trans ExB.upd
        have hl4 : (upd H4 ld (.lst ([.ref ls, .int (n : Int), .int wd, .int sd].set 1 (.int ((n : Int) + 1))))) ld = some (.lst [.ref ls, .int ((n : Int) + 1), .int wd, .int sd]) := upd_same
        have hS4 : (upd H4 ld (.lst ([.ref ls, .int (n : Int), .int wd, .int sd].set 1 (.int ((n : Int) + 1))))) ls = some (.lst (ns.map V.int)) := ExB.upd _ _ hne (e4 _ _ hS3)
        generalize upd H4 ld (.lst ([.ref ls, .int (n : Int), .int wd, .int sd].set 1 (.int ((n : Int) + 1)))) = H5 at eB4 hl4 hS4 ⊢
        generalize ns[n] = c
        refine s_if (b := decide ((10 : Int) ^ 18 ≤ c)) (et_op (ev_var rfl) (ev_op ev_c ev_c (rv_I (⟨by decide, by decide, by decide⟩ : CPow 10 18))) rv_I0) (fun hb3 H6 e6 => ?_) (fun hb3 H6 e6 => ?_)
        · have hc : (10 : Int) ^ 18 ≤ c := of_decide_eq_true hb3
          exact s_setL (j := 2) (ev_var rfl) (ev_var rfl) ev_c (e6 _ _ hl4) rfl fun H7 e7 => kM _ _ ⟨_, _, rfl, (eB4.trans (ExB.of (e6.trans e7))).trans ExB.upd, (n : Int) + 1, c, sd, ns, upd_same, ExB.upd _ _ hne ((e6.trans e7) _ _ hS4), hne, by omega, Int.le_trans (by decide) hc⟩
        · exact s_setL (j := 3) (v := .int ((sd * 48271 + c * 69621 + 11) % 2147483647)) (ev_op (ev_int1 (ev_add (ev_add (ev_op (g (n := 3) rfl (e6 _ _ hl4) rfl) ev_c (rv_I (.inr ⟨by decide, by decide⟩))) (ev_op (ev_var rfl) ev_c (rv_I (.inr ⟨by decide, by decide⟩)))) ev_c)) ev_c (rv_I (by decide))) (ev_var rfl) ev_c (e6 _ _ hl4) rfl fun H7 e7 => kM _ _ ⟨_, _, rfl, (eB4.trans (ExB.of (e6.trans e7))).trans ExB.upd, (n : Int) + 1, wd, _, ns, upd_same, ExB.upd _ _ hne ((e6.trans e7) _ _ hS4), hne, by omega, hw0⟩
      · exact s_setL (j := 3) (v := .int ((sd * 48271 + 7) % 2147483647)) (ev_op (ev_int1 (ev_add (ev_op (g (n := 3) rfl (e2 _ _ hl1) rfl) ev_c (rv_I (.inr ⟨by decide, by decide⟩))) ev_c)) ev_c (rv_I (by decide))) (ev_var rfl) ev_c (e2 _ _ hl1) rfl fun H7 e7 => kM _ _ ⟨_, _, rfl, (ExB.of ((e1.trans e2).trans e7)).trans ExB.upd, i, wd, _, ns, upd_same, ExB.upd _ _ hne ((e2.trans e7) _ _ hS1), hne, hi0, hw0⟩
end
end TL
/-! Trylocks, walk H: begin, flag, rule, sizes, rules. -/
namespace TL
open PySem PySem.Spec PyProof.Rows L2 Evl C8 RZ LamX NdefX
section
variable {P : Program} {w : World} {K : PySem.W.Frag} {mg : Str → Option Value} {base : Heap}
theorem ExB.t {ld ls : Addr} {H H' : Hp} (hD : DrawsAt K ld ls H) (e : ExB ld H H') : ExT H H' := fun a o h n => by
  refine e a o (fun z => ?_) h
  obtain ⟨i, wd, s, ns, hl, _⟩ := hD
  rw [z, hl] at h
  cases h
  cases n
/-- te gives some value with a word, whatever the draws do -/
def EB (K : PySem.W.Frag) (ld ls : Addr) (te : TE) (σ : L2.St) (H : Hp) (R : V → Hp → Prop) : Prop := ∀ H1, ExB ld H H1 → DrawsAt K ld ls H1 → ∀ Q : VK, (∀ v H2, ExB ld H1 H2 → DrawsAt K ld ls H2 → R v H2 → Q v H2) → te σ H1 Q
def IsDraw (m : Int) (v : V) (_ : Hp) : Prop := ∃ z, v = .int z ∧ 0 ≤ z ∧ z < m
theorem eb_draw {ld ls : Addr} {σ : L2.St} {H : Hp} {i : Nat} {tm : TE} {m : Int} (hi : σ[i]? = some (some (.ref ld))) (hm : ∀ H1, Ev tm σ H1 (.int m)) (h1 : 1 ≤ m ∧ m ≤ 1000000) : EB K ld ls (tCall (spDraw K) [] C8.E0 (tCons (tVar i) (tCons tm tNil))) σ H (IsDraw m) := fun H1 _ hD Q q =>
  ⟨_, hi, hm H1 H1 (Ex.refl H1) _ fun H2 e2 => ⟨ld, ls, m, rfl, drawsAt_st e2 hD, h1, fun z H3 e3 hD3 h0 hz => q _ H3 ((ExB.of e2).trans e3) hD3 ⟨z, rfl, h0, hz⟩⟩⟩
theorem q_asgB {ld ls : Addr} {σ : L2.St} {H : Hp} {te : TE} {tz : TS} {D : Ends} {i : Nat} {R : V → Hp → Prop} (h : EB K ld ls te σ H R) (hD : DrawsAt K ld ls H) (k : ∀ v H1, ExB ld H H1 → DrawsAt K ld ls H1 → R v H1 → tz D (σ.set i (some v)) H1) : tSeq (tAsg te (gName i)) tz D σ H := h H ExB.refl hD _ fun v H2 e2 hD2 r => k v H2 e2 hD2 r
theorem s_retB {ld ls : Addr} {σ : L2.St} {H : Hp} {te : TE} {D : Ends} {R : V → Hp → Prop} (h : EB K ld ls te σ H R) (hD : DrawsAt K ld ls H) (k : ∀ v H1, ExB ld H H1 → DrawsAt K ld ls H1 → R v H1 → D.rt v H1) : tRet te D σ H := h H ExB.refl hD _ k
theorem EB.imp {ld ls : Addr} {σ : L2.St} {H : Hp} {te : TE} {R R' : V → Hp → Prop} (h : EB K ld ls te σ H R) (i : ∀ v H, R v H → R' v H) : EB K ld ls te σ H R' := fun H1 e hD Q q => h H1 e hD Q fun v H2 e2 hD2 r => q v H2 e2 hD2 (i v H2 r)
theorem eb_of {ld ls : Addr} {σ : L2.St} {H : Hp} {te : TE} {R : V → Hp → Prop} (h : ∀ H1, Er te σ H1 R) : EB K ld ls te σ H R := fun H1 _ hD Q q => h H1 H1 (Ex.refl H1) Q fun v H2 e2 r => q v H2 (ExB.of e2) (drawsAt_st e2 hD) r
/-- a display's items -/
theorem eap_nil {α : Type} {F : α → V → Hp → Prop} {σ : L2.St} {H : Hp} : ErA tNil σ H (fun vs H2 => Paired (fun v a => F a v H2) vs []) := fun H1 _ Q q => q [] H1 (Ex.refl H1) .nil
theorem eap_cons {α : Type} {F : α → V → Hp → Prop} {σ : L2.St} {H : Hp} {te : TE} {tr : TA} {a : α} {as : List α} (st : StaysT (F a)) (h : Er te σ H (F a)) (hr : ErA tr σ H (fun vs H2 => Paired (fun v a => F a v H2) vs as)) : ErA (tCons te tr) σ H (fun vs H2 => Paired (fun v a => F a v H2) vs (a :: as)) := fun H1 e Q q =>
  h H1 e _ fun v H2 e2 r => hr H2 (e.trans e2) _ fun vs H3 e3 rs => q (v :: vs) H3 (e2.trans e3) (.cons (st _ _ _ (exT e3) r) rs)
/-- [a, b, ..][draw] -/
theorem eb_pick {α : Type} {F : α → V → Hp → Prop} {ld ls : Addr} {σ : L2.St} {H : Hp} {ta : TA} {tb : TE} {as : List α} (hx : ∀ H1, ErA ta σ H1 (fun vs H2 => Paired (fun v a => F a v H2) vs as)) (hd : ∀ H1, EB K ld ls tb σ H1 (IsDraw as.length)) (st : ∀ a, StaysT (F a)) (hl : as.length ≤ 1000) :
    EB K ld ls (tOp (rIxL K) (tLst ta) tb) σ H (fun v H2 => ∃ a ∈ as, F a v H2) := fun H1 e hD Q q =>
  hx H1 H1 (Ex.refl H1) _ fun vs H2 e2 hp => ⟨sz_of (by have := Paired.length hp; omega), fun p hp0 => by
    have hD2 := drawsAt_st (e2.trans (Ex.new (o := .lst vs) hp0)) hD
    have hpl : p ≠ ld := fun z => by
      obtain ⟨i, wd, s, ns, hl, _⟩ := drawsAt_st e2 hD
      rw [z, hl] at hp0
      cases hp0
    refine hd _ _ ExB.refl hD2 _ fun v H3 e3 hD3 ⟨z, ez, h0, hz⟩ => ?_
    subst ez
    obtain ⟨n, rfl⟩ : ∃ n : Nat, z = (n : Int) := ⟨z.toNat, by omega⟩
    have hlen := Paired.length hp
    have hn : n < vs.length := by omega
    obtain ⟨a, ha1, ha2⟩ := paired_get hp (List.getElem?_eq_getElem hn)
    exact ⟨p, vs, n, vs[n], rfl, rfl, SqL.of (e3 _ _ hpl upd_same), atI_nat (List.getElem?_eq_getElem hn), q _ H3 ((ExB.of (e2.trans (Ex.new hp0))).trans e3) hD3 ⟨a, List.mem_of_getElem? ha1, st _ _ _ _ ((exT (Ex.new hp0)).trans (ExB.t hD2 e3)) ha2⟩⟩⟩
def FEq (a : V) (v : V) (_ : Hp) : Prop := v = a
theorem feq_T (a : V) : StaysT (FEq a) := fun _ _ _ _ h => h
theorem er_c {σ : L2.St} {H : Hp} {a : V} : Er (tC a) σ H (FEq a) := fun H1 _ Q q => q a H1 (Ex.refl H1) rfl
/-! ### begin -/
def nBegin : List Str := ["_law_script"]
theorem sc_begin : FnScope nBegin ["_law_script"] (fnScope (top 38)) := fnScope_by (by decide +kernel)
def spBegin (K : PySem.W.Frag) : Sp := fun vs H Q _ => ∃ (ls : Addr) (ns : List Int), vs = [.ref ls] ∧ SqL K H ls (ns.map V.int) ∧ ∀ ld ls H', Ex H H' → DrawsAt K ld ls H' → H ld = none → Q (.ref ld) H'
theorem c_beginL (T : Tx K mg) (D : DefB K mg "_law_begin" (top 38) ["_law_script"]) : Cal P w K mg base 1 "_law_begin" (spBegin K) [] := by
  refine calT D sc_begin (fun vs H Q E h => ?_) (fun f cdv A outer s H vs Q E hr h => ?_)
  · obtain ⟨ls, ns, rfl, _⟩ := h
    rfl
  · obtain ⟨ls, ns, rfl, hS, k⟩ := h
    refine ⟨_, pss_one (ps_ret (pe_lst (pa_cons (pe_callTy (r := rListS K) call_list_of rfl (T.fr "list") (by decide +kernel) (pa_cons (pv 0) pa_nil)) (pa_cons pe_int (pa_cons pe_int (pa_cons pe_int pa_nil)))))), ?_⟩
    refine ⟨_, rfl, ls, _, rfl, .inl hS, fun l hl => ⟨sz_of (by show 4 ≤ 100000; decide), fun p hp => ?_⟩⟩
    have hpl : l ≠ p := fun z => by
      rw [← z, upd_same] at hp
      cases hp
    have e1 : Ex H (upd H l (.lst (ns.map V.int))) := Ex.new hl
    exact k p l _ (e1.trans (Ex.new hp)) ⟨0, 0, 7, ns, upd_same, (by rw [upd_ne hpl]; exact upd_same), hpl, Int.le_refl _, Int.le_refl _⟩ (none_of_ex e1 hp)
/-! ### flag -/
theorem sc_flag : FnScope ["_law_draws"] ["_law_draws"] (fnScope (top 40)) := fnScope_by (by decide +kernel)
def spFlag (K : PySem.W.Frag) : Sp := fun vs H Q _ => ∃ (ld ls : Addr), vs = [.ref ld] ∧ DrawsAt K ld ls H ∧ ∀ (b : Bool) (H' : Hp), ExB ld H H' → DrawsAt K ld ls H' → Q (.bl b) H'
theorem c_flag (T : Tx K mg) (D0 : DefB K mg "_law_draw" (top 39) ["_law_draws", "_law_many"]) (D : DefB K mg "_law_flag" (top 40) ["_law_draws"]) : Cal P w K mg base 2 "_law_flag" (spFlag K) [] := by
  have cD := c_draw (P := P) (w := w) (base := base) T D0
  refine calT D sc_flag (fun vs H Q E h => ?_) (fun f cdv A outer s H vs Q E hr h => ?_)
  · obtain ⟨ld, ls, rfl, _⟩ := h
    rfl
  · obtain ⟨ld, ls, rfl, hD, k⟩ := h
    refine ⟨_, pss_one (ps_ret (pe_cmpR op_eq (pe_c cD hr (by decide) rfl (pa_cons (pv 0) (pa_cons pe_int pa_nil))) pe_int (nomark _))), ?_⟩
    refine eb_draw (K := K) (ld := ld) (ls := ls) (σ := [some (.ref ld)]) (H := H) rfl (fun _ => ev_c) ⟨by decide, by decide⟩ H ExB.refl hD _ fun v H2 e2 hD2 ⟨z, ez, _⟩ => ?_
    subst ez
    exact ⟨rfl, k _ H2 e2 hD2⟩
end
end TL
/-! Trylocks, walk I: rule, sizes, rules. -/
namespace TL
open PySem PySem.Spec PyProof.Rows L2 Evl C8 RZ LamX NdefX
/-- the law's draw, flag as the module has them -/
structure Tz (K : PySem.W.Frag) (mg : Str → Option Value) : Prop where
  begin_ : DefB K mg "_law_begin" (top 38) ["_law_script"]
  draw : DefB K mg "_law_draw" (top 39) ["_law_draws", "_law_many"]
  flag : DefB K mg "_law_flag" (top 40) ["_law_draws"]
  rule : DefB K mg "_law_rule" (top 41) ["_law_draws"]
  sizes : DefB K mg "_law_sizes" (top 42) ["_law_draws"]
  rules : DefB K mg "_law_rules" (top 43) ["_law_draws", "_law_most"]
  actions : DefB K mg "_law_actions" (top 44) ["_law_accounts", "_law_places"]
  pick : DefB K mg "_law_pick" (top 45) ["_law_draws", "_law_rows_here"]
section
variable {P : Program} {w : World} {K : PySem.W.Frag} {mg : Str → Option Value} {base : Heap}
theorem eb_flag {ld ls : Addr} {σ : L2.St} {H : Hp} {i : Nat} (hi : σ[i]? = some (some (.ref ld))) : EB K ld ls (tCall (spFlag K) [] C8.E0 (tCons (tVar i) tNil)) σ H (fun v _ => ∃ b, v = .bl b) := fun H1 _ hD Q q =>
  ⟨_, hi, ld, ls, rfl, hD, fun b H2 e2 hD2 => q _ H2 e2 hD2 ⟨b, rfl⟩⟩
/-! ### rule -/
def nRule : List Str := ["_law_draws", "_law_key_here", "_law_most", "_law_lock", "_law_fade"]
theorem sc_rule : FnScope nRule ["_law_draws"] (fnScope (top 41)) := fnScope_by (by decide +kernel)
def spRule (K : PySem.W.Frag) : Sp := fun vs H Q _ => ∃ (ld ls : Addr), vs = [.ref ld] ∧ DrawsAt K ld ls H ∧ ∀ v (r : TL.Rule) H', ExB ld H H' → DrawsAt K ld ls H' → RuleAt K r v H' → RuleOk r → Q v H'
theorem eb_one {ld ls : Addr} {σ : L2.St} {H : Hp} {te : TE} {m : Int} (h : EB K ld ls te σ H (IsDraw m)) : EB K ld ls (tOp (rI0 fun i j => .int (i + j)) (tC (.int 1)) te) σ H (fun v _ => ∃ z, v = .int z ∧ 1 ≤ z ∧ z ≤ m) := fun H1 e hD Q q =>
  h H1 e hD _ fun v H2 e2 hD2 ⟨z, ez, h0, hz⟩ => by
    subst ez
    exact ⟨1, z, rfl, rfl, q _ H2 e2 hD2 ⟨1 + z, rfl, by omega, by omega⟩⟩
theorem c_rule (T : Tx K mg) (L : Tz K mg) : Cal P w K mg base 3 "_law_rule" (spRule K) [] := by
  have cD := c_draw (P := P) (w := w) (base := base) T L.draw
  have cF := c_flag (P := P) (w := w) (base := base) T L.draw L.flag
  refine calT L.rule sc_rule (fun vs H Q E h => ?_) (fun f cdv A outer s H vs Q E hr h => ?_)
  · obtain ⟨ld, ls, rfl, _⟩ := h
    rfl
  · obtain ⟨ld, ls, rfl, hD, k⟩ := h
    have nd := sc_rule.nd
    refine ⟨_, pss_cons (ps_set (i := 1) nd rfl (.inl rfl) (pe_ix ix_list (pe_lst (pa_cons pe_str (pa_cons pe_str (pa_cons pe_str pa_nil)))) (pe_c cD hr (by decide) rfl (pa_cons (pv 0) (pa_cons pe_int pa_nil))) (fun _ _ => rfl)))
      (pss_cons (ps_set (i := 2) nd rfl (.inl rfl) (pe_op op_add pe_int (pe_c cD hr (by decide) rfl (pa_cons (pv 0) (pa_cons pe_int pa_nil)))))
      (pss_cons (ps_set (i := 3) nd rfl (.inl rfl) (pe_op op_add pe_int (pe_c cD hr (by decide) rfl (pa_cons (pv 0) (pa_cons pe_int pa_nil)))))
      (pss_cons (ps_set (i := 4) nd rfl (.inl rfl) (pe_ix ix_list (pe_lst (pa_cons pe_int (pa_cons pe_int (pa_cons pe_int (pa_cons pe_int (pa_cons pe_int pa_nil)))))) (pe_c cD hr (by decide) rfl (pa_cons (pv 0) (pa_cons pe_int pa_nil))) (fun _ _ => rfl)))
      (pss_one (ps_ret (pe_tup (pa_cons (pv 1) (pa_cons (pv 2) (pa_cons (pv 3) (pa_cons (pv 4) (pa_cons (pe_c cF hr (by decide) rfl (pa_cons (pv 0) pa_nil)) (pa_cons (pe_c cF hr (by decide) rfl (pa_cons (pv 0) pa_nil)) (pa_cons (pe_c cF hr (by decide) rfl (pa_cons (pv 0) pa_nil)) pa_nil))))))))))))), ?_⟩
    have hs : L2.start nRule [.ref ld] = [some (.ref ld), none, none, none, none] := rfl
    rw [hs]
    refine q_asgB (eb_pick (K := K) (F := FEq) (as := [.str "account", .str "place", .str "both"]) (fun H1 => eap_cons (feq_T _) er_c (eap_cons (feq_T _) er_c (eap_cons (feq_T _) er_c eap_nil))) (fun H1 => eb_draw (m := 3) rfl (fun _ => ev_c) ⟨by decide, by decide⟩) feq_T (by decide)) hD fun v1 H1 e1 hD1 ⟨a1, ha1, r1⟩ => ?_
    refine q_asgB (eb_one (eb_draw (K := K) (m := 3) rfl (fun _ => ev_c) ⟨by decide, by decide⟩)) hD1 fun v2 H2 e2 hD2 ⟨z2, r2, l2, u2⟩ => ?_
    refine q_asgB (eb_one (eb_draw (K := K) (m := 4) rfl (fun _ => ev_c) ⟨by decide, by decide⟩)) hD2 fun v3 H3 e3 hD3 ⟨z3, r3, l3, u3⟩ => ?_
    refine q_asgB (eb_pick (K := K) (F := FEq) (as := [.int 0, .int 1, .int 2, .int 3, .int 5]) (fun H1 => eap_cons (feq_T _) er_c (eap_cons (feq_T _) er_c (eap_cons (feq_T _) er_c (eap_cons (feq_T _) er_c (eap_cons (feq_T _) er_c eap_nil))))) (fun H1 => eb_draw (m := 5) rfl (fun _ => ev_c) ⟨by decide, by decide⟩) feq_T (by decide)) hD3 fun v4 H4 e4 hD4 ⟨a4, ha4, r4⟩ => ?_
    obtain rfl : v1 = a1 := r1
    obtain rfl : v4 = a4 := r4
    subst r2 r3
    refine ⟨_, rfl, _, rfl, _, rfl, _, rfl, ?_⟩
    refine eb_flag (K := K) (ld := ld) (ls := ls) rfl H4 ExB.refl hD4 _ fun b1 H5 e5 hD5 ⟨b1', eb1⟩ => ?_
    refine eb_flag (K := K) (ld := ld) (ls := ls) rfl H5 ExB.refl hD5 _ fun b2 H6 e6 hD6 ⟨b2', eb2⟩ => ?_
    refine eb_flag (K := K) (ld := ld) (ls := ls) rfl H6 ExB.refl hD6 _ fun b3 H7 e7 hD7 ⟨b3', eb3⟩ => ?_
    subst eb1 eb2 eb3
    refine ⟨sz_of (by show 7 ≤ 100000; decide), fun p hp => ?_⟩
    obtain ⟨kk, hkk, hk2⟩ : ∃ kk : Nat, v1 = .str (keyStr kk) ∧ kk ≤ 2 := by
      simp only [List.mem_cons, List.not_mem_nil, or_false] at ha1
      rcases ha1 with rfl | rfl | rfl
      · exact ⟨0, rfl, by decide⟩
      · exact ⟨1, rfl, by decide⟩
      · exact ⟨2, rfl, by decide⟩
    obtain ⟨ff, hff, hf0, hf5⟩ : ∃ ff : Int, v4 = .int ff ∧ 0 ≤ ff ∧ ff ≤ 5 := by
      simp only [List.mem_cons, List.not_mem_nil, or_false] at ha4
      rcases ha4 with rfl | rfl | rfl | rfl | rfl
      · exact ⟨0, rfl, by decide, by decide⟩
      · exact ⟨1, rfl, by decide, by decide⟩
      · exact ⟨2, rfl, by decide, by decide⟩
      · exact ⟨3, rfl, by decide, by decide⟩
      · exact ⟨5, rfl, by decide, by decide⟩
    subst hkk hff
    refine k _ ⟨kk, z2, z3, ff, b1', b2', b3'⟩ _ ((((((e1.trans e2).trans e3).trans e4).trans e5).trans e6).trans e7 |>.trans (ExB.of (Ex.new hp))) (drawsAt_st (Ex.new hp) hD7) ⟨p, rfl, st_of upd_same⟩ ⟨hk2, ⟨l2, u2⟩, ⟨l3, u3⟩, hf0, hf5⟩
/-! ### sizes -/
theorem sc_sizes : FnScope ["_law_draws"] ["_law_draws"] (fnScope (top 42)) := fnScope_by (by decide +kernel)
def PairIs (a : Int × Int) (v : V) (H : Hp) (K : PySem.W.Frag) : Prop := ∃ p, v = .ref p ∧ SqT K H p [.int a.1, .int a.2]
def spSizes (K : PySem.W.Frag) : Sp := fun vs H Q _ => ∃ (ld ls : Addr), vs = [.ref ld] ∧ DrawsAt K ld ls H ∧ ∀ v (a : Int × Int) H', ExB ld H H' → DrawsAt K ld ls H' → PairIs a v H' K → a ∈ [((1 : Int), (1 : Int)), (2, 1), (1, 2), (2, 1)] → Q v H'
theorem er_pairIs {σ : L2.St} {H : Hp} {i j : Int} : Er (tTup (tCons (tC (.int i)) (tCons (tC (.int j)) tNil))) σ H (fun v H2 => PairIs (i, j) v H2 K) := er_pair ev_c ev_c
theorem pairIs_T (a : Int × Int) : StaysT (fun v H => PairIs a v H K) := fun v H H' e ⟨p, h, s⟩ => ⟨p, h, e.sq s⟩
theorem c_sizes (T : Tx K mg) (L : Tz K mg) : Cal P w K mg base 2 "_law_sizes" (spSizes K) [] := by
  have cD := c_draw (P := P) (w := w) (base := base) T L.draw
  refine calT L.sizes sc_sizes (fun vs H Q E h => ?_) (fun f cdv A outer s H vs Q E hr h => ?_)
  · obtain ⟨ld, ls, rfl, _⟩ := h
    rfl
  · obtain ⟨ld, ls, rfl, hD, k⟩ := h
    refine ⟨_, pss_one (ps_ret (pe_ix ix_list (pe_lst (pa_cons (pe_tup (pa_cons pe_int (pa_cons pe_int pa_nil))) (pa_cons (pe_tup (pa_cons pe_int (pa_cons pe_int pa_nil))) (pa_cons (pe_tup (pa_cons pe_int (pa_cons pe_int pa_nil))) (pa_cons (pe_tup (pa_cons pe_int (pa_cons pe_int pa_nil))) pa_nil))))) (pe_c cD hr (by decide) rfl (pa_cons (pv 0) (pa_cons pe_int pa_nil))) (fun _ _ => rfl))), ?_⟩
    refine s_retB (σ := [some (.ref ld)]) (eb_pick (K := K) (F := fun a v H => PairIs a v H K) (as := [((1 : Int), (1 : Int)), (2, 1), (1, 2), (2, 1)]) (fun H1 => eap_cons (pairIs_T _) er_pairIs (eap_cons (pairIs_T _) er_pairIs (eap_cons (pairIs_T _) er_pairIs (eap_cons (pairIs_T _) er_pairIs eap_nil)))) (fun H1 => eb_draw (m := 4) rfl (fun _ => ev_c) ⟨by decide, by decide⟩) pairIs_T (by decide)) hD fun v H1 e1 hD1 ⟨a, ha, r⟩ => k v a H1 e1 hD1 r ha
end
end TL
/-! Trylocks, walk J: rules, actions, pick. -/
namespace TL
open PySem PySem.Spec PyProof.Rows L2 Evl C8 RZ LamX NdefX
section
variable {P : Program} {w : World} {K : PySem.W.Frag} {mg : Str → Option Value} {base : Heap}
/-! ### rules -/
def nRules : List Str := ["_law_draws", "_law_most", "_law_k"]
theorem sc_rules : FnScope nRules ["_law_draws", "_law_most"] (fnScope (top 43)) := fnScope_by (by decide +kernel)
def spRules (K : PySem.W.Frag) : Sp := fun vs H Q _ => ∃ (ld ls : Addr), vs = [.ref ld, .int 3] ∧ DrawsAt K ld ls H ∧ ∀ (lr : Addr) (rvs : List V) (rs : List TL.Rule) H', ExB ld H H' → DrawsAt K ld ls H' → H' lr = some (.lst rvs) → H lr = none → Paired (fun v r => RuleAt K r v H') rvs rs → (∀ r ∈ rs, RuleOk r) → rs.length ≤ 3 → Q (.ref lr) H'
theorem ruleAt_B {ld ls : Addr} {r : TL.Rule} {v : V} {H H' : Hp} (hD : DrawsAt K ld ls H) (e : ExB ld H H') (h : RuleAt K r v H) : RuleAt K r v H' := ruleAt_T _ _ _ (ExB.t hD e) h
theorem draws_ne {ld ls p : Addr} {H : Hp} (hD : DrawsAt K ld ls H) (hp : H p = none) : p ≠ ld := fun z => by
  obtain ⟨i, wd, s, ns, hl, _⟩ := hD
  rw [z, hl] at hp
  cases hp
theorem draws_ne2 {ld ls p : Addr} {H : Hp} (hD : DrawsAt K ld ls H) (hp : H p = none) : p ≠ ls := fun z => by
  obtain ⟨i, wd, s, ns, hl, hS, _⟩ := hD
  rw [← z, hp] at hS
  cases hS
theorem ExB.new {ld p : Addr} {H H' : Hp} {o : HO} (e : ExB ld H H') (hp : H p = none) : ExB ld H (L2.upd H' p o) := fun a u n h => by
  rw [upd_ne (ne_of_none h hp)]
  exact e a u n h
/-- another list is written: the script's own is not it -/
theorem drawsAt_upd {ld ls p : Addr} {H : Hp} {o : HO} (hD : DrawsAt K ld ls H) (n1 : p ≠ ld) (n2 : p ≠ ls) : DrawsAt K ld ls (upd H p o) := by
  obtain ⟨i, wd, s, ns, hl, hS, h3⟩ := hD
  exact ⟨i, wd, s, ns, by rw [upd_ne (Ne.symm n1)]; exact hl, by rw [upd_ne (Ne.symm n2)]; exact hS, h3⟩
theorem c_rules (T : Tx K mg) (L : Tz K mg) : Cal P w K mg base 4 "_law_rules" (spRules K) [] := by
  have cD := c_draw (P := P) (w := w) (base := base) T L.draw
  have cR := c_rule (P := P) (w := w) (base := base) T L
  refine calT L.rules sc_rules (fun vs H Q E h => ?_) (fun f cdv A outer s H vs Q E hr h => ?_)
  · obtain ⟨ld, ls, rfl, _⟩ := h
    rfl
  · obtain ⟨ld, ls, rfl, hD, k⟩ := h
    have nd := sc_rules.nd
    refine ⟨_, pss_one (ps_ret (pe_lc (own := [("_law_k", 2)]) (g := gName 2) (tt := tYes) (wi := iRng1 (tCons (tCall (spDraw K) [] C8.E0 (tCons (tVar 0) (tCons (tOp (rI0 fun i j => .int (i + j)) (tVar 1) (tC (.int 1))) tNil))) tNil)) rfl nd (pi_range1 rfl (T.fr "range") (pa_cons (pe_c cD hr (by decide) rfl (pa_cons (pv 0) (pa_cons (pe_op op_add (pv 1) pe_int) pa_nil))) pa_nil))
      (blkOk_by (N := nRules) (sc := fnScope (top 43)) (by decide +kernel)) (fun _ _ _ _ _ => pg_name (i := 2) nd rfl (Or.inl rfl)) (fun _ _ _ _ _ => pts_nil) (fun _ _ _ _ _ => pe_c cR hr (by decide) rfl (pa_cons (pv 0) pa_nil)))), ?_⟩
    have hs : L2.start nRules [.ref ld, .int 3] = [some (.ref ld), some (.int 3), none] := rfl
    rw [hs]
    refine eb_draw (K := K) (ld := ld) (ls := ls) (m := 4) (σ := [some (.ref ld), some (.int 3), none]) (H := H) rfl (fun _ => ev_is (ev_add (ev_var rfl) ev_c) rfl) ⟨by decide, by decide⟩ H ExB.refl hD _ fun v H1 e1 hD1 ⟨z, ez, h0, hz⟩ => ?_
    subst ez
    refine ⟨z, rfl, by omega, by omega, fun Dl hDl => ?_⟩
    have hne := draws_ne hD1 hDl
    have hne2 : Dl ≠ ls := draws_ne2 hD1 hDl
    have hDlH : H Dl = none := by
      cases q : H Dl with
      | none => rfl
      | some o => rw [e1 _ _ hne q] at hDl; cases hDl
    refine lc_range (lo := 0) (n := z.toNat) (fun i H' => ExB ld H H' ∧ ExB ld H1 H' ∧ DrawsAt K ld ls H' ∧ ∃ rvs rs, H' Dl = some (.lst rvs) ∧ rvs.length = i ∧ Paired (fun v r => RuleAt K r v H') rvs rs ∧ ∀ r ∈ rs, RuleOk r)
      ⟨ExB.new e1 hDlH, ExB.new ExB.refl hDl, drawsAt_st (Ex.new hDl) hD1, [], [], upd_same, rfl, .nil, fun r hr => nomatch hr⟩ (fun i H' hi ⟨eA, eB, hD2, rvs, rs, hl, hlen, hp, hok⟩ => ?_) (fun H' ⟨eA, eB, hD2, rvs, rs, hl, hlen, hp, hok⟩ => ?_)
    · refine ⟨rfl, ?_⟩
      unfold tYes
      dsimp only
      rw [if_pos rfl]
      refine ⟨_, rfl, ld, ls, rfl, hD2, fun v r H3 e3 hD3 hr3 hro => ⟨rvs, e3 _ _ hne hl, ?_, ?_⟩⟩
      · have : rvs.length < 4 := by omega
        exact Nat.lt_trans this (by decide)
      · have hl3 := e3 _ _ hne hl
        have eT : ExT H3 (upd H3 Dl (.lst (rvs ++ [v]))) := ExT.lst hl3
        refine ⟨ExB.new (eA.trans e3) hDlH, ExB.new (eB.trans e3) hDl, drawsAt_upd hD3 hne hne2, rvs ++ [v], rs ++ [r], upd_same, by rw [List.length_append, hlen]; rfl, Paired.snoc (Paired.mapP hp fun v x q => ruleAt_T _ _ _ ((ExB.t hD2 e3).trans eT) q) (ruleAt_T _ _ _ eT hr3), fun x hx => ?_⟩
        rcases List.mem_append.mp hx with h | h
        · exact hok x h
        · rw [List.mem_singleton.mp h]; exact hro
    · exact k Dl rvs rs H' eA hD2 hl hDlH hp hok (by rw [← Paired.length hp, hlen]; omega)
end
end TL
/-! Trylocks, walk O: the law's actions, pick. -/
namespace TL
open PySem PySem.Spec PyProof.Rows L2 Evl C8 RZ LamX NdefX
section
variable {P : Program} {w : World} {K : PySem.W.Frag} {mg : Str → Option Value} {base : Heap}
/-- a list of actions of the book, so many -/
def ActsIn (K : PySem.W.Frag) (b : TL.Book) (avs : List V) (acts : List Act) (H : Hp) : Prop := Paired (fun v a => ActAt K a v H) avs acts ∧ ∀ a ∈ acts, ActOk b a
theorem actsIn_T {b : TL.Book} {avs : List V} {acts : List Act} {H H' : Hp} (e : ExT H H') (h : ActsIn K b avs acts H) : ActsIn K b avs acts H' := ⟨Paired.mapP h.1 fun v a q => actAt_T _ _ _ e q, h.2⟩
theorem actsIn_snoc {b : TL.Book} {avs : List V} {acts : List Act} {v : V} {a : Act} {H : Hp} (h : ActsIn K b avs acts H) (hv : ActAt K a v H) (ha : ActOk b a) : ActsIn K b (avs ++ [v]) (acts ++ [a]) H := ⟨Paired.snoc h.1 hv, fun x hx => by
  rcases List.mem_append.mp hx with q | q
  · exact h.2 x q
  · rw [List.mem_singleton.mp q]; exact ha⟩
def nActs : List Str := ["_law_accounts", "_law_places", "_law_found", "_law_account", "_law_place"]
theorem sc_acts : FnScope nActs ["_law_accounts", "_law_places"] (fnScope (top 44)) := fnScope_by (by decide +kernel)
def spActs (K : PySem.W.Frag) : Sp := fun vs H Q _ => ∃ (b : TL.Book), vs = [.int b.accs, .int b.plcs] ∧ b.accs ≤ 2 ∧ b.plcs ≤ 2 ∧ ∀ (p : Addr) (avs : List V) (acts : List Act) H', Ex H H' → H' p = some (.lst avs) → H p = none → ActsIn K b avs acts H' → 1 ≤ acts.length → acts.length ≤ 100 → Q (.ref p) H'
theorem q_appR {σ : L2.St} {H : Hp} {ta te : TE} {tz : TS} {R : V → Hp → Prop} {D : Ends} {l : Addr} {xs : List V} (hl : H l = some (.lst xs)) (ha : Ev ta σ H (.ref l)) (h : Er te σ H R) (hz : xs.length < 100000) (k : ∀ v H1, Ex H H1 → R v H1 → tz D σ (upd H1 l (.lst (xs ++ [v])))) :
    tSeq (tDrop (tBM K "list" rAppend ta (tCons te tNil))) tz D σ H := s_appR (D := { D with nx := tz D }) hl ha h hz k
theorem er_act4 {σ : L2.St} {H : Hp} {t2 t3 : TE} {a p : Int} {r : Bool} (h2 : Ev t2 σ H (.int a)) (h3 : Ev t3 σ H (.int p)) : Er (tTup (tCons (tC (.str "try")) (tCons t2 (tCons t3 (tCons (tC (.bl r)) tNil))))) σ H (ActAt K (.try_ a p r)) := fun H1 e Q q =>
  eu_tup (ea_cons ev_c (ea_cons h2 (ea_cons h3 (ea_cons ev_c ea_nil)))) (by show 4 ≤ 100000; decide) H1 e Q fun p H2 _ e2 h => q _ H2 e2 ⟨p, rfl, st_of h⟩
theorem c_acts (T : Tx K mg) (L : Tz K mg) : Cal P w K mg base 1 "_law_actions" (spActs K) [] := by
  refine calT L.actions sc_acts (fun vs H Q E h => ?_) (fun f cdv A outer s H vs Q E hr h => ?_)
  · obtain ⟨b, rfl, _⟩ := h
    rfl
  · obtain ⟨b, rfl, hA, hP, k⟩ := h
    have nd := sc_acts.nd
    refine ⟨_, pss_cons (ps_set (i := 2) nd rfl (.inl rfl) (pe_lst (pa_cons pe_non pa_nil)))
      (pss_cons (ps_for PassesOwn.never rfl (pi_range1 rfl (T.fr "range") (pa_cons (pv 0) pa_nil)) (pg_name (i := 3) nd rfl (.inl rfl))
        (pss_one (ps_for PassesOwn.never rfl (pi_range1 rfl (T.fr "range") (pa_cons (pv 1) pa_nil)) (pg_name (i := 4) nd rfl (.inl rfl))
          (pss_cons (ps_expr (pe_bm PySem.F.plainAttrs_list PySem.F.slot_list_append PySem.F.type_list_append mt_append (pv 2) (pa_cons (pe_tup (pa_cons pe_str (pa_cons (pv 3) (pa_cons (pv 4) (pa_cons pe_bl pa_nil))))) pa_nil)))
          (pss_one (ps_expr (pe_bm PySem.F.plainAttrs_list PySem.F.slot_list_append PySem.F.type_list_append mt_append (pv 2) (pa_cons (pe_tup (pa_cons pe_str (pa_cons (pv 3) (pa_cons (pv 4) (pa_cons pe_bl pa_nil))))) pa_nil))))))))
      (pss_one (ps_ret (pe_op op_cat (pv 2) (pe_lc (own := [("_law_account", 3)]) (g := gName 3) (tt := tYes) (wi := iRng1 (tCons (tVar 0) tNil)) rfl nd (pi_range1 rfl (T.fr "range") (pa_cons (pv 0) pa_nil))
        (blkOk_by (N := nActs) (sc := fnScope (top 44)) (by decide +kernel)) (fun _ _ _ _ _ => pg_name (i := 3) nd rfl (Or.inl rfl)) (fun _ _ _ _ _ => pts_nil) (fun _ _ _ _ _ => pe_tup (pa_cons pe_str (pa_cons (pv 3) pa_nil)))))))), ?_⟩
    have hs : L2.start nActs [.int b.accs, .int b.plcs] = [some (.int b.accs), some (.int b.plcs), none, none, none] := rfl
    rw [hs]
    refine q_asgL (el_lst (ea_cons ev_c ea_nil) (by decide)) fun l H1 hl e1 hl1 => ?_
    show tSeq _ _ _ [some (.int b.accs), some (.int b.plcs), some (.ref l), none, none] H1
    refine q_forR1 (n := (b.accs : Int)) (ea_cons (ev_var rfl) ea_nil) (by omega) (fun i σ' H' => ∃ u3 u4 avs acts, σ' = [some (.int b.accs), some (.int b.plcs), some (.ref l), u3, u4] ∧ Ex H H' ∧ H' l = some (.lst avs) ∧ ActsIn K b avs acts H' ∧ 1 ≤ acts.length ∧ acts.length ≤ 1 + 4 * i)
      (fun H2 e2 => ⟨_, _, [.non], [.none], rfl, e1.trans e2, e2 _ _ hl1, ⟨.cons rfl .nil, fun a ha => by rw [List.mem_singleton.mp ha]; exact True.intro⟩, Nat.le_refl _, Nat.le_refl _⟩) ?_ ?_
    · rintro i σ' H' hi ⟨u3, u4, avs, acts, rfl, e2, hl2, hin, hn1, hn2⟩
      refine s_forR1 (n := (b.plcs : Int)) (ea_cons (ev_var rfl) ea_nil) (by omega) (fun j σ' H' => ∃ u4 avs acts, σ' = [some (.int b.accs), some (.int b.plcs), some (.ref l), some (.int (i : Nat)), u4] ∧ Ex H H' ∧ H' l = some (.lst avs) ∧ ActsIn K b avs acts H' ∧ 1 ≤ acts.length ∧ acts.length ≤ 1 + 4 * i + 2 * j)
        (fun H3 e3 => ⟨_, avs, acts, rfl, e2.trans e3, e3 _ _ hl2, actsIn_T (exT e3) hin, hn1, hn2⟩) ?_ ?_
      · rintro j σ'' H'' hj ⟨u4, avs, acts, rfl, e3, hl3, hin3, hn3, hn4⟩
        have hlen : avs.length = acts.length := Paired.length hin3.1
        refine q_appR (K := K) hl3 (ev_var rfl) (er_act4 (K := K) (a := (i : Nat)) (p := (j : Nat)) (r := false) (ev_var rfl) (ev_var rfl)) (by omega) fun v4 H4 e4 hv4 => ?_
        have eT4 : ExT H4 (upd H4 l (.lst (avs ++ [v4]))) := ExT.lst (e4 _ _ hl3)
        have in4 := actsIn_snoc (actsIn_T ((exT e4).trans eT4) hin3) (actAt_T _ _ _ eT4 hv4) (show ActOk b (.try_ (i : Nat) (j : Nat) false) from ⟨⟨by omega, by omega⟩, by omega, by omega⟩)
        have e5 : Ex H (upd H4 l (.lst (avs ++ [v4]))) := Ex.mut (e3.trans e4) hl
        have hl5 : (upd H4 l (.lst (avs ++ [v4]))) l = some (.lst (avs ++ [v4])) := upd_same
        generalize upd H4 l (.lst (avs ++ [v4])) = H5 at in4 e5 hl5 ⊢
        refine s_appR (K := K) hl5 (ev_var rfl) (er_act4 (K := K) (a := (i : Nat)) (p := (j : Nat)) (r := true) (ev_var rfl) (ev_var rfl)) (by rw [List.length_append]; show avs.length + 1 < 100000; omega) fun v6 H6 e6 hv6 => ?_
        have eT6 : ExT H6 (upd H6 l (.lst ((avs ++ [v4]) ++ [v6]))) := ExT.lst (e6 _ _ hl5)
        exact ⟨_, _, (acts ++ [_]) ++ [_], rfl, Ex.mut (e5.trans e6) hl, upd_same, actsIn_snoc (actsIn_T ((exT e6).trans eT6) in4) (actAt_T _ _ _ eT6 hv6) (show ActOk b (.try_ (i : Nat) (j : Nat) true) from ⟨⟨by omega, by omega⟩, by omega, by omega⟩), by rw [List.length_append, List.length_append]; omega, by rw [List.length_append, List.length_append]; show acts.length + 1 + 1 ≤ _; omega⟩
      · rintro σ'' H'' ⟨u4, avs, acts, rfl, e3, hl3, hin3, hn3, hn4⟩
        have hp2 : ((b.plcs : Int)).toNat ≤ 2 := by omega
        exact ⟨_, _, avs, acts, rfl, e3, hl3, hin3, hn3, by omega⟩
    · rintro σ' H' ⟨u3, u4, avs, acts, rfl, e2, hl2, hin, hn1, hn2⟩
      have hlen : avs.length = acts.length := Paired.length hin.1
      have hlc : ErL (tLc (iRng1 (tCons (tVar 0) tNil)) (gName 3) tYes (tTup (tCons (tC (.str "open")) (tCons (tVar 3) tNil))) [3]) [some (.int b.accs), some (.int b.plcs), some (.ref l), u3, u4] H' (fun ws H2 => ws.length = b.accs ∧ ∀ i, i < b.accs → ∃ v, ws[i]? = some v ∧ ActAt K (.open_ (i : Nat)) v H2) :=
        er_lc (n := b.accs) (S := fun i v H => ActAt K (.open_ (i : Nat)) v H) (eri_range (era_of (ea_cons (ev_var rfl) ea_nil)) (by omega)) yes_ok (fun i => actAt_T) (by omega) (by
          rintro i x H2 H3 C hi e ⟨rfl, rfl⟩ kC
          exact kC _ rfl (Ex.refl _) (er_pair (ev_c) (ev_var rfl)))
      refine ⟨_, rfl, hlc H' (Ex.refl H') _ fun p ws H2 hp e3 hw ⟨h1, h2⟩ => ⟨l, p, avs, ws, rfl, rfl, e3 _ _ hl2, hw, Nat.le_trans (show avs.length + ws.length ≤ 1000 by omega) (by decide), fun q hq => ?_⟩⟩
      have e4 : Ex H2 (upd H2 q (.lst (avs ++ ws))) := Ex.new hq
      refine k q (avs ++ ws) (acts ++ (List.range b.accs).map fun i => Act.open_ (i : Nat)) _ ((e2.trans e3).trans e4) upd_same (none_of_ex (e2.trans e3) hq) ⟨paired_app (Paired.mapP hin.1 fun v a z => actAt_T _ _ _ (exT (e3.trans e4)) z) (paired_of (by rw [List.length_map, List.length_range, h1]) fun i x y hx hy => ?_), fun a ha => ?_⟩ (by rw [List.length_append]; omega) (by rw [List.length_append, List.length_map, List.length_range]; omega)
      · have hi : i < b.accs := by rw [← h1]; exact (List.getElem?_eq_some_iff.mp hx).1
        obtain ⟨u, g1, g2⟩ := h2 i hi
        rw [hx] at g1
        cases g1
        rw [List.getElem?_map, List.getElem?_range hi] at hy
        cases hy
        exact actAt_T _ _ _ (exT e4) g2
      · rcases List.mem_append.mp ha with z | z
        · exact hin.2 a z
        · obtain ⟨i, hi, rfl⟩ := List.mem_map.mp z
          have := List.mem_range.mp hi
          exact ⟨by omega, by omega⟩
/-! ### pick -/
theorem sc_pick : FnScope ["_law_draws", "_law_rows_here"] ["_law_draws", "_law_rows_here"] (fnScope (top 45)) := fnScope_by (by decide +kernel)
def spPick (K : PySem.W.Frag) : Sp := fun vs H Q _ => ∃ (ld ls lp : Addr) (avs : List V), vs = [.ref ld, .ref lp] ∧ DrawsAt K ld ls H ∧ SqL K H lp avs ∧ lp ≠ ld ∧ 1 ≤ avs.length ∧ avs.length ≤ 1000 ∧ ∀ v (i : Nat) H', ExB ld H H' → DrawsAt K ld ls H' → avs[i]? = some v → Q v H'
theorem c_pick (T : Tx K mg) (L : Tz K mg) : Cal P w K mg base 2 "_law_pick" (spPick K) [] := by
  have cD := c_draw (P := P) (w := w) (base := base) T L.draw
  refine calT L.pick sc_pick (fun vs H Q E h => ?_) (fun f cdv A outer s H vs Q E hr h => ?_)
  · obtain ⟨ld, ls, lp, avs, rfl, _⟩ := h
    rfl
  · obtain ⟨ld, ls, lp, avs, rfl, hD, hL, hne, h1, h2, k⟩ := h
    refine ⟨_, pss_one (ps_ret (pe_ix ix_list (pv 1) (pe_c cD hr (by decide) rfl (pa_cons (pv 0) (pa_cons (pe_callB call_len_seq rfl (T.fr "len") boot_len (pa_cons (pv 1) pa_nil)) pa_nil))) (fun _ _ => rfl))), ?_⟩
    refine ⟨_, rfl, _, rfl, (ev_lenS (K := K) (σ := [some (.ref ld), some (.ref lp)]) (H := H) (ev_var rfl) hL) H (Ex.refl H) _ fun H2 e2 => ⟨ld, ls, _, rfl, drawsAt_st e2 hD, ⟨by omega, by omega⟩, fun z H3 e3 hD3 h0 hz => ?_⟩⟩
    obtain ⟨n, rfl⟩ : ∃ n : Nat, z = (n : Int) := ⟨z.toNat, by omega⟩
    have hn : n < avs.length := by omega
    exact ⟨lp, avs, n, avs[n], rfl, rfl, sqL_B ((ExB.of e2).trans e3) hne hL, atI_nat (List.getElem?_eq_getElem hn), k _ n H3 ((ExB.of e2).trans e3) hD3 (List.getElem?_eq_getElem hn)⟩
end
end TL
/-! Trylocks, mirror of the law's own counting (plain). -/
namespace TL
/-- count, moment of the last counted try, last locked moment, size, streak -/
structure Cell where
  c0 : Int
  c1 : Int
  c2 : Int
  c3 : Int
  c4 : Int
  deriving DecidableEq
def zeroC : Cell := ⟨0, 0, -1, 0, 0⟩
/-- cells by rule and key, in the order in which they came -/
abbrev LSt := List ((Nat × Key) × Cell)
def getC (L : LSt) (k : Nat) (y : Key) : Cell := ((L.find? fun e => decide (e.1 = (k, y))).map (·.2)).getD zeroC
def setC (L : LSt) (k : Nat) (y : Key) (c : Cell) : LSt := if (L.find? fun e => decide (e.1 = (k, y))).isSome then L.map (fun e => if e.1 = (k, y) then (e.1, c) else e) else L ++ [((k, y), c)]
def keyFor (r : Rule) (a p : Int) : Key := if r.key = 0 then (some a, none) else if r.key = 1 then (none, some p) else (some a, some p)
def freshC (r : Rule) (c : Cell) (t : Int) : Cell := if c.c0 > 0 ∧ r.fade > 0 ∧ c.c1 + r.fade ≤ t then ⟨0, 0, c.c2, c.c3, c.c4⟩ else c
def factL (s : Int) : Int := if s = 0 then 1 else if s = 1 then 2 else 4
def countedC (r : Rule) (c : Cell) (t : Int) : Cell :=
  if c.c0 + 1 < r.most then ⟨c.c0 + 1, t, c.c2, c.c3, c.c4⟩
  else ⟨0, 0, t + r.lock * (if r.grows then factL c.c4 else 1), r.lock * (if r.grows then factL c.c4 else 1), c.c4 + 1⟩
/-- the rules whose lock holds -/
def heldL (rs : List Rule) (L : LSt) (t a p : Int) : List Nat := (List.range rs.length).filter fun k => match rs[k]? with
  | some r => decide (t ≤ (getC L k (keyFor r a p)).c2)
  | none => false
def cellDo (r : Rule) (held : List Nat) (right : Bool) (k : Nat) (c : Cell) (t : Int) : Cell :=
  if 0 < held.length then (if k ∈ held ∧ r.strict = true then ⟨c.c0, c.c1, t + c.c3, c.c3, c.c4⟩ else c)
  else if right then (if r.clears then zeroC else c)
  else countedC r c t
def tryL (rs : List Rule) (held : List Nat) (t a p : Int) (right : Bool) (L : LSt) (k : Nat) : LSt := match rs[k]? with
  | some r => setC L k (keyFor r a p) (cellDo r held right k (freshC r (getC L k (keyFor r a p)) t) t)
  | none => L
def doL (rs : List Rule) (L : LSt) (t : Int) : Act → Told × LSt
  | .none => (.none, L)
  | .open_ a => (.opened, L.map fun e => if e.1.2.1 = some a then (e.1, zeroC) else e)
  | .try_ a p right =>
    let held := heldL rs L t a p
    (if 0 < held.length then .kept else if right then .tin else .wrong, (List.range rs.length).foldl (tryL rs held t a p right) L)
/-! ### what keys there can be -/
def allK : List (Nat × Key) := (List.range 3).flatMap fun k => [(k, (some 0, none)), (k, (some 1, none)), (k, (none, some 0)), (k, (none, some 1)), (k, (some 0, some 0)), (k, (some 0, some 1)), (k, (some 1, some 0)), (k, (some 1, some 1))]
def LOk (L : LSt) : Prop := (L.map (·.1)).Nodup ∧ (∀ x ∈ L.map (·.1), x ∈ allK) ∧ ∀ e ∈ L, 0 ≤ e.2.c4
theorem setC_keys (L : LSt) (k : Nat) (y : Key) (c : Cell) : (setC L k y c).map (·.1) = L.map (·.1) ∨ ((setC L k y c).map (·.1) = L.map (·.1) ++ [(k, y)] ∧ (k, y) ∉ L.map (·.1)) := by
  unfold setC
  split
  · left
    rw [List.map_map]
    refine List.map_congr_left fun e _ => ?_
    show (if e.1 = (k, y) then (e.1, c) else e).1 = e.1
    split <;> rfl
  · rename_i h
    right
    refine ⟨by rw [List.map_append]; rfl, fun hm => h ?_⟩
    obtain ⟨e, he, hek⟩ := List.mem_map.mp hm
    rw [List.find?_isSome]
    exact ⟨e, he, decide_eq_true hek⟩
theorem lok_setC {L : LSt} (h : LOk L) {k : Nat} {y : Key} {c : Cell} (hk : (k, y) ∈ allK) (hc : 0 ≤ c.c4) : LOk (setC L k y c) := by
  obtain ⟨h1, h2, h3⟩ := h
  refine ⟨?_, ?_, fun e he => ?_⟩
  · rcases setC_keys L k y c with q | ⟨q, qn⟩
    · rw [q]; exact h1
    · rw [q]
      exact List.nodup_append.mpr ⟨h1, by simp, fun x hx z hz e => by
        rw [List.mem_singleton] at hz
        rw [← hz, ← e] at qn
        exact qn hx⟩
  · rcases setC_keys L k y c with q | ⟨q, _⟩
    · rw [q]; exact h2
    · rw [q]
      intro x hx
      rcases List.mem_append.mp hx with z | z
      · exact h2 x z
      · rw [List.mem_singleton.mp z]; exact hk
  · unfold setC at he
    split at he
    · obtain ⟨x, hx, rfl⟩ := List.mem_map.mp he
      split
      · exact hc
      · exact h3 x hx
    · rcases List.mem_append.mp he with q | q
      · exact h3 e q
      · rw [List.mem_singleton.mp q]; exact hc
theorem getC_c4' {L : LSt} (h : LOk L) (k : Nat) (y : Key) : 0 ≤ (getC L k y).c4 := by
  unfold getC
  cases hf : L.find? fun e => decide (e.1 = (k, y)) with
  | none => exact Int.le_refl 0
  | some e => exact h.2.2 e (List.mem_of_find?_eq_some hf)
theorem freshC_c4' (r : Rule) (c : Cell) (t : Int) : (freshC r c t).c4 = c.c4 := by
  unfold freshC
  split <;> rfl
theorem cellDo_c4' {r : Rule} {held : List Nat} {right : Bool} {k : Nat} {c : Cell} {t : Int} (h : 0 ≤ c.c4) : 0 ≤ (cellDo r held right k c t).c4 := by
  unfold cellDo countedC
  split
  · split <;> exact h
  · split
    · split
      · exact Int.le_refl 0
      · exact h
    · split
      · exact h
      · show 0 ≤ c.c4 + 1; omega
theorem keyFor_mem {r : Rule} {a p : Int} {k : Nat} (hk : k < 3) (ha : a = 0 ∨ a = 1) (hp : p = 0 ∨ p = 1) : (k, keyFor r a p) ∈ allK := by
  unfold allK keyFor
  refine List.mem_flatMap.mpr ⟨k, List.mem_range.mpr hk, ?_⟩
  by_cases h1 : r.key = 0
  · rw [if_pos h1]
    rcases ha with rfl | rfl <;> simp
  · rw [if_neg h1]
    by_cases h2 : r.key = 1
    · rw [if_pos h2]
      rcases hp with rfl | rfl <;> simp
    · rw [if_neg h2]
      rcases ha with rfl | rfl <;> rcases hp with rfl | rfl <;> simp
/-- an action that touches accounts and places 0 and 1 alone -/
def ActIn : Act → Prop
  | .none => True
  | .open_ _ => True
  | .try_ a p _ => (a = 0 ∨ a = 1) ∧ (p = 0 ∨ p = 1)
theorem lok_try {rs : List Rule} {held : List Nat} {t a p : Int} {right : Bool} (hrs : rs.length ≤ 3) (ha : a = 0 ∨ a = 1) (hp : p = 0 ∨ p = 1) : ∀ (ks : List Nat) (L : LSt), LOk L → LOk (ks.foldl (tryL rs held t a p right) L)
  | [], L, h => h
  | k :: ks, L, h => by
    refine lok_try hrs ha hp ks _ ?_
    unfold tryL
    cases hk : rs[k]? with
    | none => exact h
    | some r =>
      have hk3 : k < 3 := Nat.lt_of_lt_of_le (List.getElem?_eq_some_iff.mp hk).1 hrs
      exact lok_setC h (keyFor_mem hk3 ha hp) (cellDo_c4' (by rw [freshC_c4']; exact getC_c4' h _ _))
theorem lok_do {rs : List Rule} {L : LSt} {t : Int} {act : Act} (hrs : rs.length ≤ 3) (h : LOk L) (ha : ActIn act) : LOk (doL rs L t act).2 := by
  cases act with
  | none => exact h
  | open_ a =>
    obtain ⟨h1, h2, h3⟩ := h
    have e : (L.map fun e => if e.1.2.1 = some a then (e.1, zeroC) else e).map (·.1) = L.map (·.1) := by
      rw [List.map_map]
      refine List.map_congr_left fun e _ => ?_
      show (if e.1.2.1 = some a then (e.1, zeroC) else e).1 = e.1
      split <;> rfl
    refine ⟨by show ((L.map _).map _).Nodup; rw [e]; exact h1, by show ∀ x ∈ (L.map _).map _, _; rw [e]; exact h2, fun x hx => ?_⟩
    obtain ⟨y, hy, rfl⟩ := List.mem_map.mp hx
    split
    · exact Int.le_refl 0
    · exact h3 y hy
  | try_ a p right => exact lok_try hrs ha.1 ha.2 _ _ h
theorem lok_nil : LOk [] := ⟨List.nodup_nil, (fun x hx => nomatch hx), (fun x hx => nomatch hx)⟩
/-- the law's state behind some actions, each so many moments behind the one ahead -/
def lrun (rs : List Rule) (gap : Int) (acts : List Act) : Nat → LSt
  | 0 => []
  | k + 1 => (doL rs (lrun rs gap acts k) ((k : Int) * gap) (acts.getD (k % acts.length) .none)).2
def ltold (rs : List Rule) (gap : Int) (acts : List Act) (k : Nat) : Told := (doL rs (lrun rs gap acts k) ((k : Int) * gap) (acts.getD (k % acts.length) .none)).1
/-- the law's own count -/
def lcount (rs : List Rule) (gap : Int) (acts : List Act) : Nat → Told → Int
  | 0 => fun _ => 0
  | k + 1 => fun u => lcount rs gap acts k u + if u = ltold rs gap acts k then 1 else 0
theorem lok_run {rs : List Rule} {gap : Int} {acts : List Act} (hrs : rs.length ≤ 3) (ha : ∀ a ∈ acts, ActIn a) : ∀ k, LOk (lrun rs gap acts k)
  | 0 => lok_nil
  | k + 1 => by
    refine lok_do hrs (lok_run hrs ha k) ?_
    by_cases h : k % acts.length < acts.length
    · rw [List.getD_eq_getElem?_getD, List.getElem?_eq_getElem h]
      exact ha _ (List.getElem_mem h)
    · rw [List.getD_eq_getElem?_getD, List.getElem?_eq_none (by omega)]
      exact True.intro
end TL
/-! Trylocks, walk La: the law's cells. -/
namespace TL
open PySem PySem.Spec PyProof.Rows L2 Evl C8 RZ LamX NdefX
def cellVs (c : Cell) : List V := [.int c.c0, .int c.c1, .int c.c2, .int c.c3, .int c.c4]
def okey : Option Int → NestedKey
  | none => .none
  | some i => .num i
def lkey (e : Nat × TL.Key) : NestedKey := .tup [.num (e.1 : Int), .tup [okey e.2.1, okey e.2.2]]
theorem okey_inj {x y : Option Int} (h : okey x = okey y) : x = y := by
  cases x <;> cases y
  · rfl
  · cases h
  · cases h
  · injection h with h; rw [h]
theorem lkey_inj {x y : Nat × TL.Key} (h : lkey x = lkey y) : x = y := by
  unfold lkey at h
  injection h with h
  injection h with h1 h
  injection h with h2 _
  injection h1 with h1
  injection h2 with h2
  injection h2 with h3 h
  injection h with h4 _
  obtain ⟨k, a, p⟩ := x
  obtain ⟨k', a', p'⟩ := y
  dsimp only at h1 h3 h4
  have e : k = k' := by omega
  rw [e, okey_inj h3, okey_inj h4]
theorem okey_depth (x : Option Int) : (okey x).depth ≤ 0 := by
  cases x
  · unfold okey NestedKey.depth; exact Nat.le_refl _
  · exact num_depth _
theorem lkey_depth (e : Nat × TL.Key) : (lkey e).depth ≤ 8 := by
  refine Nat.le_trans (depth_tup (n := 1) fun k hk => ?_) (by decide)
  simp only [List.mem_cons, List.not_mem_nil, or_false] at hk
  rcases hk with rfl | rfl
  · exact Nat.le_trans (num_depth _) (by decide)
  · refine depth_tup (n := 0) fun k hk => ?_
    simp only [List.mem_cons, List.not_mem_nil, or_false] at hk
    rcases hk with rfl | rfl <;> exact okey_depth _
section
variable {P : Program} {w : World} {K : PySem.W.Frag} {mg : Str → Option Value} {base : Heap}
def CellAt (K : PySem.W.Frag) (c : Cell) (v : V) (H : Hp) : Prop := ∃ q, v = .ref q ∧ SqT K H q (cellVs c)
theorem cellAt_T {c : Cell} : StaysT (CellAt K c) := fun v H H' e ⟨q, h, s⟩ => ⟨q, h, e.sq s⟩
/-- the law's state at d -/
def LRel (K : PySem.W.Frag) (ent : List NEnt) (L : LSt) (H : Hp) : Prop := Paired (fun (p : NEnt) (e : (Nat × TL.Key) × Cell) => p.1 = lkey e.1 ∧ CellAt K e.2 p.2.2 H) ent L
def LAt (P : Program) (w : World) (K : PySem.W.Frag) (L : LSt) (d : Addr) (H : Hp) : Prop := ∃ ent, H d = some (NDO P w d ent) ∧ NKs K H ent ∧ LRel K ent L H
theorem lrel_T {ent : List NEnt} {L : LSt} {H H' : Hp} (e : ExT H H') (h : LRel K ent L H) : LRel K ent L H' := Paired.mapP h fun p x q => ⟨q.1, cellAt_T _ _ _ e q.2⟩
theorem lAt_st {L : LSt} {d : Addr} {H H' : Hp} (e : Ex H H') (h : LAt P w K L d H) : LAt P w K L d H' := let ⟨ent, h1, h2, h3⟩ := h; ⟨ent, e _ _ h1, h2.mono (exT e), lrel_T (exT e) h3⟩
theorem lrel_at {k : Nat} {y : TL.Key} {H : Hp} : ∀ {ent : List NEnt} {L : LSt}, LRel K ent L H → (∀ v, atE ent (lkey (k, y)) = some v → ∃ c, (L.find? fun e => decide (e.1 = (k, y))).map (·.2) = some c ∧ CellAt K c v H) ∧ (atE ent (lkey (k, y)) = none → (L.find? fun e => decide (e.1 = (k, y))) = none)
  | _, _, .nil => ⟨(fun v h => by cases h), fun _ => rfl⟩
  | _, _, .cons (a := p) (b := e) ⟨h1, h2⟩ t => by
    have ih := lrel_at (k := k) (y := y) t
    unfold atE at ih ⊢
    rw [List.find?_cons, List.find?_cons]
    by_cases h : e.1 = (k, y)
    · rw [decide_eq_true (show p.1 = lkey (k, y) by rw [h1, h]), decide_eq_true h]
      exact ⟨(fun v hv => ⟨e.2, rfl, (by cases hv; exact h2)⟩), (fun hn => by cases hn)⟩
    · rw [decide_eq_false (fun z => h (lkey_inj (h1.symm.trans z))), decide_eq_false h]
      exact ih
theorem nk_key {k : TL.Key} {v : V} {H : Hp} (h : KeyAt K k v H) : NK K H (.tup [okey k.1, okey k.2]) v := by
  obtain ⟨a, rfl, s⟩ := h
  have o : ∀ x : Option Int, NK K H (okey x) (oV x) := fun x => by
    cases x
    · exact .none
    · exact .int _
  exact .tup s (.cons (o _) (.cons (o _) .nil))
theorem nk_lkey {k : Nat} {y : TL.Key} {v : V} {p : Addr} {H : Hp} (hv : KeyAt K y v H) (hp : SqT K H p [.int k, v]) : NK K H (lkey (k, y)) (.ref p) := .tup hp (.cons (.int _) (.cons (nk_key hv) .nil))
/-! ### key -/
theorem sc_lkey : FnScope ["_law_rule_here", "_law_action"] ["_law_rule_here", "_law_action"] (fnScope (top 46)) := fnScope_by (by decide +kernel)
def spLKey (K : PySem.W.Frag) : Sp := fun vs H Q _ => ∃ (vr : V) (q : Addr) (r : TL.Rule) (x : Str) (a p : Int) (rest : List V), vs = [vr, .ref q] ∧ RuleAt K r vr H ∧ SqT K H q (.str x :: .int a :: .int p :: rest) ∧ r.key ≤ 2 ∧ RetR (KeyAt K (keyFor r a p)) H Q
theorem c_lkey (T : Tx K mg) (D : DefB K mg "_law_key" (top 46) ["_law_rule_here", "_law_action"]) : Cal P w K mg base 1 "_law_key" (spLKey K) [] := by
  refine calT D sc_lkey (fun vs H Q E h => ?_) (fun f cdv A outer s H vs Q E hr h => ?_)
  · obtain ⟨vr, q, r, x, a, p, rest, rfl, _⟩ := h
    rfl
  · obtain ⟨vr, q, r, x, a, p, rest, rfl, hRR, hq, hk, k⟩ := h
    obtain ⟨ar, rfl, hR⟩ := id hRR
    refine ⟨_, pss_cons (ps_if (pt_cmpR op_eq (pe_ix ix_tup (pv 0) pe_int (fun _ _ => rfl)) pe_str (nomark _)) (pss_one (ps_ret (pe_tup (pa_cons (pe_ix ix_tup (pv 1) pe_int (fun _ _ => rfl)) (pa_cons pe_non pa_nil))))) pss_nil)
      (pss_cons (ps_if (pt_cmpR op_eq (pe_ix ix_tup (pv 0) pe_int (fun _ _ => rfl)) pe_str (nomark _)) (pss_one (ps_ret (pe_tup (pa_cons pe_non (pa_cons (pe_ix ix_tup (pv 1) pe_int (fun _ _ => rfl)) pa_nil))))) pss_nil)
      (pss_one (ps_ret (pe_tup (pa_cons (pe_ix ix_tup (pv 1) pe_int (fun _ _ => rfl)) (pa_cons (pe_ix ix_tup (pv 1) pe_int (fun _ _ => rfl)) pa_nil)))))), ?_⟩
    have hs : L2.start ["_law_rule_here", "_law_action"] [.ref ar, .ref q] = [some (.ref ar), some (.ref q)] := rfl
    rw [hs]
    have tst : ∀ {H1 : Hp} (z : Str), Ex H H1 → EvT (tTest (tOp rEq (tOp (rIxT K) (tVar 0) (tC (.int 0))) (tC (.str z)))) [some (.ref ar), some (.ref q)] H1 (decide (V.str (keyStr r.key) = V.str z)) := fun z e => et_op (ev_ixT (n := 0) (ev_var rfl) ev_c (ex_t e hR) rfl) ev_c (rv_eq rfl)
    have g1 : ∀ {H1 : Hp}, Ex H H1 → Ev (tOp (rIxT K) (tVar 1) (tC (.int 1))) [some (.ref ar), some (.ref q)] H1 (.int a) := fun e => ev_ixT (n := 1) (ev_var rfl) ev_c (ex_t e hq) rfl
    have g2 : ∀ {H1 : Hp}, Ex H H1 → Ev (tOp (rIxT K) (tVar 1) (tC (.int 2))) [some (.ref ar), some (.ref q)] H1 (.int p) := fun e => ev_ixT (n := 2) (ev_var rfl) ev_c (ex_t e hq) rfl
    have q3 : r.key = 0 ∨ r.key = 1 ∨ r.key = 2 := by omega
    rcases q3 with z | z | z
    · refine q_when (b := true) (et_is (tst _ (Ex.refl H)) (by rw [z]; decide)) (fun _ H1 e1 => ?_) (fun h => by cases h)
      refine sr_ret (er_pair (K := K) (g1 e1) ev_c) fun v H2 e2 h => k v H2 (e1.trans e2) ?_
      unfold keyFor
      rw [if_pos z]
      exact h
    · refine q_when (b := false) (et_is (tst _ (Ex.refl H)) (by rw [z]; decide)) (fun h => by cases h) (fun _ H1 e1 => ?_)
      refine q_when (b := true) (et_is (tst _ e1) (by rw [z]; decide)) (fun _ H2 e2 => ?_) (fun h => by cases h)
      refine sr_ret (er_pair (K := K) ev_c (g2 (e1.trans e2))) fun v H3 e3 h => k v H3 ((e1.trans e2).trans e3) ?_
      unfold keyFor
      rw [if_neg (by omega), if_pos z]
      exact h
    · refine q_when (b := false) (et_is (tst _ (Ex.refl H)) (by rw [z]; decide)) (fun h => by cases h) (fun _ H1 e1 => ?_)
      refine q_when (b := false) (et_is (tst _ e1) (by rw [z]; decide)) (fun h => by cases h) (fun _ H2 e2 => ?_)
      refine sr_ret (er_pair (K := K) (g1 (e1.trans e2)) (g2 (e1.trans e2))) fun v H3 e3 h => k v H3 ((e1.trans e2).trans e3) ?_
      unfold keyFor
      rw [if_neg (by omega), if_neg (by omega)]
      exact h
/-! ### cell -/
theorem sc_lcell : FnScope ["_law_state", "_law_k", "_law_key_here"] ["_law_state", "_law_k", "_law_key_here"] (fnScope (top 47)) := fnScope_by (by decide +kernel)
def spLCell (P : Program) (w : World) (K : PySem.W.Frag) : Sp := fun vs H Q _ => ∃ (d : Addr) (k : Nat) (vk : V) (y : TL.Key) (L : LSt), vs = [.ref d, .int k, vk] ∧ LAt P w K L d H ∧ KeyAt K y vk H ∧ RetR (CellAt K (getC L k y)) H Q
theorem er_zero {σ : L2.St} {H : Hp} : Er (tTup (tCons (tC (.int 0)) (tCons (tC (.int 0)) (tCons (tUn (rU fun i => .int (-i)) (tC (.int 1))) (tCons (tC (.int 0)) (tCons (tC (.int 0)) tNil)))))) σ H (CellAt K zeroC) := fun H1 e Q q =>
  eu_tup (ea_cons ev_c (ea_cons ev_c (ea_cons (ev_un ev_c ru_neg) (ea_cons ev_c (ea_cons ev_c ea_nil))))) (by show 5 ≤ 100000; decide) H1 e Q fun p H2 _ e2 h => q _ H2 e2 ⟨p, rfl, st_of h⟩
theorem c_lcell (T : Tx K mg) (D : DefB K mg "_law_cell" (top 47) ["_law_state", "_law_k", "_law_key_here"]) : Cal P w K mg base 1 "_law_cell" (spLCell P w K) [] := by
  refine calT D sc_lcell (fun vs H Q E h => ?_) (fun f cdv A outer s H vs Q E hr h => ?_)
  · obtain ⟨d, k, vk, y, L, rfl, _⟩ := h
    rfl
  · obtain ⟨d, kk, vk, y, L, rfl, hL, hK, k⟩ := h
    refine ⟨_, pss_one (ps_ret (pe_ndget2 (hu64' hr) (pv 0) (pe_tup (pa_cons (pv 1) (pa_cons (pv 2) pa_nil))) (pe_tup (pa_cons pe_int (pa_cons pe_int (pa_cons (pe_un un_neg pe_int) (pa_cons pe_int (pa_cons pe_int pa_nil)))))) ⟨rfl, rfl, rfl, rfl⟩)), ?_⟩
    obtain ⟨ent, h1, h2, h3⟩ := id hL
    refine ⟨_, rfl, d, rfl, ⟨ent, h1, h2⟩, _, rfl, _, rfl, sz_of (by show 2 ≤ 100000; decide), fun p hp => ?_⟩
    have e1 : Ex H (upd H p (.tup [.int kk, vk])) := Ex.new hp
    refine er_zero (K := K) (σ := [some (.ref d), some (.int kk), some vk]) (H := upd H p (.tup [.int kk, vk])) _ (Ex.refl _) _ fun z H3 e3 hz => ?_
    have e13 := e1.trans e3
    refine ⟨p, ent, lkey (kk, y), rfl, e13 _ _ h1, h2.mono (exT e13), nk_lkey (keyAt_st _ _ _ e13 hK) (ex_t e3 (st_of upd_same)), lkey_depth _, ?_⟩
    have q := lrel_at (k := kk) (y := y) h3
    refine k _ H3 e13 ?_
    unfold getC
    cases ha : atE ent (lkey (kk, y)) with
    | none =>
      rw [q.2 ha]
      exact hz
    | some v =>
      obtain ⟨c, hc, hv⟩ := q.1 v ha
      rw [hc]
      exact cellAt_T _ _ _ (exT e13) hv
end
end TL
/-! Trylocks, walk Lb: fresh, new, counted. -/
namespace TL
open PySem PySem.Spec PyProof.Rows L2 Evl C8 RZ LamX NdefX
section
variable {P : Program} {w : World} {K : PySem.W.Frag} {mg : Str → Option Value} {base : Heap}
theorem cellAt_st {c : Cell} : Stays (CellAt K c) := cellAt_T.st
/-- (x, y) + cell[2:] -/
theorem er_cat {σ : L2.St} {H : Hp} {t1 t2 tc : TE} {x y : Int} {a : Addr} {c : Cell} (h1 : Ev t1 σ H (.int x)) (h2 : Ev t2 σ H (.int y)) (hc : Ev tc σ H (.ref a)) (hs : SqT K H a (cellVs c)) :
    Er (tOp (rCatA K) (tTup (tCons t1 (tCons t2 tNil))) (tSl (rSlA K) tc (tPart (tC (.int 2))) tNoPart)) σ H (CellAt K ⟨x, y, c.c2, c.c3, c.c4⟩) := fun H1 e Q q =>
  eu_tup (ea_cons h1 (ea_cons h2 ea_nil)) (by show 2 ≤ 100000; decide) H1 e _ fun p H2 _ e2 hp => hc H2 (e.trans e2) _ fun H3 e3 => ⟨2, rfl, a, cellVs c, rfl, ex_t ((e.trans e2).trans e3) hs, (fun h => absurd (show HT.sIx 5 0 (some (2 : Int)) = 0 from h.1) (by decide)), fun _ p2 hp2 =>
    ⟨p, p2, [.int x, .int y], [.int c.c2, .int c.c3, .int c.c4], rfl, rfl, ex_t (e3.trans (Ex.new hp2)) (st_of hp), st_of upd_same, sz_of (by show 2 + 3 ≤ 100000; decide), (fun h => by cases h), (fun _ h => by cases h), fun _ _ p3 hp3 => q _ _ ((e2.trans e3).trans ((Ex.new hp2).trans (Ex.new hp3))) ⟨p3, rfl, st_of upd_same⟩⟩⟩
/-- [a, b, ..][i] -/
theorem ev_pickL {σ : L2.St} {H : Hp} {ta : TA} {ti : TE} {xs : List V} {i : Int} {v : V} (hx : EvA ta σ H xs) (hi : Ev ti σ H (.int i)) (hg : atI xs i = some v) (hl : xs.length ≤ 100000) : Ev (tOp (rIxL K) (tLst ta) ti) σ H v := fun H1 e Q q =>
  hx H1 e _ fun H2 e2 => ⟨sz_of hl, fun p hp => hi _ (e.trans (e2.trans (Ex.new hp))) _ fun H3 e3 => ⟨p, xs, i, v, rfl, rfl, SqL.of (e3 _ _ upd_same), hg, q H3 ((e2.trans (Ex.new hp)).trans e3)⟩⟩
/-! ### fresh -/
def nFresh : List Str := ["_law_rule_here", "_law_cell_here", "_law_moment"]
theorem sc_fresh : FnScope nFresh ["_law_rule_here", "_law_cell_here", "_law_moment"] (fnScope (top 48)) := fnScope_by (by decide +kernel)
def spFresh (K : PySem.W.Frag) : Sp := fun vs H Q _ => ∃ (vr vc : V) (r : TL.Rule) (c : Cell) (t : Int), vs = [vr, vc, .int t] ∧ RuleAt K r vr H ∧ CellAt K c vc H ∧ RetR (CellAt K (freshC r c t)) H Q
theorem c_fresh (T : Tx K mg) (D : DefB K mg "_law_fresh" (top 48) ["_law_rule_here", "_law_cell_here", "_law_moment"]) : Cal P w K mg base 1 "_law_fresh" (spFresh K) [] := by
  refine calT D sc_fresh (fun vs H Q E h => ?_) (fun f cdv A outer s H vs Q E hr h => ?_)
  · obtain ⟨vr, vc, r, c, t, rfl, _⟩ := h
    rfl
  · obtain ⟨vr, vc, r, c, t, rfl, hRR, hCC, k⟩ := h
    obtain ⟨ar, rfl, hR⟩ := id hRR
    obtain ⟨ac, rfl, hC⟩ := id hCC
    refine ⟨_, pss_cons (ps_if (PW.pt (pw_and (pt_cmpR op_gt (pe_ix ix_tup (pv 1) pe_int (fun _ _ => rfl)) pe_int (nomark _)) (pw_and (pt_cmpR op_gt (pe_ix ix_tup (pv 0) pe_int (fun _ _ => rfl)) pe_int (nomark _)) (pw_and1 (pt_cmpR op_ge (pv 2) (pe_op op_add (pe_ix ix_tup (pv 1) pe_int (fun _ _ => rfl)) (pe_ix ix_tup (pv 0) pe_int (fun _ _ => rfl))) (nomark _))))))
        (pss_one (ps_ret (pe_op op_catA (pe_tup (pa_cons pe_int (pa_cons pe_int pa_nil))) (pe_slice sl_tupA (pv 1) (po_some pe_int) po_none)))) pss_nil)
      (pss_one (ps_ret (pv 1))), ?_⟩
    have hs : L2.start nFresh [.ref ar, .ref ac, .int t] = [some (.ref ar), some (.ref ac), some (.int t)] := rfl
    rw [hs]
    have gc : ∀ {n : Nat} {x : V}, (cellVs c)[n]? = some x → Ev (tOp (rIxT K) (tVar 1) (tC (.int (n : Int)))) [some (.ref ar), some (.ref ac), some (.int t)] H x := fun h => ev_ixT (ev_var rfl) ev_c hC h
    have gr : ∀ {n : Nat} {x : V}, (ruleVs r)[n]? = some x → Ev (tOp (rIxT K) (tVar 0) (tC (.int (n : Int)))) [some (.ref ar), some (.ref ac), some (.int t)] H x := fun h => ev_ixT (ev_var rfl) ev_c hR h
    refine q_when (b := decide (c.c0 > 0) && (decide (r.fade > 0) && decide (c.c1 + r.fade ≤ t))) (et_and (et_op (gc (n := 0) rfl) ev_c rv_I0) fun _ => et_and (et_op (gr (n := 3) rfl) ev_c rv_I0) fun _ => et_op (ev_var rfl) (ev_add (gc (n := 1) rfl) (gr (n := 3) rfl)) rv_I0) (fun hb H1 e1 => ?_) (fun hb H1 e1 => ?_)
    · simp only [Bool.and_eq_true, decide_eq_true_eq] at hb
      refine sr_ret (er_cat (K := K) (c := c) ev_c ev_c (ev_var rfl) (ex_t e1 hC)) fun v H2 e2 h => k v H2 (e1.trans e2) ?_
      unfold freshC
      rw [if_pos hb]
      exact h
    · have hb' : ¬ (c.c0 > 0 ∧ r.fade > 0 ∧ c.c1 + r.fade ≤ t) := fun h => by
        have q : (decide (c.c0 > 0) && (decide (r.fade > 0) && decide (c.c1 + r.fade ≤ t))) = true := by simp only [Bool.and_eq_true, decide_eq_true_eq]; exact h
        rw [hb] at q
        cases q
      refine s_ret (v := .ref ac) (ev_var rfl) fun H2 e2 => k _ H2 (e1.trans e2) ?_
      unfold freshC
      rw [if_neg hb']
      exact cellAt_st _ _ _ (e1.trans e2) hCC
/-! ### new -/
theorem sc_new : FnScope ["_law_state"] [] (fnScope (top 50)) := fnScope_by (by decide +kernel)
def spNew (P : Program) (w : World) (K : PySem.W.Frag) : Sp := fun vs H Q _ => vs = [] ∧ ∀ d H', Ex H H' → H d = none → LAt P w K [] d H' → Q (.ref d) H'
theorem c_newL (T : Tx K mg) (D : DefB K mg "_law_new" (top 50) []) : Cal P w K mg base 1 "_law_new" (spNew P w K) [] := by
  refine calT D sc_new (fun vs H Q E h => ?_) (fun f cdv A outer s H vs Q E hr h => ?_)
  · obtain ⟨rfl, _⟩ := h
    rfl
  · obtain ⟨rfl, k⟩ := h
    have nd := sc_new.nd
    refine ⟨_, pss_cons (ps_set (i := 0) nd rfl (.inl rfl) pe_ndnew) (pss_one (ps_ret (pv 0))), ?_⟩
    refine q_new fun d hd => s_ret (v := .ref d) (ev_var rfl) fun H1 e1 => k d H1 ((Ex.new hd).trans e1) hd ⟨[], e1 _ _ upd_same, (fun p hp => nomatch hp), .nil⟩
/-! ### counted -/
def nCounted : List Str := ["_law_rule_here", "_law_cell_here", "_law_moment", "_law_count_here", "_law_size", "_law_streak"]
theorem sc_counted : FnScope nCounted ["_law_rule_here", "_law_cell_here", "_law_moment"] (fnScope (top 51)) := fnScope_by (by decide +kernel)
def spCounted (K : PySem.W.Frag) : Sp := fun vs H Q _ => ∃ (vr vc : V) (r : TL.Rule) (c : Cell) (t : Int), vs = [vr, vc, .int t] ∧ RuleAt K r vr H ∧ CellAt K c vc H ∧ RuleOk r ∧ 0 ≤ c.c4 ∧ RetR (CellAt K (countedC r c t)) H Q
theorem factL_at {s : Int} (h : 0 ≤ s) : atI [.int 1, .int 2, .int 4, .int 4] (if (3 : Int) < s then 3 else s) = some (V.int (factL s)) := by
  unfold factL
  by_cases h1 : (3 : Int) < s
  · rw [if_pos h1, if_neg (by omega), if_neg (by omega)]; rfl
  · rw [if_neg h1]
    have q : s = 0 ∨ s = 1 ∨ s = 2 ∨ s = 3 := by omega
    rcases q with rfl | rfl | rfl | rfl <;> rfl
theorem c_counted (T : Tx K mg) (D : DefB K mg "_law_counted" (top 51) ["_law_rule_here", "_law_cell_here", "_law_moment"]) : Cal P w K mg base 1 "_law_counted" (spCounted K) [] := by
  refine calT D sc_counted (fun vs H Q E h => ?_) (fun f cdv A outer s H vs Q E hr h => ?_)
  · obtain ⟨vr, vc, r, c, t, rfl, _⟩ := h
    rfl
  · obtain ⟨vr, vc, r, c, t, rfl, hRR, hCC, hro, hc4, k⟩ := h
    obtain ⟨ar, rfl, hR⟩ := id hRR
    obtain ⟨ac, rfl, hC⟩ := id hCC
    have nd := sc_counted.nd
    refine ⟨_, pss_cons (ps_set (i := 3) nd rfl (.inl rfl) (pe_op op_add (pe_ix ix_tup (pv 1) pe_int (fun _ _ => rfl)) pe_int))
      (pss_cons (ps_if (pt_cmpR op_lt (pv 3) (pe_ix ix_tup (pv 0) pe_int (fun _ _ => rfl)) (nomark _)) (pss_one (ps_ret (pe_op op_catA (pe_tup (pa_cons (pv 3) (pa_cons (pv 2) pa_nil))) (pe_slice sl_tupA (pv 1) (po_some pe_int) po_none)))) pss_nil)
      (pss_cons (ps_set (i := 4) nd rfl (.inl rfl) (pe_ix ix_tup (pv 0) pe_int (fun _ _ => rfl)))
      (pss_cons (ps_set (i := 5) nd rfl (.inl rfl) (pe_ix ix_tup (pv 1) pe_int (fun _ _ => rfl)))
      (pss_cons (ps_if (pt_val (pe_ix ix_tup (pv 0) pe_int (fun _ _ => rfl))) (pss_one (ps_set (i := 4) nd rfl (.inl rfl) (pe_op op_mul (pv 4) (pe_ix ix_list (pe_lst (pa_cons pe_int (pa_cons pe_int (pa_cons pe_int (pa_cons pe_int pa_nil))))) (pe_callB (call_min2 rfl) rfl (T.fr "min") (by decide +kernel) (pa_cons (pv 5) (pa_cons pe_int pa_nil))) (fun _ _ => rfl))))) pss_nil)
      (pss_one (ps_ret (pe_tup (pa_cons pe_int (pa_cons pe_int (pa_cons (pe_op op_add (pv 2) (pv 4)) (pa_cons (pv 4) (pa_cons (pe_op op_add (pv 5) pe_int) pa_nil)))))))))))), ?_⟩
    have hs : L2.start nCounted [.ref ar, .ref ac, .int t] = [some (.ref ar), some (.ref ac), some (.int t), none, none, none] := rfl
    rw [hs]
    have gc : ∀ {H1 : Hp} {σ1 : L2.St} {n : Nat} {x : V}, Ex H H1 → σ1[1]? = some (some (.ref ac)) → (cellVs c)[n]? = some x → Ev (tOp (rIxT K) (tVar 1) (tC (.int (n : Int)))) σ1 H1 x := fun e h0 h => ev_ixT (ev_var h0) ev_c (ex_t e hC) h
    have gr : ∀ {H1 : Hp} {σ1 : L2.St} {n : Nat} {x : V}, Ex H H1 → σ1[0]? = some (some (.ref ar)) → (ruleVs r)[n]? = some x → Ev (tOp (rIxT K) (tVar 0) (tC (.int (n : Int)))) σ1 H1 x := fun e h0 h => ev_ixT (ev_var h0) ev_c (ex_t e hR) h
    refine q_asg (v := .int (c.c0 + 1)) (ev_add (gc (n := 0) (Ex.refl H) rfl rfl) ev_c) fun H1 e1 => ?_
    refine q_when (b := decide (c.c0 + 1 < r.most)) (et_op (ev_var rfl) (gr (n := 1) e1 rfl rfl) rv_I0) (fun hb H2 e2 => ?_) (fun hb H2 e2 => ?_)
    · refine sr_ret (er_cat (K := K) (c := c) (ev_var rfl) (ev_var rfl) (ev_var rfl) (ex_t (e1.trans e2) hC)) fun v H3 e3 h => k v H3 ((e1.trans e2).trans e3) ?_
      unfold countedC
      rw [if_pos (of_decide_eq_true hb)]
      exact h
    · have e12 := e1.trans e2
      refine q_asg (v := .int r.lock) (gr (n := 2) e12 rfl rfl) fun H3 e3 => ?_
      refine q_asg (v := .int c.c4) (gc (n := 4) (e12.trans e3) rfl rfl) fun H4 e4 => ?_
      have e14 := (e12.trans e3).trans e4
      refine cutK (M := fun σ' H' => σ' = [some (.ref ar), some (.ref ac), some (.int t), some (.int (c.c0 + 1)), some (.int (r.lock * (if r.grows then factL c.c4 else 1))), some (.int c.c4)] ∧ Ex H H') ?_ fun kM => ?_
      · rintro σ' H' ⟨rfl, e⟩
        refine sr_ret (R := CellAt K (countedC r c t)) (fun H5 e5 Q q => eu_tup (ea_cons ev_c (ea_cons ev_c (ea_cons (ev_add (ev_var rfl) (ev_var rfl)) (ea_cons (ev_var rfl) (ea_cons (ev_add (ev_var rfl) ev_c) ea_nil))))) (by show 5 ≤ 100000; decide) H5 e5 Q fun p H6 _ e6 hp => q _ H6 e6 ⟨p, rfl, ?_⟩) fun v H6 e6 h => k v H6 (e.trans e6) h
        unfold countedC
        rw [if_neg (of_decide_eq_false hb)]
        exact st_of hp
      · have hg : ∀ {σ1 : L2.St}, σ1[0]? = some (some (.ref ar)) → EvT (tB (tOp (rIxT K) (tVar 0) (tC (.int 5)))) σ1 H4 r.grows := fun h => et_B (gr (n := 5) e14 h rfl)
        cases hgr : r.grows with
        | false =>
          refine q_when (b := false) (et_is (hg rfl) hgr) (fun z => by cases z) (fun _ H5 e5 => kM _ _ ⟨?_, e14.trans e5⟩)
          have e : r.lock * (if r.grows = true then factL c.c4 else 1) = r.lock := by rw [hgr]; exact Int.mul_one _
          rw [e]
          rfl
        | true =>
          refine q_when (b := true) (et_is (hg rfl) hgr) (fun _ H5 e5 => ?_) (fun z => by cases z)
          refine s_asg (v := .int (r.lock * factL c.c4)) (ev_op (ev_var rfl) (ev_pickL (K := K) (xs := [.int 1, .int 2, .int 4, .int 4]) (ea_cons ev_c (ea_cons ev_c (ea_cons ev_c (ea_cons ev_c ea_nil)))) (ev_min2 (ev_var rfl) ev_c) (factL_at hc4) (by decide)) (rv_I (.inl ⟨by have := hro.2.2.1.1; omega, by have := hro.2.2.1.2; omega⟩))) fun H6 e6 => kM _ _ ⟨?_, (e14.trans e5).trans e6⟩
          rw [hgr]
          rfl
end
end TL
/-! Trylocks, walk Lc: locked. -/
namespace TL
open PySem PySem.Spec PyProof.Rows L2 Evl C8 RZ LamX NdefX
section
variable {P : Program} {w : World} {K : PySem.W.Frag} {mg : Str → Option Value} {base : Heap}
/-- a list of rules -/
def RulesL (K : PySem.W.Frag) (rs : List TL.Rule) (lr : Addr) (H : Hp) : Prop := ∃ rvs, SqL K H lr rvs ∧ Paired (fun v r => RuleAt K r v H) rvs rs
theorem rulesL_st {rs : List TL.Rule} {lr : Addr} {H H' : Hp} (e : Ex H H') (h : RulesL K rs lr H) : RulesL K rs lr H' := let ⟨rvs, s, p⟩ := h; ⟨rvs, ex_l e s, Paired.mapP p fun v r q => ruleAt_st _ _ _ e q⟩
theorem rulesL_Q {rs : List TL.Rule} {lr : Addr} {H H' : Hp} (e : ExtQ H H') (h : RulesL K rs lr H) : RulesL K rs lr H' := let ⟨rvs, s, p⟩ := h; ⟨rvs, sqL_Q e s, Paired.mapP p fun v r q => ruleAt_T _ _ _ e.t q⟩
theorem er_ruleAt {σ : L2.St} {H : Hp} {i j : Nat} {lr : Addr} {rs : List TL.Rule} {k : Nat} {r : TL.Rule} (hi : σ[i]? = some (some (.ref lr))) (hj : σ[j]? = some (some (.int k))) (h : RulesL K rs lr H) (hr : rs[k]? = some r) : Er (tOp (rIxL K) (tVar i) (tVar j)) σ H (RuleAt K r) := fun H1 e Q q => by
  obtain ⟨rvs, s, p⟩ := h
  have hk : k < rvs.length := by rw [Paired.length p]; exact (List.getElem?_eq_some_iff.mp hr).1
  obtain ⟨r', h1, h2⟩ := paired_get p (List.getElem?_eq_getElem hk)
  rw [hr] at h1
  cases h1
  exact ⟨_, hi, _, hj, lr, rvs, k, rvs[k], rfl, rfl, ex_l e s, atI_nat (List.getElem?_eq_getElem hk), q _ H1 (Ex.refl H1) (ruleAt_st _ _ _ e h2)⟩
/-- _law_key(rule, ("try", a, p)) -/
theorem er_lkey {σ : L2.St} {H : Hp} {tr t1 t2 : TE} {r : TL.Rule} {a p : Int} (hr : Er tr σ H (RuleAt K r)) (h1 : Ev t1 σ H (.int a)) (h2 : Ev t2 σ H (.int p)) (hk : r.key ≤ 2) : Er (tCall (spLKey K) [] C8.E0 (tCons tr (tCons (tTup (tCons (tC (.str "try")) (tCons t1 (tCons t2 tNil)))) tNil))) σ H (KeyAt K (keyFor r a p)) := fun H1 e Q q =>
  hr H1 e _ fun vr H2 e2 r2 => eu_tup (ea_cons ev_c (ea_cons h1 (ea_cons h2 ea_nil))) (by show 3 ≤ 100000; decide) H2 (e.trans e2) _ fun u H3 _ e3 hu => ⟨vr, u, r, "try", a, p, [], rfl, ruleAt_st _ _ _ e3 r2, st_of hu, hk, fun v H4 e4 h => q v H4 ((e2.trans e3).trans e4) h⟩
theorem er_lcell {σ : L2.St} {H : Hp} {i j l : Nat} {d : Addr} {k : Nat} {vk : V} {y : TL.Key} {L : LSt} (hi : σ[i]? = some (some (.ref d))) (hj : σ[j]? = some (some (.int k))) (hl : σ[l]? = some (some vk)) (hL : LAt P w K L d H) (hK : KeyAt K y vk H) : Er (tCall (spLCell P w K) [] C8.E0 (tCons (tVar i) (tCons (tVar j) (tCons (tVar l) tNil)))) σ H (CellAt K (getC L k y)) := fun H1 e Q q =>
  ⟨_, hi, _, hj, _, hl, d, k, vk, y, L, rfl, lAt_st e hL, keyAt_st _ _ _ e hK, fun v H2 e2 h => q v H2 e2 h⟩
theorem ev_cellF {σ : L2.St} {H : Hp} {tc : TE} {c : Cell} {n : Nat} {x : V} (h : Er tc σ H (CellAt K c)) (hx : (cellVs c)[n]? = some x) : Ev (tOp (rIxT K) tc (tC (.int (n : Int)))) σ H x := fun H1 e Q q =>
  h H1 e _ fun v H2 e2 ⟨a, ea, hs⟩ => by
    subst ea
    exact ⟨a, cellVs c, n, x, rfl, rfl, hs, atI_nat hx, q H2 e2⟩
/-! ### locked -/
def nLLocked : List Str := ["_law_rules_here", "_law_state", "_law_moment", "_law_account", "_law_place", "_law_found", "_law_k", "_law_key_here"]
theorem sc_llocked : FnScope nLLocked ["_law_rules_here", "_law_state", "_law_moment", "_law_account", "_law_place"] (fnScope (top 49)) := fnScope_by (by decide +kernel)
def spLLocked (P : Program) (w : World) (K : PySem.W.Frag) : Sp := fun vs H Q _ => ∃ (lr d : Addr) (t a p : Int) (rs : List TL.Rule) (L : LSt), vs = [.ref lr, .ref d, .int t, .int a, .int p] ∧ RulesL K rs lr H ∧ (∀ r ∈ rs, RuleOk r) ∧ rs.length ≤ 3 ∧ LAt P w K L d H ∧ RetL ((heldL rs L t a p).map fun k => V.int (k : Nat)) H Q
def heldTo (rs : List TL.Rule) (L : LSt) (t a p : Int) (i : Nat) : List Nat := (List.range i).filter fun k => match rs[k]? with
  | some r => decide (t ≤ (getC L k (keyFor r a p)).c2)
  | none => false
theorem heldTo_succ {rs : List TL.Rule} {L : LSt} {t a p : Int} {i : Nat} {r : TL.Rule} (h : rs[i]? = some r) : heldTo rs L t a p (i + 1) = heldTo rs L t a p i ++ (if t ≤ (getC L i (keyFor r a p)).c2 then [i] else []) := by
  unfold heldTo
  rw [List.range_succ, List.filter_append]
  congr 1
  rw [List.filter_cons, h]
  by_cases z : t ≤ (getC L i (keyFor r a p)).c2
  · simp [z]
  · simp [z]
theorem heldTo_len (rs : List TL.Rule) (L : LSt) (t a p : Int) (i : Nat) : (heldTo rs L t a p i).length ≤ i := by
  unfold heldTo
  exact Nat.le_trans (List.length_filter_le _ _) (by rw [List.length_range]; exact Nat.le_refl _)
theorem c_llocked (T : Tx K mg) (Dk : DefB K mg "_law_key" (top 46) ["_law_rule_here", "_law_action"]) (Dc : DefB K mg "_law_cell" (top 47) ["_law_state", "_law_k", "_law_key_here"]) (D : DefB K mg "_law_locked" (top 49) ["_law_rules_here", "_law_state", "_law_moment", "_law_account", "_law_place"]) : Cal P w K mg base 2 "_law_locked" (spLLocked P w K) [] := by
  have cK := c_lkey (P := P) (w := w) (base := base) T Dk
  have cC := c_lcell (P := P) (w := w) (base := base) T Dc
  refine calT D sc_llocked (fun vs H Q E h => ?_) (fun f cdv A outer s H vs Q E hr h => ?_)
  · obtain ⟨lr, d, t, a, p, rs, L, rfl, _⟩ := h
    rfl
  · obtain ⟨lr, d, t, a, p, rs, L, rfl, hR, hro, hrl, hL, k⟩ := h
    have nd := sc_llocked.nd
    refine ⟨_, pss_cons (ps_set (i := 5) nd rfl (.inl rfl) (pe_lst pa_nil))
      (pss_cons (ps_for PassesOwn.never rfl (pi_range1 rfl (T.fr "range") (pa_cons (pe_callB call_len_seq rfl (T.fr "len") boot_len (pa_cons (pv 0) pa_nil)) pa_nil)) (pg_name (i := 6) nd rfl (.inl rfl))
        (pss_cons (ps_set (i := 7) nd rfl (.inl rfl) (pe_c cK hr (by decide) rfl (pa_cons (pe_ix ix_list (pv 0) (pv 6) (fun _ _ => rfl)) (pa_cons (pe_tup (pa_cons pe_str (pa_cons (pv 3) (pa_cons (pv 4) pa_nil)))) pa_nil))))
        (pss_one (ps_if (pt_cmpR op_ge (pe_ix ix_tup (pe_c cC hr (by decide) rfl (pa_cons (pv 1) (pa_cons (pv 6) (pa_cons (pv 7) pa_nil)))) pe_int (fun _ _ => rfl)) (pv 2) (nomark _))
          (pss_one (ps_expr (pe_bm PySem.F.plainAttrs_list PySem.F.slot_list_append PySem.F.type_list_append mt_append (pv 5) (pa_cons (pv 6) pa_nil)))) pss_nil))))
      (pss_one (ps_ret (pv 5)))), ?_⟩
    have hs : L2.start nLLocked [.ref lr, .ref d, .int t, .int a, .int p] = [some (.ref lr), some (.ref d), some (.int t), some (.int a), some (.int p), none, none, none] := rfl
    rw [hs]
    obtain ⟨rvs, hL1, hP⟩ := id hR
    have hlen : rvs.length = rs.length := Paired.length hP
    refine q_asgL (el_lst ea_nil (by decide)) fun l H1 hl e1 hl1 => ?_
    show tSeq _ _ _ [some (.ref lr), some (.ref d), some (.int t), some (.int a), some (.int p), some (.ref l), none, none] H1
    refine q_forR1 (n := (rvs.length : Int)) (ea_cons (ev_lenS (ev_var rfl) (ex_l e1 hL1)) ea_nil) (by omega) (fun i σ' H' => ∃ u6 u7, σ' = [some (.ref lr), some (.ref d), some (.int t), some (.int a), some (.int p), some (.ref l), u6, u7] ∧ Ex H H' ∧ H' l = some (.lst ((heldTo rs L t a p i).map fun k => V.int (k : Nat))))
      (fun H2 e2 => ⟨_, _, rfl, e1.trans e2, e2 _ _ hl1⟩) ?_ ?_
    · rintro i σ' H' hi ⟨u6, u7, rfl, e2, hl2⟩
      have hir : i < rs.length := by omega
      have hri : rs[i]? = some rs[i] := List.getElem?_eq_getElem hir
      have hro' := hro rs[i] (List.getElem_mem hir)
      generalize rs[i] = r at hri hro'
      refine qr_asg (er_lkey (K := K) (er_ruleAt rfl rfl (rulesL_st e2 hR) hri) (ev_var rfl) (ev_var rfl) hro'.1) fun vk H3 e3 hk3 => ?_
      have e23 := e2.trans e3
      refine s_when (b := decide (t ≤ (getC L i (keyFor r a p)).c2)) (et_op (ev_cellF (K := K) (n := 2) (er_lcell (P := P) (w := w) rfl rfl rfl (lAt_st e23 hL) hk3) rfl) (ev_var rfl) rv_I0) (fun hb H4 e4 => ?_) (fun hb H4 e4 => ?_)
      · have hl4 := (e3.trans e4) _ _ hl2
        refine s_app (K := K) (v := .int (i : Nat)) hl4 (ev_var rfl) (ev_var rfl) (by rw [List.length_map]; have := heldTo_len rs L t a p i; omega) fun H5 e5 => ⟨_, _, rfl, Ex.mut ((e23.trans e4).trans e5) hl, ?_⟩
        rw [upd_same, heldTo_succ hri, if_pos (of_decide_eq_true hb), List.map_append]
        rfl
      · refine ⟨_, _, rfl, e23.trans e4, ?_⟩
        rw [heldTo_succ hri, if_neg (of_decide_eq_false hb), List.append_nil]
        exact (e3.trans e4) _ _ hl2
    · rintro σ' H' ⟨u6, u7, rfl, e2, hl2⟩
      refine ⟨_, rfl, k l H' hl e2 ?_⟩
      rw [hl2]
      show some (HO.lst ((heldTo rs L t a p (rvs.length)).map _)) = _
      rw [hlen]
      rfl
end
end TL
/-! Trylocks, walk Ld: list(d) of a dict with nested keys; opening, plain. -/
namespace TL
open PySem PySem.Spec PyProof.Rows L2 Evl C8 RZ LamX NdefX
def rListN (P : Program) (w : World) (K : PySem.W.Frag) : List V → Hp → VK → Prop := fun xs H Q => ∃ (d : Addr) (ent : List NEnt), xs = [.ref d] ∧ H d = some (NDO P w d ent) ∧ NKs K H ent ∧ ∀ l, H l = none → Q (.ref l) (upd H l (.lst (ent.map fun p => .ref p.2.1)))
theorem vals_of {xs : List V} {us : List Value} (hl : xs.length = us.length) (h : ∀ (i : Nat) (x : V) (u : Value), xs[i]? = some x → us[i]? = some u → RelV x u) : Vals xs us := paired_of hl h
/-- list(d): the keys' own tuples -/
theorem call_listN {X : Cx} (hcalm : X.calm = true) : CallR X (.type "list") (rListN X.prog X.w X.K) := by
  intro pins s σ H xs us Q I r q
  obtain ⟨d, ent, ex, hd, nk, q⟩ := q
  subst ex
  obtain ⟨u, eu, rx⟩ := vals1 r
  subst eu
  cases rx
  obtain ⟨z, lo, ys, rel, o, es, ep, h1, h2, h3, h4, h5, h6⟩ := nd_at I.hok I.kIn hd nk
  have hlen : ent.length = ys.length := Paired.length rel
  have hsz : es.size = ys.length := by rw [← Array.length_toList, h4, List.length_map]
  refine PySem.W.kdl_call (PySem.KdlSrc.rawDict (es := es) (ep := ep) lo) (I.ok.hd hcalm) ⟨o, h1, h2, h3⟩ (by omega) fun h' tk acc c' hk hD hacc => ?_
  have hv : Vals (ent.map fun p => V.ref p.2.1) acc.toList := vals_of (by
    have q1 := hacc.1
    have q2 : acc.toList.length = acc.size := Array.length_toList
    rw [List.length_map]
    omega) fun i x u hx hu => by
    obtain ⟨hi, eu⟩ := hacc.2 i u (by rw [← Array.getElem?_toList]; exact hu)
    rw [List.getElem?_map] at hx
    cases he : ent[i]? with
    | none => rw [he] at hx; cases hx
    | some p =>
      rw [he] at hx
      cases hx
      obtain ⟨y, hy1, hy2⟩ := paired_get rel he
      have e2 : es.toList[i]? = some (entryOfKey (nestedKind X.prog X.w) y) := by rw [h4, List.getElem?_map, hy1]; rfl
      have e3 : es[i] = entryOfKey (nestedKind X.prog X.w) y := by
        rw [Array.getElem?_toList, Array.getElem?_eq_getElem hi] at e2
        exact Option.some.inj e2
      rw [eu, e3]
      show Value.ref y.2.1 = Value.ref p.2.1
      rw [hy2.2.1]
  refine ⟨.ref s.heap.objs.size, upd H s.heap.objs.size (.lst (ent.map fun p => .ref p.2.1)), I.laid (t' := tk) hk (Nat.le_refl _)
    (show ObjOk X.prog X.w _ _ _ (.lst (ent.map fun p => .ref p.2.1)) from ⟨by rw [List.length_map]; exact z, acc.toList, c', hv, by rw [Array.toArray_toList]; exact hD⟩), rfl, q _ (I.hok.fresh (Nat.le_refl _))⟩
/-! ### plain: opening, cell by cell -/
def openTo (a : Int) (ks : List (Nat × TL.Key)) (L : LSt) : LSt := ks.foldl (fun L' e => if e.2.1 = some a then setC L' e.1 e.2 zeroC else L') L
theorem openTo_eq (a : Int) : ∀ (ks : List (Nat × TL.Key)) (L : LSt), (∀ e ∈ ks, e ∈ L.map (·.1)) → openTo a ks L = L.map fun e => if e.1 ∈ ks ∧ e.1.2.1 = some a then (e.1, zeroC) else e
  | [], L, _ => by
    unfold openTo
    rw [List.foldl_nil]
    refine (List.map_id'' ?_ L).symm
    intro e
    rw [if_neg fun h => by cases h.1]
  | k :: ks, L, h => by
    have hk := h k (List.mem_cons_self ..)
    unfold openTo
    rw [List.foldl_cons]
    by_cases ha : k.2.1 = some a
    · rw [if_pos ha]
      have hset : setC L k.1 k.2 zeroC = L.map fun e => if e.1 = k then (e.1, zeroC) else e := by
        unfold setC
        rw [if_pos]
        obtain ⟨e, he, hek⟩ := List.mem_map.mp hk
        rw [List.find?_isSome]
        exact ⟨e, he, decide_eq_true hek⟩
      rw [hset]
      have ih := openTo_eq a ks (L.map fun e => if e.1 = k then (e.1, zeroC) else e) (fun e he => by
        have q := h e (List.mem_cons_of_mem _ he)
        obtain ⟨e', he', hek⟩ := List.mem_map.mp q
        refine List.mem_map.mpr ⟨_, List.mem_map.mpr ⟨e', he', rfl⟩, ?_⟩
        split
        · exact hek
        · exact hek)
      unfold openTo at ih
      rw [ih, List.map_map]
      refine List.map_congr_left fun e _ => ?_
      have hfe : ∀ x : (Nat × TL.Key) × Cell, (if e.1 = k then (e.1, zeroC) else e) = x → ((fun e : (Nat × TL.Key) × Cell => if e.1 ∈ ks ∧ e.1.2.1 = some a then (e.1, zeroC) else e) ∘ fun e => if e.1 = k then (e.1, zeroC) else e) e = if x.1 ∈ ks ∧ x.1.2.1 = some a then (x.1, zeroC) else x := fun x hx => by
        rw [← hx]
        rfl
      by_cases h1 : e.1 = k
      · rw [hfe _ (if_pos h1)]
        have c1 : e.1 ∈ k :: ks ∧ e.1.2.1 = some a := ⟨by rw [h1]; exact List.mem_cons_self .., by rw [h1]; exact ha⟩
        rw [if_pos c1]
        split <;> rfl
      · rw [hfe _ (if_neg h1)]
        have c : (e.1 ∈ k :: ks ∧ e.1.2.1 = some a) ↔ (e.1 ∈ ks ∧ e.1.2.1 = some a) := by
          rw [List.mem_cons]
          exact ⟨fun ⟨x, y⟩ => ⟨x.resolve_left h1, y⟩, fun ⟨x, y⟩ => ⟨.inr x, y⟩⟩
        by_cases h2 : e.1 ∈ ks ∧ e.1.2.1 = some a
        · rw [if_pos h2, if_pos (c.mpr h2)]
        · rw [if_neg h2, if_neg (fun z => h2 (c.mp z))]
    · rw [if_neg ha]
      have ih := openTo_eq a ks L (fun e he => h e (List.mem_cons_of_mem _ he))
      unfold openTo at ih
      rw [ih]
      refine List.map_congr_left fun e _ => ?_
      have c : (e.1 ∈ k :: ks ∧ e.1.2.1 = some a) ↔ (e.1 ∈ ks ∧ e.1.2.1 = some a) := by
        rw [List.mem_cons]
        refine ⟨fun ⟨x, y⟩ => ⟨x.resolve_left fun z => ha (by rw [← z]; exact y), y⟩, fun ⟨x, y⟩ => ⟨.inr x, y⟩⟩
      by_cases h2 : e.1 ∈ ks ∧ e.1.2.1 = some a
      · rw [if_pos h2, if_pos (c.mpr h2)]
      · rw [if_neg h2, if_neg (fun z => h2 (c.mp z))]
theorem open_all (a : Int) (L : LSt) : openTo a (L.map (·.1)) L = L.map fun e => if e.1.2.1 = some a then (e.1, zeroC) else e := by
  rw [openTo_eq a _ L fun e he => he]
  refine List.map_congr_left fun e he => ?_
  have hm : e.1 ∈ L.map (·.1) := List.mem_map.mpr ⟨e, he, rfl⟩
  by_cases h : e.1.2.1 = some a
  · rw [if_pos h, if_pos ⟨hm, h⟩]
  · rw [if_neg h, if_neg fun z => h z.2]
end TL
/-! Trylocks, walk Le: the law's do. -/
namespace TL
open PySem PySem.Spec PyProof.Rows L2 Evl C8 RZ LamX NdefX
section
variable {P : Program} {w : World} {K : PySem.W.Frag} {mg : Str → Option Value} {base : Heap}
/-- the law's cells' defs, as the module has them -/
structure Tw (K : PySem.W.Frag) (mg : Str → Option Value) : Prop where
  key : DefB K mg "_law_key" (top 46) ["_law_rule_here", "_law_action"]
  cell : DefB K mg "_law_cell" (top 47) ["_law_state", "_law_k", "_law_key_here"]
  fresh : DefB K mg "_law_fresh" (top 48) ["_law_rule_here", "_law_cell_here", "_law_moment"]
  locked : DefB K mg "_law_locked" (top 49) ["_law_rules_here", "_law_state", "_law_moment", "_law_account", "_law_place"]
  new : DefB K mg "_law_new" (top 50) []
  counted : DefB K mg "_law_counted" (top 51) ["_law_rule_here", "_law_cell_here", "_law_moment"]
  do_ : DefB K mg "_law_do" (top 52) ["_law_rules_here", "_law_state", "_law_moment", "_law_action"]
theorem lat_ext {L : LSt} {d : Addr} {H H' : Hp} (hL : LAt P w K L d H) (e : ExB d H H') : ExT H H' := fun a o h n => by
  refine e a o (fun z => ?_) h
  obtain ⟨ent, h1, _⟩ := hL
  rw [z, h1] at h
  cases h
  cases n
theorem rulesL_B {L : LSt} {d lr : Addr} {rs : List TL.Rule} {H H' : Hp} (hL : LAt P w K L d H) (e : ExB d H H') (h : RulesL K rs lr H) : RulesL K rs lr H' := by
  obtain ⟨rvs, s, p⟩ := h
  refine ⟨rvs, ?_, Paired.mapP p fun v r q => ruleAt_T _ _ _ (lat_ext hL e) q⟩
  obtain ⟨ent, h1, _⟩ := hL
  rcases s with (s | ⟨o, s⟩) | s
  · exact .inl (.inl (e _ _ (ne_of s h1 fun z => by cases z) s))
  · exact .inl (.inr ⟨o, e _ _ (ne_of s h1 fun z => by cases z) s⟩)
  · exact .inr s
theorem lrel_some {k : Nat} {y : TL.Key} {H : Hp} {ent : List NEnt} {L : LSt} (h : LRel K ent L H) : (atE ent (lkey (k, y))).isSome = (L.find? fun e => decide (e.1 = (k, y))).isSome := by
  have q := lrel_at (k := k) (y := y) h
  cases ha : atE ent (lkey (k, y)) with
  | none => rw [q.2 ha]; rfl
  | some v =>
    obtain ⟨c, hc, _⟩ := q.1 v ha
    obtain ⟨e, he, _⟩ := Option.map_eq_some_iff.mp hc
    rw [he]
    rfl
theorem lrel_put {k : Nat} {y : TL.Key} {c : Cell} {v : V} {a : Addr} {H : Hp} {ent : List NEnt} {L : LSt} (h : LRel K ent L H) (hc : CellAt K c v H) : LRel K (putE ent (lkey (k, y)) a v) (setC L k y c) H := by
  unfold putE setC
  rw [lrel_some h]
  split
  · have all : ∀ {ent : List NEnt} {L : LSt}, LRel K ent L H → LRel K (ent.map fun p => if p.1 = lkey (k, y) then (p.1, p.2.1, v) else p) (L.map fun e => if e.1 = (k, y) then (e.1, c) else e) H := by
      intro ent L z
      induction z with
      | nil => exact .nil
      | @cons p e ps es hq t ih =>
        obtain ⟨h1, h2⟩ := hq
        refine .cons ?_ ih
        dsimp only
        by_cases hk : e.1 = (k, y)
        · rw [if_pos (show p.1 = lkey (k, y) by rw [h1, hk]), if_pos hk]
          exact ⟨h1, hc⟩
        · rw [if_neg (fun z => hk (lkey_inj (h1.symm.trans z))), if_neg hk]
          exact ⟨h1, h2⟩
    exact all h
  · exact Paired.snoc h ⟨rfl, hc⟩
theorem setC_len (L : LSt) (k : Nat) (y : TL.Key) (c : Cell) : (setC L k y c).length ≤ L.length + 1 := by
  unfold setC
  split
  · rw [List.length_map]; omega
  · rw [List.length_append]; exact Nat.le_refl _
/-- state[key] = cell -/
theorem s_lput {σ : L2.St} {H : Hp} {ty tv : TE} {D : Ends} {i : Nat} {d : Addr} {L : LSt} {k : Nat} {y : TL.Key} {c : Cell} (hi : σ[i]? = some (some (.ref d))) (hv : Er tv σ H (CellAt K c)) (hy : ∀ H1, Ex H H1 → Er ty σ H1 (fun v H2 => ∃ a, v = .ref a ∧ NK K H2 (lkey (k, y)) (.ref a))) (hL : LAt P w K L d H) (hl : L.length < 10000)
    (kont : ∀ H2, ExB d H H2 → LAt P w K (setC L k y c) d H2 → D.nx σ H2) : sNDPut P w K (tVar i) ty tv D σ H :=
  hv H (Ex.refl H) _ fun v H1 e1 hc => ⟨_, hi, hy H1 e1 H1 (Ex.refl H1) _ fun u H2 e2 ⟨a, ea, nk⟩ => by
    subst ea
    obtain ⟨ent, h1, h2, h3⟩ := lAt_st (e1.trans e2) hL
    have hlen : ent.length = L.length := Paired.length h3
    refine ⟨d, a, ent, lkey (k, y), rfl, rfl, h1, h2, nk, lkey_depth _, ?_, kont _ ((ExB.of (e1.trans e2)).trans ExB.upd) ⟨_, upd_same, ?_, ?_⟩⟩
    · have q := putE_len ent (lkey (k, y)) a v
      exact Nat.le_trans (show _ ≤ 10001 by omega) (by decide)
    · exact (putE_nk h2 nk (lkey_depth _)).mono (ExT.upd h1 rfl)
    · exact lrel_T (ExT.upd h1 rfl) (lrel_put h3 (cellAt_st _ _ _ e2 hc))⟩
theorem nk_inv {e : Nat × TL.Key} {a : Addr} {H : Hp} (h : NK K H (lkey e) (.ref a)) : ∃ b, SqT K H a [.int e.1, .ref b] ∧ SqT K H b [oV e.2.1, oV e.2.2] := by
  have ok : ∀ {x : Option Int} {v : V}, NK K H (okey x) v → v = oV x := fun {x v} h => by
    cases x with
    | none => cases h; rfl
    | some i => cases h; rfl
  unfold lkey at h
  cases h with
  | tup s h =>
    cases h with
    | cons h1 h =>
      cases h with
      | cons h2 h =>
        cases h
        cases h1
        cases h2 with
        | tup s2 h =>
          cases h with
          | cons h3 h =>
            cases h with
            | cons h4 h =>
              cases h
              rw [ok h3, ok h4] at s2
              exact ⟨_, s, s2⟩
theorem getC_c4 {L : LSt} (h : ∀ e ∈ L, 0 ≤ e.2.c4) (k : Nat) (y : TL.Key) : 0 ≤ (getC L k y).c4 := by
  unfold getC
  cases hf : L.find? fun e => decide (e.1 = (k, y)) with
  | none => exact Int.le_refl 0
  | some e => exact h e (List.mem_of_find?_eq_some hf)
theorem setC_c4 {L : LSt} (h : ∀ e ∈ L, 0 ≤ e.2.c4) {k : Nat} {y : TL.Key} {c : Cell} (hc : 0 ≤ c.c4) : ∀ e ∈ setC L k y c, 0 ≤ e.2.c4 := fun e he => by
  unfold setC at he
  split at he
  · obtain ⟨x, hx, rfl⟩ := List.mem_map.mp he
    split
    · exact hc
    · exact h x hx
  · rcases List.mem_append.mp he with q | q
    · exact h e q
    · rw [List.mem_singleton.mp q]; exact hc
theorem freshC_c4 (r : TL.Rule) (c : Cell) (t : Int) : (freshC r c t).c4 = c.c4 := by
  unfold freshC
  split <;> rfl
theorem cellDo_c4 {r : TL.Rule} {held : List Nat} {right : Bool} {k : Nat} {c : Cell} {t : Int} (h : 0 ≤ c.c4) : 0 ≤ (cellDo r held right k c t).c4 := by
  unfold cellDo countedC
  split
  · split <;> exact h
  · split
    · split
      · exact Int.le_refl 0
      · exact h
    · split
      · exact h
      · show 0 ≤ c.c4 + 1; omega
theorem inV_nats (i : Nat) (ks : List Nat) : inV (.int (i : Nat)) (ks.map fun k => V.int (k : Nat)) = decide (i ∈ ks) := by
  induction ks with
  | nil => rfl
  | cons k ks ih =>
    unfold inV at ih ⊢
    rw [List.map_cons, List.any_cons, ih]
    show (((k : Int) == (i : Int)) || decide (i ∈ ks)) = decide (i ∈ k :: ks)
    by_cases h : k = i
    · subst h
      simp
    · have h1 : ((k : Int) == (i : Int)) = false := beq_eq_false_iff_ne.mpr (by omega)
      rw [h1, Bool.false_or]
      exact decide_eq_decide.mpr ⟨fun z => List.mem_cons_of_mem _ z, fun z => (List.mem_cons.mp z).resolve_left fun e => h e.symm⟩
theorem flat_nats (ks : List Nat) : (ks.map fun k => V.int (k : Nat)).all flatV = true := by
  rw [List.all_map, List.all_eq_true]
  intro x _
  rfl
/-- cell[:2] + (..) -/
theorem er_catK {σ : L2.St} {H : Hp} {tc t1 t2 t3 : TE} {x y z : Int} {a : Addr} {c : Cell} (h1 : Ev t1 σ H (.int x)) (h2 : Ev t2 σ H (.int y)) (h3 : Ev t3 σ H (.int z)) (hc : Ev tc σ H (.ref a)) (hs : SqT K H a (cellVs c)) :
    Er (tOp (rCatA K) (tSl (rSlA K) tc tNoPart (tPart (tC (.int 2)))) (tTup (tCons t1 (tCons t2 (tCons t3 tNil))))) σ H (CellAt K ⟨c.c0, c.c1, x, y, z⟩) := fun H1 e Q q =>
  hc H1 e _ fun H2 e2 => ⟨2, rfl, a, cellVs c, rfl, ex_t (e.trans e2) hs, (fun h => absurd (show HT.sIx 5 5 (some (2 : Int)) = 5 from h.2) (by decide)), fun _ p2 hp2 =>
    eu_tup (ea_cons h1 (ea_cons h2 (ea_cons h3 ea_nil))) (by show 3 ≤ 100000; decide) _ (e.trans (e2.trans (Ex.new hp2))) _ fun p H3 _ e3 hp => ⟨p2, p, [.int c.c0, .int c.c1], [.int x, .int y, .int z], rfl, rfl, ex_t e3 (st_of upd_same), st_of hp, sz_of (by show 2 + 3 ≤ 100000; decide), (fun h => by cases h), (fun _ h => by cases h), fun _ _ p3 hp3 => q _ _ (((e2.trans (Ex.new hp2)).trans e3).trans (Ex.new hp3)) ⟨p3, rfl, st_of upd_same⟩⟩⟩
def nDo : List Str := ["_law_rules_here", "_law_state", "_law_moment", "_law_action", "_law_mark_here", "_law_held", "_law_k", "_law_rule_here", "_law_key_here", "_law_cell_here"]
theorem sc_do : FnScope nDo ["_law_rules_here", "_law_state", "_law_moment", "_law_action"] (fnScope (top 52)) := fnScope_by (by decide +kernel)
def spDo (P : Program) (w : World) (K : PySem.W.Frag) : Sp := fun vs H Q _ => ∃ (lr d : Addr) (t : Int) (va : V) (rs : List TL.Rule) (L : LSt) (act : Act), vs = [.ref lr, .ref d, .int t, va] ∧ RulesL K rs lr H ∧ (∀ r ∈ rs, RuleOk r) ∧ rs.length ≤ 3 ∧ LAt P w K L d H ∧ ActAt K act va H ∧ L.length ≤ 1000 ∧ (∀ e ∈ L, 0 ≤ e.2.c4) ∧
  ∀ H', ExB d H H' → LAt P w K (doL rs L t act).2 d H' → Q (.str (wordOf (doL rs L t act).1)) H'
theorem c_do (T : Tx K mg) (L9 : Tw K mg) : Cal P w K mg base 3 "_law_do" (spDo P w K) [] := by
  have cK := c_lkey (P := P) (w := w) (base := base) T L9.key
  have cC := c_lcell (P := P) (w := w) (base := base) T L9.cell
  have cF := c_fresh (P := P) (w := w) (base := base) T L9.fresh
  have cL := c_llocked (P := P) (w := w) (base := base) T L9.key L9.cell L9.locked
  have cN := c_counted (P := P) (w := w) (base := base) T L9.counted
  refine calT L9.do_ sc_do (fun vs H Q E h => ?_) (fun f cdv A outer s H vs Q E hr h => ?_)
  · obtain ⟨lr, d, t, va, rs, L, act, rfl, _⟩ := h
    rfl
  · obtain ⟨lr, d, t, va, rs, L, act, rfl, hR, hro, hrl, hL, hA, hLl, hL4, k⟩ := h
    have nd := sc_do.nd
    have hu := hu64' hr
    refine ⟨_, pss_cons (ps_if (pt_cmpR op_isN (pv 3) pe_non (nomark _)) (pss_one (ps_ret pe_str)) pss_nil)
      (pss_cons (ps_if (pt_cmpR op_eq (pe_ix ix_tup (pv 3) pe_int (fun _ _ => rfl)) pe_str (nomark _))
        (pss_cons (ps_for PassesOwn.never rfl (pi_list (pe_callTy (r := rListN P w K) (call_listN rfl) rfl (T.fr "list") (by decide +kernel) (pa_cons (pv 1) pa_nil))) (pg_name (i := 4) nd rfl (.inl rfl))
          (pss_one (ps_if (pt_cmpR op_eq (pe_ix ix_tup (pe_ix ix_tup (pv 4) pe_int (fun _ _ => rfl)) pe_int (fun _ _ => rfl)) (pe_ix ix_tup (pv 3) pe_int (fun _ _ => rfl)) (nomark _))
            (pss_one (ps_ndput hu (pv 1) (pv 4) (pe_tup (pa_cons pe_int (pa_cons pe_int (pa_cons (pe_un un_neg pe_int) (pa_cons pe_int (pa_cons pe_int pa_nil)))))) rfl)) pss_nil)))
        (pss_one (ps_ret pe_str))) pss_nil)
      (pss_cons (ps_set (i := 5) nd rfl (.inl rfl) (pe_c cL hr (by decide) rfl (pa_cons (pv 0) (pa_cons (pv 1) (pa_cons (pv 2) (pa_cons (pe_ix ix_tup (pv 3) pe_int (fun _ _ => rfl)) (pa_cons (pe_ix ix_tup (pv 3) pe_int (fun _ _ => rfl)) pa_nil)))))))
      (pss_cons (ps_for PassesOwn.never rfl (pi_range1 rfl (T.fr "range") (pa_cons (pe_callB call_len_seq rfl (T.fr "len") boot_len (pa_cons (pv 0) pa_nil)) pa_nil)) (pg_name (i := 6) nd rfl (.inl rfl))
        (pss_cons (ps_set (i := 7) nd rfl (.inl rfl) (pe_ix ix_list (pv 0) (pv 6) (fun _ _ => rfl)))
        (pss_cons (ps_set (i := 8) nd rfl (.inl rfl) (pe_c cK hr (by decide) rfl (pa_cons (pv 7) (pa_cons (pv 3) pa_nil))))
        (pss_cons (ps_set (i := 9) nd rfl (.inl rfl) (pe_c cF hr (by decide) rfl (pa_cons (pv 7) (pa_cons (pe_c cC hr (by decide) rfl (pa_cons (pv 1) (pa_cons (pv 6) (pa_cons (pv 8) pa_nil)))) (pa_cons (pv 2) pa_nil)))))
        (pss_cons (ps_if (pt_cmpR op_gt (pe_callB call_len_seq rfl (T.fr "len") boot_len (pa_cons (pv 5) pa_nil)) pe_int (nomark _))
            (pss_one (ps_if (PW.pt (pw_and (pt_cmpR op_in_seq (pv 6) (pv 5) (by rfl)) (pw_and1 (pt_val (pe_ix ix_tup (pv 7) pe_int (fun _ _ => rfl))))))
              (pss_one (ps_set (i := 9) nd rfl (.inl rfl) (pe_op op_catA (pe_slice sl_tupA (pv 9) po_none (po_some pe_int)) (pe_tup (pa_cons (pe_op op_add (pv 2) (pe_ix ix_tup (pv 9) pe_int (fun _ _ => rfl))) (pa_cons (pe_ix ix_tup (pv 9) pe_int (fun _ _ => rfl)) (pa_cons (pe_ix ix_tup (pv 9) pe_int (fun _ _ => rfl)) pa_nil))))))) pss_nil))
            (pss_one (ps_if (pt_val (pe_ix ix_tup (pv 3) pe_int (fun _ _ => rfl)))
              (pss_one (ps_if (pt_val (pe_ix ix_tup (pv 7) pe_int (fun _ _ => rfl))) (pss_one (ps_set (i := 9) nd rfl (.inl rfl) (pe_tup (pa_cons pe_int (pa_cons pe_int (pa_cons (pe_un un_neg pe_int) (pa_cons pe_int (pa_cons pe_int pa_nil)))))))) pss_nil))
              (pss_one (ps_set (i := 9) nd rfl (.inl rfl) (pe_c cN hr (by decide) rfl (pa_cons (pv 7) (pa_cons (pv 9) (pa_cons (pv 2) pa_nil)))))))))
        (pss_one (ps_ndput hu (pv 1) (pe_tup (pa_cons (pv 6) (pa_cons (pv 8) pa_nil))) (pv 9) rfl)))))))
      (pss_cons (ps_if (pt_cmpR op_gt (pe_callB call_len_seq rfl (T.fr "len") boot_len (pa_cons (pv 5) pa_nil)) pe_int (nomark _)) (pss_one (ps_ret pe_str)) pss_nil)
      (pss_cons (ps_if (pt_val (pe_ix ix_tup (pv 3) pe_int (fun _ _ => rfl))) (pss_one (ps_ret pe_str)) pss_nil)
      (pss_one (ps_ret pe_str))))))), ?_⟩
    have hs : L2.start nDo [.ref lr, .ref d, .int t, va] = [some (.ref lr), some (.ref d), some (.int t), some va, none, none, none, none, none, none] := rfl
    rw [hs]
    have isN : ∀ {σ1 : L2.St} {H1 : Hp} {x : V}, σ1[3]? = some (some x) → EvT (tTest (tOp rIsN0 (tVar 3) (tC .non))) σ1 H1 (decide (x = .non)) := fun h => et_op (ev_var h) ev_c rv_isN
    cases act with
    | none =>
      obtain rfl : va = .non := hA
      exact q_when (b := true) (et_is (isN rfl) rfl) (fun _ H1 e1 => s_ret ev_c fun H2 e2 => k H2 (ExB.of (e1.trans e2)) (lAt_st (e1.trans e2) hL)) (fun z => by cases z)
    | open_ a =>
      obtain ⟨q, rfl, hq⟩ := hA
      refine q_when (b := false) (et_is (isN rfl) rfl) (fun z => by cases z) (fun _ H1 e1 => ?_)
      refine q_when (b := true) (et_is (et_op (ev_ixT (n := 0) (ev_var rfl) ev_c (ex_t e1 hq) rfl) ev_c (rv_eq rfl)) (by decide)) (fun _ H2 e2 => ?_) (fun z => by cases z)
      have e12 := e1.trans e2
      have hL2 := lAt_st e12 hL
      obtain ⟨ent, g1, g2, g3⟩ := id hL2
      have hle : ent.length = L.length := Paired.length g3
      have hEL : EvL (tCB (rListN P w K) (tCons (tVar 1) tNil)) [some (.ref lr), some (.ref d), some (.int t), some (.ref q), none, none, none, none, none, none] H2 (ent.map fun p => .ref p.2.1) := fun H3 e3 Q q0 => ⟨_, rfl, d, ent, rfl, e3 _ _ g1, g2.mono (exT e3), fun l hl => q0 l _ hl (Ex.new hl) upd_same⟩
      refine q_forNLn (K := K) hEL (fun p i σ' H' => ∃ u4, σ' = [some (.ref lr), some (.ref d), some (.int t), some (.ref q), u4, none, none, none, none, none] ∧ ExB d H H' ∧ ExB d H2 H' ∧ H' p = some (.lst (ent.map fun p => V.ref p.2.1)) ∧ p ≠ d ∧ LAt P w K (openTo a ((L.map (·.1)).take i) L) d H' ∧ (openTo a ((L.map (·.1)).take i) L).length ≤ L.length + i)
        (fun p H3 hp e3 hl3 => ⟨_, rfl, ExB.of (e12.trans e3), ExB.of e3, hl3, (fun z => by rw [z, g1] at hp; cases hp), (by rw [List.take_zero]; exact lAt_st e3 hL2), (by rw [List.take_zero]; exact Nat.le_refl _)⟩) (fun p i σ' H' _ ⟨_, _, _, _, h, _⟩ => SqL.of h) ?_ ?_
      · rintro p i x σ' H' hx ⟨u4, rfl, eB, eB2, hp, hpd, hLi, hlen⟩
        rw [List.getElem?_map] at hx
        cases he : ent[i]? with
        | none => rw [he] at hx; cases hx
        | some pe =>
          rw [he] at hx
          cases hx
          obtain ⟨ec, hc1, hc2⟩ := paired_get g3 he
          have hiL : i < L.length := (List.getElem?_eq_some_iff.mp hc1).1
          have nk := NK.mono (lat_ext hL2 eB2) _ _ (g2 pe (List.mem_of_getElem? he)).1
          rw [hc2.1] at nk
          obtain ⟨bk, n1, n2⟩ := nk_inv nk
          have hq' : SqT K H' q [.str "open", .int a] := (lat_ext hL eB).sq hq
          have hsucc : openTo a ((L.map (·.1)).take (i + 1)) L = if ec.1.2.1 = some a then setC (openTo a ((L.map (·.1)).take i) L) ec.1.1 ec.1.2 zeroC else openTo a ((L.map (·.1)).take i) L := by
            unfold openTo
            rw [take_next (x := ec.1) (by rw [List.getElem?_map, hc1]; rfl), List.foldl_append]
            rfl
          refine s_when (b := decide (oV ec.1.2.1 = .int a)) (et_op (ev_ixT (n := 0) (ev_ixT (n := 1) (ev_var rfl) ev_c n1 rfl) ev_c n2 rfl) (ev_ixT (n := 1) (ev_var rfl) ev_c hq' rfl) (rv_eq (by cases ec.1.2.1 <;> rfl))) (fun hb H3 e3 => ?_) (fun hb H3 e3 => ?_)
          · have ha : ec.1.2.1 = some a := by
              have z := of_decide_eq_true hb
              cases hz : ec.1.2.1 with
              | none => rw [hz] at z; cases z
              | some i => rw [hz] at z; cases z; rfl
            refine s_lput (P := P) (w := w) (K := K) (k := ec.1.1) (y := ec.1.2) rfl er_zero (fun H4 e4 => Er.imp (er_of (ev_var rfl)) fun v H5 e5 hv => ⟨_, hv, NK.mono (exT ((e3.trans e4).trans e5)) _ _ nk⟩) (lAt_st e3 hLi) (by omega) fun H4 e4 hL4' => ⟨_, rfl, (eB.trans (ExB.of e3)).trans e4, (eB2.trans (ExB.of e3)).trans e4, e4 _ _ hpd (e3 _ _ hp), hpd, ?_, ?_⟩
            · rw [hsucc, if_pos ha]; exact hL4'
            · rw [hsucc, if_pos ha]; have := setC_len (openTo a ((L.map (·.1)).take i) L) ec.1.1 ec.1.2 zeroC; omega
          · have ha : ¬ ec.1.2.1 = some a := fun z => of_decide_eq_false hb (by rw [z]; rfl)
            exact ⟨_, rfl, eB.trans (ExB.of e3), eB2.trans (ExB.of e3), e3 _ _ hp, hpd, (by rw [hsucc, if_neg ha]; exact lAt_st e3 hLi), (by rw [hsucc, if_neg ha]; omega)⟩
      · rintro p σ' H' ⟨u4, rfl, eB, eB2, hp, hpd, hLi, hlen⟩
        refine s_ret ev_c fun H3 e3 => k H3 (eB.trans (ExB.of e3)) (lAt_st e3 ?_)
        rw [List.take_of_length_le (by rw [List.length_map, List.length_map]; omega), open_all] at hLi
        exact hLi
    | try_ a p right =>
      obtain ⟨q, rfl, hq⟩ := hA
      refine q_when (b := false) (et_is (isN rfl) rfl) (fun z => by cases z) (fun _ H1 e1 => ?_)
      refine q_when (b := false) (et_is (et_op (ev_ixT (n := 0) (ev_var rfl) ev_c (ex_t e1 hq) rfl) ev_c (rv_eq rfl)) (by decide)) (fun z => by cases z) (fun _ H2 e2 => ?_)
      have e12 := e1.trans e2
      have hL2 := lAt_st e12 hL
      have hR2 := rulesL_st e12 hR
      have hq2 := ex_t e12 hq
      generalize hheld : heldL rs L t a p = held
      have hdo : doL rs L t (.try_ a p right) = (if 0 < held.length then .kept else if right then .tin else .wrong, (List.range rs.length).foldl (tryL rs held t a p right) L) := by rw [← hheld]; rfl
      have hEL : EvL (tCall (spLLocked P w K) [] C8.E0 (tCons (tVar 0) (tCons (tVar 1) (tCons (tVar 2) (tCons (tOp (rIxT K) (tVar 3) (tC (.int 1))) (tCons (tOp (rIxT K) (tVar 3) (tC (.int 2))) tNil)))))) [some (.ref lr), some (.ref d), some (.int t), some (.ref q), none, none, none, none, none, none] H2 (held.map fun k => V.int (k : Nat)) := fun H3 e3 Q q0 =>
        (ea_cons (ev_var rfl) (ea_cons (ev_var rfl) (ea_cons (ev_var rfl) (ea_cons (ev_ixT (K := K) (n := 1) (ev_var rfl) ev_c hq2 rfl) (ea_cons (ev_ixT (K := K) (n := 2) (ev_var rfl) ev_c hq2 rfl) ea_nil))))) H3 e3 _ fun H4 e4 => ⟨lr, d, t, a, p, rs, L, rfl, rulesL_st (e3.trans e4) hR2, hro, hrl, lAt_st (e3.trans e4) hL2, fun ph H5 hp e5 hl5 => q0 ph H5 (none_of_ex e4 hp) (e4.trans e5) (by rw [← hheld]; exact hl5)⟩
      refine q_asgL hEL fun ph H3 hph e3 hl3 => ?_
      show tSeq _ _ _ [some (.ref lr), some (.ref d), some (.int t), some (.ref q), none, some (.ref ph), none, none, none, none] H3
      have e13 := e12.trans e3
      have hpd : ph ≠ d := fun z => by
        obtain ⟨ent, g1, _⟩ := hL2
        rw [z, g1] at hph
        cases hph
      obtain ⟨rvs, hS, hP⟩ := id hR
      have hlen : rvs.length = rs.length := Paired.length hP
      have hlf : ∀ {σ1 : L2.St} {H1 : Hp}, σ1[5]? = some (some (.ref ph)) → H1 ph = some (.lst (held.map fun k => V.int (k : Nat))) → EvT (tTest (tOp (rI0 fun i j => .bl (decide (j < i))) (tCB (rLenS K) (tCons (tVar 5) tNil)) (tC (.int 0)))) σ1 H1 (decide (0 < held.length)) := fun h hh => et_is (et_op (ev_lenS (ev_var h) (SqL.of hh)) ev_c rv_I0) (by rw [List.length_map]; exact decide_eq_decide.mpr (by omega))
      refine q_forR1 (n := (rvs.length : Int)) (ea_cons (ev_lenS (ev_var rfl) (ex_l e13 hS)) ea_nil) (by omega) (fun i σ' H' => ∃ u6 u7 u8 u9, σ' = [some (.ref lr), some (.ref d), some (.int t), some (.ref q), none, some (.ref ph), u6, u7, u8, u9] ∧ ExB d H H' ∧ H' ph = some (.lst (held.map fun k => V.int (k : Nat))) ∧ LAt P w K ((List.range i).foldl (tryL rs held t a p right) L) d H' ∧ ((List.range i).foldl (tryL rs held t a p right) L).length ≤ L.length + i ∧ ∀ e ∈ (List.range i).foldl (tryL rs held t a p right) L, 0 ≤ e.2.c4)
        (fun H4 e4 => ⟨_, _, _, _, rfl, ExB.of (e13.trans e4), e4 _ _ hl3, lAt_st (e13.trans e4) hL, Nat.le_refl _, hL4⟩) ?_ ?_
      · rintro i σ' H' hi ⟨u6, u7, u8, u9, rfl, eB, hph', hLi, hll, hc4⟩
        have hir : i < rs.length := by omega
        have hri : rs[i]? = some rs[i] := List.getElem?_eq_getElem hir
        have hro' := hro rs[i] (List.getElem_mem hir)
        generalize rs[i] = r at hri hro'
        have hsucc : (List.range (i + 1)).foldl (tryL rs held t a p right) L = setC ((List.range i).foldl (tryL rs held t a p right) L) i (keyFor r a p) (cellDo r held right i (freshC r (getC ((List.range i).foldl (tryL rs held t a p right) L) i (keyFor r a p)) t) t) := by
          rw [List.range_succ, List.foldl_append]
          show tryL rs held t a p right _ i = _
          unfold tryL
          rw [hri]
        rw [hsucc]
        generalize (List.range i).foldl (tryL rs held t a p right) L = Li at hLi hll hc4 ⊢
        have hg4 := getC_c4 hc4 i (keyFor r a p)
        generalize hgc : getC Li i (keyFor r a p) = gc at hg4 ⊢
        have eT : ExT H H' := lat_ext hL eB
        refine qr_asg (er_ruleAt (K := K) rfl rfl (rulesL_B hL eB hR) hri) fun vr H4 e4 hr4 => ?_
        have hq4 : SqT K H4 q [.str "try", .int a, .int p, .bl right] := ex_t e4 (eT.sq hq)
        refine qr_asg (R := KeyAt K (keyFor r a p)) (fun H5 e5 Q q0 => ⟨_, rfl, _, rfl, vr, q, r, "try", a, p, [.bl right], rfl, ruleAt_st _ _ _ e5 hr4, ex_t e5 hq4, hro'.1, fun v H6 e6 h => q0 v H6 e6 h⟩) fun vk H5 e5 hk5 => ?_
        refine qr_asg (R := CellAt K (freshC r gc t)) (fun H6 e6 Q q0 => ⟨_, rfl, er_lcell (P := P) (w := w) (K := K) (σ := [some (.ref lr), some (.ref d), some (.int t), some (.ref q), none, some (.ref ph), some (.int (i : Nat)), some vr, some vk, u9]) (H := H6) rfl rfl rfl (lAt_st ((e4.trans e5).trans e6) hLi) (keyAt_st _ _ _ e6 hk5) H6 (Ex.refl H6) _ fun vc H7 e7 hc7 => ⟨_, rfl, vr, vc, r, gc, t, rfl, ruleAt_st _ _ _ ((e5.trans e6).trans e7) hr4, by rw [hgc] at hc7; exact hc7, fun v H8 e8 h => q0 v H8 (e7.trans e8) h⟩⟩) fun vc H6 e6 hc6 => ?_
        have hf4 : 0 ≤ (freshC r gc t).c4 := by rw [freshC_c4]; exact hg4
        generalize freshC r gc t = fc at hc6 hf4 ⊢
        have e46 := (e4.trans e5).trans e6
        have hr6 := ruleAt_st _ _ _ (e5.trans e6) hr4
        have hk6 := keyAt_st _ _ _ e6 hk5
        have hq6 := ex_t (e5.trans e6) hq4
        have hph6 := e46 _ _ hph'
        have hLi6 := lAt_st e46 hLi
        have eB6 := eB.trans (ExB.of e46)
        show tSeq _ _ _ [some (.ref lr), some (.ref d), some (.int t), some (.ref q), none, some (.ref ph), some (.int (i : Nat)), some vr, some vk, some vc] H6
        refine cutK (M := fun σ'' H'' => ∃ vc', σ'' = [some (.ref lr), some (.ref d), some (.int t), some (.ref q), none, some (.ref ph), some (.int (i : Nat)), some vr, some vk, some vc'] ∧ Ex H6 H'' ∧ CellAt K (cellDo r held right i fc t) vc' H'') ?_ fun kM => ?_
        · rintro σ'' H7 ⟨vc', rfl, e7, hc7⟩
          refine s_lput (P := P) (w := w) (K := K) (k := i) (y := keyFor r a p) (c := cellDo r held right i fc t) rfl (fun H8 e8 Q q0 => ⟨_, rfl, q0 _ H8 (Ex.refl H8) (cellAt_st _ _ _ e8 hc7)⟩) (fun H8 e8 => Er.imp (er_pair (K := K) (ev_var rfl) (ev_var rfl)) fun u H9 e9 ⟨pp, eu, hs⟩ => ⟨pp, eu, nk_lkey (keyAt_st _ _ _ ((e7.trans e8).trans e9) hk6) hs⟩) (lAt_st e7 hLi6) (by omega) fun H8 e8 hL8 => ⟨_, _, _, _, rfl, (eB6.trans (ExB.of e7)).trans e8, e8 _ _ hpd (e7 _ _ hph6), hL8, ?_, setC_c4 hc4 (cellDo_c4 hf4)⟩
          have := setC_len Li i (keyFor r a p) (cellDo r held right i fc t)
          omega
        · obtain ⟨ar, rfl, hR6⟩ := id hr6
          obtain ⟨ac, rfl, hC6⟩ := id hc6
          refine q_if (b := decide (0 < held.length)) (hlf rfl hph6) (fun hb H7 e7 => ?_) (fun hb H7 e7 => ?_)
          · have hb' := of_decide_eq_true hb
            refine s_when (b := decide (i ∈ held) && r.strict) (et_and (et_is (et_op (x := .int (i : Nat)) (y := .ref ph) (ev_var rfl) (ev_var rfl) (rv_isL (SqL.of (e7 _ _ hph6)) rfl (flat_nats held))) (inV_nats i held)) fun _ => et_B (ev_ixT (n := 6) (ev_var rfl) ev_c (ex_t e7 hR6) rfl)) (fun hb2 H8 e8 => ?_) (fun hb2 H8 e8 => ?_)
            · simp only [Bool.and_eq_true, decide_eq_true_eq] at hb2
              have hC8 := ex_t (e7.trans e8) hC6
              refine sr_asg (er_catK (K := K) (c := fc) (ev_add (ev_var rfl) (ev_ixT (n := 3) (ev_var rfl) ev_c hC8 rfl)) (ev_ixT (n := 3) (ev_var rfl) ev_c hC8 rfl) (ev_ixT (n := 4) (ev_var rfl) ev_c hC8 rfl) (ev_var rfl) hC8) fun vn H9 e9 hn => kM _ _ ⟨vn, rfl, (e7.trans e8).trans e9, ?_⟩
              unfold cellDo
              rw [if_pos hb', if_pos hb2]
              exact hn
            · have hb3 : ¬ (i ∈ held ∧ r.strict = true) := fun z => by
                have w1 : (decide (i ∈ held) && r.strict) = true := by simp only [Bool.and_eq_true, decide_eq_true_eq]; exact z
                rw [hb2] at w1
                cases w1
              refine kM _ _ ⟨_, rfl, e7.trans e8, ?_⟩
              unfold cellDo
              rw [if_pos hb', if_neg hb3]
              exact cellAt_st _ _ _ (e7.trans e8) hc6
          · have hb' := of_decide_eq_false hb
            refine s_if (b := right) (et_B (ev_ixT (n := 3) (ev_var rfl) ev_c (ex_t e7 hq6) rfl)) (fun hr2 H8 e8 => ?_) (fun hr2 H8 e8 => ?_)
            · refine s_when (b := r.clears) (et_B (ev_ixT (n := 4) (ev_var rfl) ev_c (ex_t (e7.trans e8) hR6) rfl)) (fun hb2 H9 e9 => ?_) (fun hb2 H9 e9 => ?_)
              · refine sr_asg (er_zero (K := K)) fun vn H10 e10 hn => kM _ _ ⟨vn, rfl, ((e7.trans e8).trans e9).trans e10, ?_⟩
                unfold cellDo
                rw [if_neg hb', if_pos hr2, if_pos hb2]
                exact hn
              · refine kM _ _ ⟨_, rfl, (e7.trans e8).trans e9, ?_⟩
                unfold cellDo
                rw [if_neg hb', if_pos hr2, if_neg (by rw [hb2]; exact Bool.false_ne_true)]
                exact cellAt_st _ _ _ ((e7.trans e8).trans e9) hc6
            · refine sr_asg (R := CellAt K (countedC r fc t)) (fun H9 e9 Q q0 => ⟨_, rfl, _, rfl, _, rfl, .ref ar, .ref ac, r, fc, t, rfl, ruleAt_st _ _ _ ((e7.trans e8).trans e9) hr6, cellAt_st _ _ _ ((e7.trans e8).trans e9) hc6, hro', hf4, fun v H10 e10 h => q0 v H10 e10 h⟩) fun vn H10 e10 hn => kM _ _ ⟨vn, rfl, (e7.trans e8).trans e10, ?_⟩
              unfold cellDo
              rw [if_neg hb', if_neg (by rw [hr2]; exact Bool.false_ne_true)]
              exact hn
      · rintro σ' H' ⟨u6, u7, u8, u9, rfl, eB, hph', hLi, hll, hc4⟩
        have hi2 : ((rvs.length : Int)).toNat = rs.length := by omega
        rw [hi2] at hLi
        rw [hdo] at k
        refine q_when (b := decide (0 < held.length)) (hlf rfl hph') (fun hb H4 e4 => ?_) (fun hb H4 e4 => ?_)
        · refine s_ret ev_c fun H5 e5 => ?_
          have z := k H5 (eB.trans (ExB.of (e4.trans e5))) (lAt_st (e4.trans e5) hLi)
          rw [if_pos (of_decide_eq_true hb)] at z
          exact z
        · have hq4 : SqT K H4 q [.str "try", .int a, .int p, .bl right] := ex_t e4 ((lat_ext hL eB).sq hq)
          refine q_when (b := right) (et_B (ev_ixT (n := 3) (ev_var rfl) ev_c hq4 rfl)) (fun hr2 H5 e5 => s_ret ev_c fun H6 e6 => ?_) (fun hr2 H5 e5 => s_ret ev_c fun H6 e6 => ?_)
          · have z := k H6 (eB.trans (ExB.of ((e4.trans e5).trans e6))) (lAt_st ((e4.trans e5).trans e6) hLi)
            rw [if_neg (of_decide_eq_false hb), if_pos hr2] at z
            exact z
          · have z := k H6 (eB.trans (ExB.of ((e4.trans e5).trans e6))) (lAt_st ((e4.trans e5).trans e6) hLi)
            rw [if_neg (of_decide_eq_false hb), if_neg (by rw [hr2]; exact Bool.false_ne_true)] at z
            exact z
end
end TL
/-! Trylocks, walk Lf: the law's own count. -/
namespace TL
open PySem PySem.Spec PyProof.Rows L2 Evl C8 RZ LamX NdefX
theorem pe_c0 {X : Cx} {k j : Nat} {x : Str} {sp : Sp} {p pos : Pos} (c : Cal X.prog X.w X.K X.mg X.base k x sp []) (hr : Room j X.A) (hk : k ≤ j) (hg : Gl X x) (hdb : (x == ("__debug__" : Str)) = false := by decide) : PE X (.Call (.Name x p) [] [] pos) (tCall sp [] C8.E0 tNil) := by
  obtain ⟨f, fd, ps, ds, F, hm, kp, b, d⟩ := c.ex
  exact pe_call0 F (hr.mono hk) hg hm kp b d C8.pass0 hdb
section
variable {P : Program} {w : World} {K : PySem.W.Frag} {mg : Str → Option Value} {base : Heap}
theorem ex_B {d : Addr} {H H1 H2 : Hp} (e : Ex H H1) (eB : ExB d H1 H2) (hd : H d = none) : Ex H H2 := fun a o h => eB a o (ne_of_none h hd) (e a o h)
theorem lat_upd {L : LSt} {d p : Addr} {H : Hp} {o u : HO} (hL : LAt P w K L d H) (hp : H p = some o) (hk : keptO o = false) (hne : p ≠ d) : LAt P w K L d (upd H p u) := by
  obtain ⟨ent, h1, h2, h3⟩ := hL
  exact ⟨ent, by rw [upd_ne (Ne.symm hne)]; exact h1, h2.mono (ExT.upd hp hk), lrel_T (ExT.upd hp hk) h3⟩
theorem q_asgP {σ : L2.St} {H : Hp} {te : TE} {tz : TS} {D : Ends} {i : Nat} {R : V → Hp → Prop} (h : ∀ Q : VK, (∀ v H2, R v H2 → Q v H2) → te σ H Q) (k : ∀ v H2, R v H2 → tz D (σ.set i (some v)) H2) : tSeq (tAsg te (gName i)) tz D σ H := h _ k
theorem lok_len {L : LSt} (h : LOk L) : L.length ≤ 24 := by
  have q := nodup_le (m := allK) h.1 h.2.1
  rw [List.length_map] at q
  exact Nat.le_trans q (by decide)
def nCount : List Str := ["_law_rules_here", "_law_actions_here", "_law_gap", "_law_many", "_law_state", "_law_found", "_law_word", "_law_k", "_law_told"]
theorem sc_count : FnScope nCount ["_law_rules_here", "_law_actions_here", "_law_gap", "_law_many"] (fnScope (top 54)) := fnScope_by (by decide +kernel)
def spCount (K : PySem.W.Frag) : Sp := fun vs H Q _ => ∃ (lr la : Addr) (g : Int) (many : Nat) (rs : List TL.Rule) (acts : List Act), vs = [.ref lr, .ref la, .int g, .int many] ∧ RulesL K rs lr H ∧ (∀ r ∈ rs, RuleOk r) ∧ rs.length ≤ 3 ∧ ActsAt K acts la H ∧ acts ≠ [] ∧ (∀ a ∈ acts, ActIn a) ∧ (-(2 ^ 64) < g ∧ g < 2 ^ 64) ∧ many ≤ 100000 ∧
  ∀ v H', Ex H H' → CntAt (lcount rs g acts many) v H' → Q v H'
theorem lcount_succ (rs : List TL.Rule) (g : Int) (acts : List Act) (k : Nat) : lcount rs g acts (k + 1) = fun u => if u = ltold rs g acts k then lcount rs g acts k (ltold rs g acts k) + 1 else lcount rs g acts k u := funext fun u => by
  show lcount rs g acts k u + (if u = ltold rs g acts k then 1 else 0) = _
  by_cases h : u = ltold rs g acts k
  · rw [if_pos h, if_pos h, h]
  · rw [if_neg h, if_neg h]; omega
theorem c_count (T : Tx K mg) (L9 : Tw K mg) (D : DefB K mg "_law_count" (top 54) ["_law_rules_here", "_law_actions_here", "_law_gap", "_law_many"]) : Cal P w K mg base 4 "_law_count" (spCount K) [] := by
  have cNew := c_newL (P := P) (w := w) (base := base) T L9.new
  have cDo := c_do (P := P) (w := w) (base := base) T L9
  refine calT D sc_count (fun vs H Q E h => ?_) (fun f cdv A outer s H vs Q E hr h => ?_)
  · obtain ⟨lr, la, g, many, rs, acts, rfl, _⟩ := h
    rfl
  · obtain ⟨lr, la, g, many, rs, acts, rfl, hR, hro, hrl, hA, hne, hin, hg, hm, k⟩ := h
    have nd := sc_count.nd
    refine ⟨_, pss_cons (ps_set (i := 4) nd rfl (.inl rfl) (pe_c0 cNew hr (by decide) rfl))
      (pss_cons (ps_set (i := 5) nd rfl (.inl rfl) pe_dnewK)
      (pss_cons (ps_for PassesOwn.never rfl (pi_list (pe_lst (pa_cons pe_str (pa_cons pe_str (pa_cons pe_str (pa_cons pe_str (pa_cons pe_str pa_nil))))))) (pg_name (i := 6) nd rfl (.inl rfl)) (pss_one (ps_dput (hu_of hr) (pv 5) (pv 6) pe_int rfl)))
      (pss_cons (ps_for PassesOwn.never rfl (pi_range1 rfl (T.fr "range") (pa_cons (pv 3) pa_nil)) (pg_name (i := 7) nd rfl (.inl rfl))
        (pss_cons (ps_set (i := 8) nd rfl (.inl rfl) (pe_c cDo hr (by decide) rfl (pa_cons (pv 0) (pa_cons (pv 4) (pa_cons (pe_op op_mul (pv 7) (pv 2)) (pa_cons (pe_ix ix_list (pv 1) (pe_op op_mod (pv 7) (pe_callB call_len_seq rfl (T.fr "len") boot_len (pa_cons (pv 1) pa_nil))) (fun _ _ => rfl)) pa_nil))))))
        (pss_one (ps_dput (hu_of hr) (pv 5) (pv 8) (pe_op op_add (pe_dget (hu_of hr) (pv 5) (pv 8) (fun _ _ => rfl)) pe_int) rfl))))
      (pss_one (ps_ret (pv 5)))))), ?_⟩
    have hs : L2.start nCount [.ref lr, .ref la, .int g, .int many] = [some (.ref lr), some (.ref la), some (.int g), some (.int many), none, none, none, none, none] := rfl
    rw [hs]
    obtain ⟨avs, hAL, hAP⟩ := id hA
    have hal : avs.length = acts.length := Paired.length hAP
    have hpos : 0 < acts.length := List.length_pos_iff.mpr hne
    refine q_asgNew (R := fun d H1 => LAt P w K [] d H1) (fun Q q => ⟨rfl, fun d H' e hd hL => q d H' hd e hL⟩) fun d H1 hd e1 hL1 => ?_
    refine q_asgNew (te := tDNewK) (R := fun p H2 => H2 p = some (.dK [])) (fun Q q p hp => q p _ hp (Ex.new hp) upd_same) fun df H2 hdf e2 hf2 => ?_
    show tSeq _ _ _ [some (.ref lr), some (.ref la), some (.int g), some (.int many), some (.ref d), some (.ref df), none, none, none] H2
    have hdfH : H df = none := none_of_ex e1 hdf
    have hddf : d ≠ df := fun z => by
      obtain ⟨ent, g1, _⟩ := hL1
      rw [z, hdf] at g1
      cases g1
    refine q_forNLn (K := K) (el_lst (vs := tolds.map fun t => V.str (wordOf t)) (ea_cons ev_c (ea_cons ev_c (ea_cons ev_c (ea_cons ev_c (ea_cons ev_c ea_nil))))) (by decide)) (fun p i σ' H' => ∃ u6, σ' = [some (.ref lr), some (.ref la), some (.int g), some (.int many), some (.ref d), some (.ref df), u6, none, none] ∧ Ex H H' ∧ H' p = some (.lst (tolds.map fun t => V.str (wordOf t))) ∧ p ≠ df ∧ LAt P w K [] d H' ∧ H' df = some (.dK ((tolds.take i).map fun t => (Sum.inr (wordOf t), .int 0))))
      (fun p H3 hp e3 hl => ⟨_, rfl, (e1.trans e2).trans e3, hl, (fun z => by rw [z, hf2] at hp; cases hp), lAt_st (e2.trans e3) hL1, e3 _ _ hf2⟩) (fun p i σ' H' _ ⟨_, _, _, h, _⟩ => SqL.of h) ?_ ?_
    · rintro p i x σ' H' hx ⟨u6, rfl, e3, hl, hpf, hL3, hf3⟩
      rw [List.getElem?_map] at hx
      cases ht : tolds[i]? with
      | none => rw [ht] at hx; cases hx
      | some tt =>
        rw [ht] at hx
        cases hx
        refine ⟨_, rfl, _, rfl, df, _, rfl, .inl ⟨_, Sum.inr (wordOf tt), hf3, rfl, ?_, rfl⟩, ?_⟩
        · rw [List.length_map]
          exact Nat.lt_of_le_of_lt (Nat.le_trans (by rw [List.length_take]; exact Nat.min_le_right _ _) (show tolds.length ≤ 5 by decide)) (by decide)
        · have hpt := acc_put (fun _ => 0) ht
          rw [hpt]
          exact ⟨_, rfl, Ex.mut e3 hdfH, by rw [upd_ne hpf]; exact hl, hpf, lat_upd hL3 hf3 rfl (Ne.symm hddf), upd_same⟩
    · rintro p σ' H' ⟨u6, rfl, e3, hl, hpf, hL3, hf3⟩
      have hf0 : H' df = some (.dK (cntKvs fun _ => 0)) := hf3
      refine q_forR1 (n := (many : Int)) (ea_cons (ev_var rfl) ea_nil) (by omega) (fun i σ' H' => ∃ u6 u7 u8, σ' = [some (.ref lr), some (.ref la), some (.int g), some (.int many), some (.ref d), some (.ref df), u6, u7, u8] ∧ Ex H H' ∧ LAt P w K (lrun rs g acts i) d H' ∧ H' df = some (.dK (cntKvs (lcount rs g acts i))))
        (fun H4 e4 => ⟨_, _, _, rfl, e3.trans e4, lAt_st e4 hL3, e4 _ _ hf0⟩) ?_ ?_
      · rintro i σ' H4 hi ⟨u6, u7, u8, rfl, e4, hL4, hf4⟩
        have hiL : i % acts.length < acts.length := Nat.mod_lt _ hpos
        have hact : acts[i % acts.length]? = some (acts.getD (i % acts.length) .none) := by rw [List.getD_eq_getElem?_getD, List.getElem?_eq_getElem hiL]; rfl
        have hia : i % acts.length < avs.length := by omega
        obtain ⟨act, ha1, ha2⟩ := paired_get hAP (List.getElem?_eq_getElem hia)
        rw [hact] at ha1
        cases ha1
        have hok := lok_run hrl hin i (gap := g)
        have hdf4 : ∀ {H5 : Hp}, ExB d H4 H5 → H5 df = some (.dK (cntKvs (lcount rs g acts i))) := fun e => e _ _ (Ne.symm hddf) hf4
        refine q_asgP (R := fun v H5 => v = .str (wordOf (ltold rs g acts i)) ∧ ExB d H4 H5 ∧ LAt P w K (lrun rs g acts (i + 1)) d H5) (fun Q q => (ea_cons (ev_var rfl) (ea_cons (ev_var rfl) (ea_cons (ev_op (ev_var rfl) (ev_var rfl) (rv_I (.inr hg))) (ea_cons (ev_ixL (K := K) (ev_var rfl) (ev_is (ev_op (x := .int (i : Nat)) (ev_var rfl) (ev_lenS (ev_var rfl) (ex_l e4 hAL)) (rv_I (by rw [hal]; omega))) (w := .int ((i % acts.length : Nat) : Int)) (by rw [hal]; rfl)) (ex_l e4 hAL) (atI_nat (List.getElem?_eq_getElem hia))) ea_nil)))) H4 (Ex.refl H4) _ fun H5 e5 =>
          ⟨lr, d, (i : Int) * g, avs[i % acts.length], rs, lrun rs g acts i, acts.getD (i % acts.length) .none, rfl, rulesL_st (e4.trans e5) hR, hro, hrl, lAt_st e5 hL4, actAt_T _ _ _ (exT (e4.trans e5)) ha2, Nat.le_trans (lok_len hok) (by decide), hok.2.2, fun H6 e6 hL6 => q _ H6 ⟨rfl, (ExB.of e5).trans e6, hL6⟩⟩) fun v H5 ⟨ev, e5, hL5⟩ => ?_
        subst ev
        have hf5 := hdf4 e5
        refine ⟨_, rfl, _, rfl, df, _, rfl, .inl ⟨_, Sum.inr (wordOf (ltold rs g acts i)), .inl hf5, rfl, (cnt_get _ _).symm⟩, _, _, rfl, rfl, _, rfl, _, rfl, df, _, rfl, .inl ⟨_, Sum.inr (wordOf (ltold rs g acts i)), hf5, rfl, cnt_len _, rfl⟩, ?_⟩
        rw [cnt_put, ← lcount_succ]
        exact ⟨_, _, _, rfl, Ex.mut (ex_B e4 e5 hd) hdfH, lat_upd hL5 hf5 rfl (Ne.symm hddf), upd_same⟩
      · rintro σ' H4 ⟨u6, u7, u8, rfl, e4, hL4, hf4⟩
        exact ⟨_, rfl, k _ _ e4 ⟨df, rfl, by rw [hf4]; rfl⟩⟩
end
end TL
/-! Trylocks, walk Lg: refused. -/
namespace TL
open PySem PySem.Spec PyProof.Rows L2 Evl C8 RZ LamX NdefX
section
variable {P : Program} {w : World} {K : PySem.W.Frag} {mg : Str → Option Value} {base : Heap}
def nRefused : List Str := ["_law_book", "_law_actions_here", "_law_gap", "_law_told"]
theorem sc_refused : FnScope nRefused ["_law_book", "_law_actions_here", "_law_gap"] (fnScope (top 57)) := fnScope_by (by decide +kernel)
/-- which of the two errors is told -/
def spRefused (P : Program) (w : World) (K : PySem.W.Frag) (Pt : Addr) : Sp := fun vs H Q _ => ∃ (v vg : V) (la : Addr) (b : TL.Book) (avs : List V) (oks : List Bool) (x : Str), vs = [v, .ref la, vg] ∧ BookAt K b v H ∧ BookOk2 b ∧ SqL K H la avs ∧ avs.length < 1000 ∧ Paired (fun v ok => ValOk K b v H ok) avs oks ∧
  Plain K H vg ∧ Tabs (tabsOf Pt) H ∧ ((x = "action" ∧ (oks.all id = false ∨ oks.all id = true ∧ avs = [])) ∨ (x = "moment" ∧ oks.all id = true ∧ avs ≠ [] ∧ isNum vg 1 1000000000 = false)) ∧ ∀ H', Ex H H' → Q (.str x) H'
structure ExmD (K : PySem.W.Frag) (cA cM : Addr) : Prop where
  aa : PySem.W.exmOne K (.ref cA) (.ref cA) = some true
  ma : PySem.W.exmOne K (.ref cM) (.ref cA) = some false
  mm : PySem.W.exmOne K (.ref cM) (.ref cM) = some true
theorem c_refused {cS Pt cA cM : Addr} (Y : Ty K mg cS cA cM) (TB : TabB base mg cS Pt) (M : ExmD K cA cM) (D : DefB K mg "_law_refused" (top 57) ["_law_book", "_law_actions_here", "_law_gap"]) : Cal P w K mg base 8 "_law_refused" (spRefused P w K Pt) [] := by
  obtain ⟨fE, fdE, psE, FE, gE, kE, bE⟩ := (c_every (P := P) (w := w) (base := base) Y TB).ex
  refine calT D sc_refused (fun vs H Q E h => ?_) (fun f cdv A outer s H vs Q E hr h => ?_)
  · obtain ⟨v, vg, la, b, avs, oks, x, rfl, _⟩ := h
    rfl
  · obtain ⟨v, vg, la, b, avs, oks, x, rfl, hBB, hok, hL, hlen, hP, hG, hTab, hm, k⟩ := h
    have nd := sc_refused.nd
    refine ⟨_, pss_cons (ps_set (i := 3) nd rfl (.inl rfl) pe_non)
      (pss_cons (L2.ps_try_many rfl rfl (L2.takes0) (fun W pn xe tk _ => pss_one (ps_expr (L2.pe_callS FE hr rfl gE kE bE (fun σ => L2.passAt tk σ) (pa_cons (pv 0) (pa_cons (pv 1) (pa_cons (pv 2) (pa_cons pe_int pa_nil)))))))
        (L2.HdsOk.cons (c := .ref cA) ⟨rfl, by decide, .inl Y.A.gC⟩ (fun a oe cls d pn _ _ => pss_one (ps_set (i := 3) nd rfl (.inl rfl) pe_str)) (L2.HdsOk.cons (c := .ref cM) ⟨rfl, by decide, .inl Y.M.gC⟩ (fun a oe cls d pn _ _ => pss_one (ps_set (i := 3) nd rfl (.inl rfl) pe_str)) .nil)))
      (pss_one (ps_ret (pv 3)))), ?_⟩
    have hs : L2.start nRefused [v, .ref la, vg] = [some v, some (.ref la), some vg, none] := rfl
    rw [hs]
    refine q_asg ev_c fun H1 e1 => ?_
    refine ⟨v, rfl, _, rfl, vg, rfl, v, vg, la, b, 5, avs, oks, rfl, bookAt_st _ _ _ e1 hBB, hok, ex_l e1 hL, hlen, Paired.mapP hP fun v ok q => valOk_T _ _ _ (exT e1) q, hG.ex e1, hTab.ext e1, ?_⟩
    rcases hm with ⟨rfl, hm | ⟨hm1, hm2⟩⟩ | ⟨rfl, hm1, hm2, hm3⟩
    · exact .badAct hm fun H2 e2 => ⟨true, M.aa, fun _ a ha => s_ret (ev_var rfl) fun H3 e3 => k H3 ((e1.trans e2).trans e3), fun q => Bool.noConfusion q⟩
    · exact .noAct hm1 hm2 fun H2 e2 => ⟨true, M.aa, fun _ a ha => s_ret (ev_var rfl) fun H3 e3 => k H3 ((e1.trans e2).trans e3), fun q => Bool.noConfusion q⟩
    · exact .badMom hm1 hm2 hm3 fun H2 e2 => ⟨false, M.ma, fun q => Bool.noConfusion q, fun _ => ⟨true, M.mm, fun _ a ha => s_ret (ev_var rfl) fun H3 e3 => k H3 ((e1.trans e2).trans e3), fun q => Bool.noConfusion q⟩⟩
end
end TL
/-! Trylocks, walk Lh: rows. -/
namespace TL
open PySem PySem.Spec PyProof.Rows L2 Evl C8 RZ LamX NdefX
section
variable {P : Program} {w : World} {K : PySem.W.Frag} {mg : Str → Option Value} {base : Heap}
theorem sc_rows : FnScope ["_law_counts", "_law_word"] ["_law_counts"] (fnScope (top 58)) := fnScope_by (by decide +kernel)
/-- the pairs of a count, one behind the other -/
def RowsOf (c : Cnt) (ws : List V) (H : Hp) : Prop := ws.length = 5 ∧ ∀ (i : Nat) (t : Told), tolds[i]? = some t → ∃ q, ws[i]? = some (.ref q) ∧ H q = some (.tup [.str (wordOf t), .int (c t)])
def spRows : Sp := fun vs H Q _ => ∃ (v : V) (c : Cnt), vs = [v] ∧ CntAt c v H ∧ ∀ p ws H', Ex H H' → H p = none → H' p = some (.lst ws) → RowsOf c ws H' → Q (.ref p) H'
theorem eri_keys {σ : L2.St} {H : Hp} {i : Nat} {d : Addr} {od : Obj} {kvs : List (L2.Key × V)} (hi : σ[i]? = some (some (.ref d))) (hd : H d = some (.frz od (.dK kvs))) : ErI (iKeys (tVar i)) σ H kvs.length (fun i H x H' => H' = H ∧ ∃ k v, kvs[i]? = some (k, v) ∧ x = kV k) := fun H1 e Rk k =>
  ⟨_, hi, d, od, rfl, .inl ⟨kvs, e _ _ hd, k _ H1 (Ex.refl H1) (walk_keys.mono (fun H3 e3 => e3 _ _ (e _ _ hd)) fun _ _ _ _ _ _ y => y)⟩⟩
theorem c_rows (T : Tx K mg) (D : DefB K mg "_law_rows" (top 58) ["_law_counts"]) : Cal P w K mg base 1 "_law_rows" spRows [] := by
  refine calT D sc_rows (fun vs H Q E h => ?_) (fun f cdv A outer s H vs Q E hr h => ?_)
  · obtain ⟨v, c, rfl, _⟩ := h
    rfl
  · obtain ⟨v, c, rfl, hC, k⟩ := h
    obtain ⟨d, rfl, hd⟩ := hC
    have nd := sc_rows.nd
    refine ⟨_, pss_one (ps_ret (pe_lock (pe_lc (own := [("_law_word", 1)]) (g := gName 1) (tt := tYes) (wi := iKeys (tVar 0)) rfl nd (pi_keys (pv 0))
      (blkOk_by (N := ["_law_counts", "_law_word"]) (sc := fnScope (top 58)) (by decide +kernel)) (fun _ _ _ _ _ => pg_name (i := 1) nd rfl (Or.inl rfl)) (fun _ _ _ _ _ => pts_nil) (fun _ _ _ _ _ => pe_tup (pa_cons (pv 1) (pa_cons (pe_dget (hu_of hr) (pv 0) (pv 1) (fun _ _ => rfl)) pa_nil)))))), ?_⟩
    have hs : L2.start ["_law_counts", "_law_word"] [.ref d] = [some (.ref d), none] := rfl
    rw [hs]
    refine ⟨d, .dK (cntKvs c), hd, True.intro, fun od => ?_⟩
    have hf : (upd H d (.frz od (.dK (cntKvs c)))) d = some (.frz od (.dK (cntKvs c))) := upd_same
    have hlc := er_lc (te := tTup (tCons (tVar 1) (tCons (tDGet (tVar 0) (tVar 1)) tNil))) (σ := [some (.ref d), none]) (g := gName 1) (tt := tYes) (vs := [1]) (n := 5) (S := fun i v H' => ∀ t, tolds[i]? = some t → ∃ q, v = .ref q ∧ H' q = some (.tup [.str (wordOf t), .int (c t)]))
      (eri_keys (σ := [some (.ref d), none]) (i := 0) rfl hf) yes_ok (fun i v H1 H2 e h t ht => let ⟨q, h1, h2⟩ := h t ht; ⟨q, h1, e _ _ h2 rfl⟩) (by decide) (by
        rintro i x H2 H3 C hi e ⟨rfl, kk, vv, hkv, rfl⟩ kC
        refine kC _ rfl (Ex.refl _) ?_
        have hkv' : (tolds.map fun t => ((Sum.inr (wordOf t), V.int (c t)) : L2.Key × V))[i]? = some (kk, vv) := hkv
        rw [List.getElem?_map] at hkv'
        cases ht : tolds[i]? with
        | none => rw [ht] at hkv'; cases hkv'
        | some t =>
          rw [ht] at hkv'
          cases hkv'
          have hg : Ev (tDGet (tVar 0) (tVar 1)) [some (.ref d), some (kV (Sum.inr (wordOf t)))] H3 (.int (c t)) := fun H4 e4 Q q => ⟨_, rfl, _, rfl, d, _, rfl, .inl ⟨cntKvs c, Sum.inr (wordOf t), .inr ⟨od, e4 _ _ (e _ _ hf)⟩, rfl, (cnt_get c t).symm⟩, q H4 (Ex.refl H4)⟩
          exact fun H4 e4 Q q => eu_tup (ea_cons (ev_var rfl) (ea_cons hg ea_nil)) (by show 2 ≤ 100000; decide) H4 e4 Q fun p H5 _ e5 hp => q _ H5 e5 fun t' ht' => by
            cases ht'
            exact ⟨p, rfl, hp⟩)
    refine hlc _ (Ex.refl _) _ fun p ws H2 hp e2 hw ⟨h1, h2⟩ => ?_
    have hd2 := e2 _ _ hf
    have hpd : p ≠ d := fun z => by rw [z, hf] at hp; cases hp
    refine ⟨hd2, k p ws _ (fun a o ho => ?_) ?_ ?_ ⟨h1, fun i t ht => ?_⟩⟩
    · by_cases z : a = d
      · subst z
        rw [hd] at ho
        cases ho
        exact upd_same
      · rw [upd_ne z]
        exact e2 _ _ (by rw [upd_ne z]; exact ho)
    · have q := hp
      rw [upd_ne hpd] at q
      exact q
    · rw [upd_ne hpd]
      exact hw
    · have hi : i < 5 := (List.getElem?_eq_some_iff.mp ht).1
      obtain ⟨u, g1, g2⟩ := h2 i hi
      obtain ⟨q, rfl, hq⟩ := g2 t ht
      exact ⟨q, g1, by rw [upd_ne (ne_of hq hd2 fun z => by cases z)]; exact hq⟩
end
end TL
/-! Trylocks, plain: the law's cells and the program's parts. -/
namespace TL
/-- a cell told as a part, at moment t -/
def norm (r : Rule) (c : Cell) (t : Int) : Part :=
  ⟨(freshC r c t).c0, if (freshC r c t).c0 > 0 ∧ r.fade > 0 then t - c.c1 else 0, max0 (c.c2 - t + 1), if c.c2 - t + 1 > 0 then c.c3 else 0, if r.grows then min2 c.c4 else 0⟩
/-- cells as they come -/
structure CellOk (c : Cell) : Prop where
  c0 : 0 ≤ c.c0
  c3 : 0 ≤ c.c3
  c4 : 0 ≤ c.c4
theorem part_ext {x y : Part} (h1 : x.count = y.count) (h2 : x.age = y.age) (h3 : x.left = y.left) (h4 : x.whole = y.whole) (h5 : x.streak = y.streak) : x = y := by
  cases x; cases y
  dsimp only at h1 h2 h3 h4 h5
  rw [h1, h2, h3, h4, h5]
theorem max0_eq (i : Int) : max0 i = if 0 > i then 0 else i := rfl
theorem passed_left (r : Rule) (x : Part) (n : Int) : (passed r x n).left = max0 (x.left - n) := by
  unfold passed
  dsimp only
  split
  · split <;> rfl
  · rfl
theorem passed_whole (r : Rule) (x : Part) (n : Int) : (passed r x n).whole = if max0 (x.left - n) ≠ 0 then x.whole else 0 := by
  unfold passed
  dsimp only
  split
  · split <;> rfl
  · rfl
theorem passed_str (r : Rule) (x : Part) (n : Int) : (passed r x n).streak = x.streak := by
  unfold passed
  dsimp only
  split
  · split <;> rfl
  · rfl
theorem passed_count (r : Rule) (x : Part) (n : Int) : (passed r x n).count = if r.fade ≠ 0 ∧ x.count ≠ 0 ∧ r.fade ≤ x.age + n then 0 else x.count := by
  unfold passed
  dsimp only
  by_cases h : r.fade ≠ 0 ∧ x.count ≠ 0
  · rw [if_pos h]
    by_cases h2 : r.fade ≤ x.age + n
    · rw [if_pos h2, if_pos (show r.fade ≠ 0 ∧ x.count ≠ 0 ∧ r.fade ≤ x.age + n from ⟨h.1, h.2, h2⟩)]
    · rw [if_neg h2, if_neg (show ¬ (r.fade ≠ 0 ∧ x.count ≠ 0 ∧ r.fade ≤ x.age + n) from fun z => h2 z.2.2)]
  · rw [if_neg h, if_neg (show ¬ (r.fade ≠ 0 ∧ x.count ≠ 0 ∧ r.fade ≤ x.age + n) from fun z => h ⟨z.1, z.2.1⟩)]
theorem passed_age (r : Rule) (x : Part) (n : Int) : (passed r x n).age = if r.fade ≠ 0 ∧ x.count ≠ 0 then (if r.fade ≤ x.age + n then 0 else x.age + n) else x.age := by
  unfold passed
  dsimp only
  by_cases h : r.fade ≠ 0 ∧ x.count ≠ 0
  · rw [if_pos h, if_pos h]
    by_cases h2 : r.fade ≤ x.age + n
    · rw [if_pos h2, if_pos h2]
    · rw [if_neg h2, if_neg h2]
  · rw [if_neg h, if_neg h]
theorem left_add (c2 t n : Int) (hn : 0 ≤ n) : max0 (max0 (c2 - t + 1) - n) = max0 (c2 - (t + n) + 1) := by
  unfold max0
  split <;> split <;> split <;> omega
theorem whole_add (c2 c3 t n : Int) (hn : 0 ≤ n) : (if max0 (max0 (c2 - t + 1) - n) ≠ 0 then (if c2 - t + 1 > 0 then c3 else 0) else 0) = if c2 - (t + n) + 1 > 0 then c3 else 0 := by
  rw [left_add c2 t n hn]
  by_cases h : c2 - (t + n) + 1 > 0
  · rw [if_pos h, if_pos (show max0 (c2 - (t + n) + 1) ≠ 0 by unfold max0; split <;> omega), if_pos (by omega)]
  · rw [if_neg h, if_neg (show ¬ max0 (c2 - (t + n) + 1) ≠ 0 from fun z => z (by unfold max0; split <;> omega))]
/-- count and age, told apart -/
theorem norm_count (r : Rule) (c : Cell) (t : Int) : (norm r c t).count = if c.c0 > 0 ∧ r.fade > 0 ∧ c.c1 + r.fade ≤ t then 0 else c.c0 := by
  show (freshC r c t).c0 = _
  unfold freshC
  split <;> rfl
theorem norm_age (r : Rule) (c : Cell) (t : Int) : (norm r c t).age = if (c.c0 > 0 ∧ r.fade > 0) ∧ ¬ c.c1 + r.fade ≤ t then t - c.c1 else 0 := by
  show (if (freshC r c t).c0 > 0 ∧ r.fade > 0 then t - c.c1 else 0) = _
  unfold freshC
  by_cases h : c.c0 > 0 ∧ r.fade > 0 ∧ c.c1 + r.fade ≤ t
  · rw [if_pos h, if_neg (show ¬ ((0 : Int) > 0 ∧ r.fade > 0) from fun z => absurd z.1 (by omega)), if_neg fun z => z.2 h.2.2]
  · rw [if_neg h]
    by_cases h2 : c.c0 > 0 ∧ r.fade > 0
    · rw [if_pos h2, if_pos ⟨h2, fun z => h ⟨h2.1, h2.2, z⟩⟩]
    · rw [if_neg h2, if_neg fun z => h2 z.1]
theorem passed_norm {r : Rule} {c : Cell} {t n : Int} (h0 : 0 ≤ c.c0) (hf : 0 ≤ r.fade) (hn : 0 ≤ n) : passed r (norm r c t) n = norm r c (t + n) := by
  refine part_ext ?_ ?_ ?_ ?_ ?_
  · rw [passed_count, norm_count, norm_count, norm_age]
    split <;> split <;> (try split) <;> (try split) <;> (try split) <;> (try rfl) <;> (exfalso; omega)
  · rw [passed_age, norm_age, norm_age, norm_count]
    split <;> (try split) <;> (try split) <;> (try split) <;> (try split) <;> (try rfl) <;> omega
  · rw [passed_left]
    exact left_add _ _ _ hn
  · rw [passed_whole]
    exact whole_add _ _ _ _ hn
  · rw [passed_str]
    rfl
theorem norm_left (r : Rule) (c : Cell) (t : Int) : (norm r c t).left = max0 (c.c2 - t + 1) := rfl
theorem norm_whole (r : Rule) (c : Cell) (t : Int) : (norm r c t).whole = if c.c2 - t + 1 > 0 then c.c3 else 0 := rfl
theorem norm_streak (r : Rule) (c : Cell) (t : Int) : (norm r c t).streak = if r.grows then min2 c.c4 else 0 := rfl
theorem fresh_c1 (r : Rule) (c : Cell) (t : Int) : (freshC r c t).c2 = c.c2 ∧ (freshC r c t).c3 = c.c3 ∧ (freshC r c t).c4 = c.c4 := by
  unfold freshC
  split <;> exact ⟨rfl, rfl, rfl⟩
theorem fresh_ok {r : Rule} {c : Cell} (t : Int) (h : CellOk c) : CellOk (freshC r c t) := by
  obtain ⟨_, h2, h3⟩ := fresh_c1 r c t
  refine ⟨?_, by rw [h2]; exact h.c3, by rw [h3]; exact h.c4⟩
  unfold freshC
  split
  · exact Int.le_refl 0
  · exact h.c0
/-- a fresh cell is told alike from then on -/
theorem norm_fresh {r : Rule} {c : Cell} {t t' : Int} (h : t ≤ t') : norm r (freshC r c t) t' = norm r c t' := by
  unfold freshC
  by_cases z : c.c0 > 0 ∧ r.fade > 0 ∧ c.c1 + r.fade ≤ t
  · rw [if_pos z]
    refine part_ext ?_ ?_ rfl rfl rfl
    · rw [norm_count, norm_count, if_neg (show ¬ ((0 : Int) > 0 ∧ r.fade > 0 ∧ (0 : Int) + r.fade ≤ t') from fun q => absurd q.1 (by omega)), if_pos ⟨z.1, z.2.1, by omega⟩]
    · rw [norm_age, norm_age, if_neg (show ¬ (((0 : Int) > 0 ∧ r.fade > 0) ∧ ¬ (0 : Int) + r.fade ≤ t') from fun q => absurd q.1.1 (by omega)), if_neg (show ¬ ((c.c0 > 0 ∧ r.fade > 0) ∧ ¬ c.c1 + r.fade ≤ t') from fun q => q.2 (by omega))]
  · rw [if_neg z]
theorem norm_zero (r : Rule) {t : Int} (h : 0 ≤ t) : norm r zeroC t = newPart := by
  refine part_ext ?_ ?_ ?_ ?_ ?_
  · rw [norm_count]; exact if_neg fun q => absurd q.1 (by show ¬ (0 : Int) > 0; omega)
  · rw [norm_age]; exact if_neg fun q => absurd q.1.1 (by show ¬ (0 : Int) > 0; omega)
  · rw [norm_left]; show max0 (-1 - t + 1) = 0; unfold max0; split <;> omega
  · rw [norm_whole]; exact if_neg (by show ¬ -1 - t + 1 > 0; omega)
  · rw [norm_streak]; split <;> rfl
/-- a wrong try that is counted, no lock holding -/
theorem begun_norm {r : Rule} {c : Cell} {t : Int} (hr : RuleOk r) (hc : CellOk c) (hl : c.c2 < t) : begun r (norm r c t) = norm r (countedC r (freshC r c t) t) (t + 1) := by
  have hf := hr.2.2.2.1
  have hlk := hr.2.2.1.1
  obtain ⟨f2, f3, f4⟩ := fresh_c1 r c t
  have f0 := (fresh_ok (r := r) t hc).c0
  have hcnt : (norm r c t).count = (freshC r c t).c0 := rfl
  unfold begun countedC
  rw [hcnt]
  generalize freshC r c t = fc at f0 f2 f3 f4
  by_cases z : fc.c0 + 1 < r.most
  · rw [if_pos z, if_pos z]
    refine part_ext ?_ ?_ ?_ ?_ ?_
    · rw [passed_count, norm_count]
      dsimp only
      split <;> split <;> (try rfl) <;> (exfalso; omega)
    · rw [passed_age, norm_age]
      dsimp only
      split <;> (try split) <;> (try split) <;> (try split) <;> (try rfl) <;> omega
    · rw [passed_left, norm_left]
      dsimp only
      rw [f2]
      unfold max0
      split <;> split <;> omega
    · rw [passed_whole, norm_whole]
      dsimp only
      rw [f2, if_neg (show ¬ c.c2 - (t + 1) + 1 > 0 by omega)]
      split <;> rfl
    · rw [passed_str, norm_streak, norm_streak]
      dsimp only
      rw [f4]
  · rw [if_neg z, if_neg z]
    have hfac : (if r.grows = true then factor (norm r c t).streak else 1) = if r.grows = true then factL fc.c4 else 1 := by
      by_cases g : r.grows = true
      · rw [if_pos g, if_pos g, norm_streak, if_pos g, f4]
        unfold factor factL min2
        have := hc.c4
        split <;> split <;> (try split) <;> (try split) <;> (try rfl) <;> omega
      · rw [if_neg g, if_neg g]
    have hpos : 0 < (if r.grows = true then factL fc.c4 else 1) := by
      split
      · unfold factL
        split
        · omega
        · split <;> omega
      · omega
    dsimp only
    rw [hfac]
    generalize (if r.grows = true then factL fc.c4 else 1) = m at hpos
    have hs : 0 < r.lock * m := Int.mul_pos (by omega) hpos
    refine part_ext ?_ ?_ ?_ ?_ ?_
    · rw [norm_count]; exact (if_neg (show ¬ ((0 : Int) > 0 ∧ _) from fun q => absurd q.1 (by omega))).symm
    · rw [norm_age]; exact (if_neg (show ¬ (((0 : Int) > 0 ∧ _) ∧ _) from fun q => absurd q.1.1 (by omega))).symm
    · rw [norm_left]
      dsimp only
      unfold max0
      split <;> omega
    · rw [norm_whole]
      dsimp only
      rw [if_pos (by omega)]
    · rw [norm_streak, norm_streak]
      dsimp only
      by_cases g : r.grows = true
      · rw [if_pos g, if_pos g, if_pos g, f4]
        unfold min2
        split <;> split <;> (try split) <;> omega
      · rw [if_neg g, if_neg g]
/-- a try that is kept -/
theorem kept_norm {r : Rule} {c : Cell} {t : Int} (hr : RuleOk r) (hc : CellOk c) : keptPart r (norm r c t) = norm r (if t ≤ c.c2 ∧ r.strict = true then ⟨(freshC r c t).c0, (freshC r c t).c1, t + c.c3, c.c3, c.c4⟩ else freshC r c t) (t + 1) := by
  have hf := hr.2.2.2.1
  have hp := passed_norm (r := r) (c := c) (t := t) (n := 1) hc.c0 hf (by decide)
  unfold keptPart
  by_cases z : t ≤ c.c2 ∧ r.strict = true
  · have zl : (norm r c t).left > 0 := by rw [norm_left]; unfold max0; split <;> omega
    rw [if_pos ⟨z.2, zl⟩, if_pos z]
    dsimp only
    rw [hp]
    have hn := norm_fresh (r := r) (c := c) (t := t) (t' := t + 1) (by omega)
    have hw : (norm r c t).whole = c.c3 := by rw [norm_whole, if_pos (by omega)]
    refine part_ext ?_ ?_ ?_ ?_ ?_
    · rw [← hn, norm_count, norm_count]
    · rw [← hn, norm_age, norm_age]
    · rw [hw, norm_left]
      dsimp only
      unfold max0
      have := hc.c3
      split <;> omega
    · rw [hw, norm_whole]
      dsimp only
      have := hc.c3
      split <;> omega
    · rfl
  · rw [if_neg z]
    have zl : ¬ (r.strict = true ∧ (norm r c t).left > 0) := fun q => z ⟨by
      have q2 := q.2
      rw [norm_left] at q2
      unfold max0 at q2
      split at q2 <;> omega, q.1⟩
    rw [if_neg zl, hp, norm_fresh (by omega)]
theorem let_norm {r : Rule} {c : Cell} {t : Int} (hr : RuleOk r) (hc : CellOk c) (ht : 0 ≤ t) : letPart r (norm r c t) = norm r (if r.clears then zeroC else freshC r c t) (t + 1) := by
  unfold letPart
  by_cases z : r.clears = true
  · rw [if_pos z, if_pos z, norm_zero r (by omega)]
  · rw [if_neg z, if_neg z, passed_norm hc.c0 hr.2.2.2.1 (by decide), norm_fresh (by omega)]
end TL
/-! Trylocks, plain: the law's state and the program's standing. -/
namespace TL
def rowN (b : Book) (L : LSt) (t : Int) (r : Rule) (k : Nat) : List Part := (keysOf b r).map fun y => norm r (getC L k y) t
def normF (b : Book) (L : LSt) (t : Int) : Nat → List Rule → Stand
  | _, [] => []
  | k, r :: rs => rowN b L t r k :: normF b L t (k + 1) rs
/-- the standing that the law's state means ahead of moment t -/
def normS (b : Book) (L : LSt) (t : Int) : Stand := normF b L t 0 b.rules
def CellsOk (L : LSt) : Prop := ∀ e ∈ L, CellOk e.2
theorem zero_ok : CellOk zeroC := ⟨Int.le_refl 0, Int.le_refl 0, Int.le_refl 0⟩
theorem getC_ok {L : LSt} (h : CellsOk L) (k : Nat) (y : Key) : CellOk (getC L k y) := by
  unfold getC
  cases hf : L.find? fun e => decide (e.1 = (k, y)) with
  | none => exact zero_ok
  | some e => exact h e (List.mem_of_find?_eq_some hf)
theorem getC_cons (e : (Nat × Key) × Cell) (L : LSt) (k : Nat) (y : Key) : getC (e :: L) k y = if e.1 = (k, y) then e.2 else getC L k y := by
  unfold getC
  rw [List.find?_cons]
  by_cases h : e.1 = (k, y)
  · rw [if_pos h, decide_eq_true h]; rfl
  · rw [if_neg h, decide_eq_false h]
theorem getC_map (L : LSt) (k : Nat) (y : Key) (c : Cell) (k' : Nat) (y' : Key) : getC (L.map fun e => if e.1 = (k, y) then (e.1, c) else e) k' y' = if (k', y') = (k, y) ∧ (L.find? fun e => decide (e.1 = (k, y))).isSome = true then c else getC L k' y' := by
  induction L with
  | nil => rw [if_neg fun h => by cases h.2]; rfl
  | cons e L ih =>
    rw [List.map_cons, getC_cons, getC_cons, ih, List.find?_cons]
    by_cases h1 : e.1 = (k, y)
    · rw [if_pos h1, decide_eq_true h1]
      dsimp only
      by_cases h2 : (k', y') = (k, y)
      · rw [if_pos (show e.1 = (k', y') by rw [h1, h2]), if_pos ⟨h2, rfl⟩]
      · rw [if_neg (show ¬ e.1 = (k', y') from fun z => h2 (by rw [← z, h1])), if_neg (fun z => h2 z.1), if_neg (fun z => h2 z.1), if_neg (show ¬ e.1 = (k', y') from fun z => h2 (by rw [← z, h1]))]
    · rw [if_neg h1, decide_eq_false h1]
      by_cases h2 : (k', y') = (k, y)
      · rw [if_neg (show ¬ e.1 = (k', y') from fun z => h1 (by rw [z, h2])), if_neg (show ¬ e.1 = (k', y') from fun z => h1 (by rw [z, h2]))]
      · rw [if_neg (show ¬ ((k', y') = (k, y) ∧ (L.find? fun e => decide (e.1 = (k, y))).isSome = true) from fun z => h2 z.1)]
        exact (if_neg fun z => h2 z.1).symm
theorem getC_append (L : LSt) (e : (Nat × Key) × Cell) (h : (L.find? fun x => decide (x.1 = e.1)) = none) (k : Nat) (y : Key) : getC (L ++ [e]) k y = if e.1 = (k, y) then e.2 else getC L k y := by
  induction L with
  | nil => rw [List.nil_append, getC_cons]
  | cons x L ih =>
    rw [List.find?_cons] at h
    by_cases hx : x.1 = e.1
    · rw [decide_eq_true hx] at h; cases h
    · rw [decide_eq_false hx] at h
      rw [List.cons_append, getC_cons, getC_cons, ih h]
      by_cases h1 : x.1 = (k, y)
      · rw [if_pos h1, if_pos h1, if_neg fun z => hx (by rw [h1, z])]
      · rw [if_neg h1, if_neg h1]
theorem getC_setC (L : LSt) (k : Nat) (y : Key) (c : Cell) (k' : Nat) (y' : Key) : getC (setC L k y c) k' y' = if (k', y') = (k, y) then c else getC L k' y' := by
  unfold setC
  split
  · rename_i h
    rw [getC_map]
    by_cases h2 : (k', y') = (k, y)
    · rw [if_pos ⟨h2, h⟩, if_pos h2]
    · rw [if_neg (fun z => h2 z.1), if_neg h2]
  · rename_i h
    rw [getC_append _ _ (Option.not_isSome_iff_eq_none.mp h)]
    by_cases h2 : (k', y') = (k, y)
    · rw [if_pos h2.symm, if_pos h2]
    · rw [if_neg (fun z => h2 z.symm), if_neg h2]
/-! ### idle -/
theorem normF_ext {b : Book} {L L' : LSt} {t t' : Int} : ∀ {k : Nat} {rs : List Rule}, (∀ (i : Nat) (r : Rule), rs[i]? = some r → rowN b L t r (k + i) = rowN b L' t' r (k + i)) → normF b L t k rs = normF b L' t' k rs
  | _, [], _ => rfl
  | k, r :: rs, h => by
    have h0 := h 0 r rfl
    rw [Nat.add_zero] at h0
    unfold normF
    have ih := normF_ext (b := b) (L := L) (L' := L') (t := t) (t' := t') (k := k + 1) (rs := rs) fun i r' hr => by
      have q := h (i + 1) r' hr
      rw [show k + (i + 1) = k + 1 + i by omega] at q
      exact q
    rw [h0, ih]
theorem zip_normF {b : Book} {L : LSt} {t : Int} (F : Rule × List Part → List Part) {L' : LSt} {t' : Int} : ∀ {k : Nat} {rs : List Rule}, (∀ (i : Nat) (r : Rule), rs[i]? = some r → F (r, rowN b L t r (k + i)) = rowN b L' t' r (k + i)) → (rs.zip (normF b L t k rs)).map F = normF b L' t' k rs
  | _, [], _ => rfl
  | k, r :: rs, h => by
    have h0 := h 0 r rfl
    rw [Nat.add_zero] at h0
    unfold normF
    have ih := zip_normF (b := b) (L := L) (L' := L') (t := t) (t' := t') F (k := k + 1) (rs := rs) fun i r' hr => by
      have q := h (i + 1) r' hr
      rw [show k + (i + 1) = k + 1 + i by omega] at q
      exact q
    rw [List.zip_cons_cons, List.map_cons, h0, ih]
theorem idle_norm {b : Book} {L : LSt} {t n : Int} (hr : ∀ r ∈ b.rules, RuleOk r) (hc : CellsOk L) (hn : 0 ≤ n) : idle b (normS b L t) n = normS b L (t + n) := by
  unfold idle normS
  refine zip_normF (fun q => q.2.map fun x => passed q.1 x n) fun i r hi => ?_
  unfold rowN
  rw [List.map_map]
  refine List.map_congr_left fun y _ => ?_
  exact passed_norm (getC_ok hc _ _).c0 (hr r (List.mem_of_getElem? hi)).2.2.2.1 hn
theorem zip_self {α β : Type} (g : α → β) : ∀ l : List α, l.zip (l.map g) = l.map fun y => (y, g y)
  | [] => rfl
  | y :: l => by rw [List.map_cons, List.zip_cons_cons, List.map_cons, zip_self g l]
theorem changed_norm {b : Book} {L L' : LSt} {t t' : Int} {touched : Rule → Key → Bool} {change : Rule → Part → Part} (h : ∀ (i : Nat) (r : Rule) (y : Key), b.rules[i]? = some r → y ∈ keysOf b r → (if touched r y then change r (norm r (getC L i y) t) else passed r (norm r (getC L i y) t) 1) = norm r (getC L' i y) t') : changed b (normS b L t) touched change = normS b L' t' := by
  unfold changed normS
  refine zip_normF (fun q => ((keysOf b q.1).zip q.2).map fun z => if touched q.1 z.1 then change q.1 z.2 else passed q.1 z.2 1) fun i r hi => ?_
  unfold rowN
  dsimp only
  rw [zip_self, List.map_map]
  refine List.map_congr_left fun y hy => ?_
  have q := h i r y hi hy
  rw [← show 0 + i = i by omega] at q
  exact q
end TL
/-! Trylocks, plain: one action, both ways. -/
namespace TL
theorem tryL_some {rs : List Rule} {held : List Nat} {t a p : Int} {right : Bool} {L : LSt} {k : Nat} {r : Rule} (h : rs[k]? = some r) : tryL rs held t a p right L k = setC L k (keyFor r a p) (cellDo r held right k (freshC r (getC L k (keyFor r a p)) t) t) := by
  unfold tryL
  rw [h]
/-- what a try leaves in the cells: each rule's own key alone -/
theorem getC_fold {rs : List Rule} {held : List Nat} {t a p : Int} {right : Bool} {L : LSt} (k' : Nat) (y' : Key) : ∀ n, n ≤ rs.length → getC ((List.range n).foldl (tryL rs held t a p right) L) k' y' = match rs[k']? with
    | some r => if k' < n ∧ y' = keyFor r a p then cellDo r held right k' (freshC r (getC L k' y') t) t else getC L k' y'
    | none => getC L k' y'
  | 0, _ => by
    cases rs[k']? with
    | none => rfl
    | some r => exact (if_neg fun z => absurd z.1 (Nat.not_lt_zero _)).symm
  | n + 1, hn => by
    have ih := fun k' y' => getC_fold (rs := rs) (held := held) (t := t) (a := a) (p := p) (right := right) (L := L) k' y' n (Nat.le_of_succ_le hn)
    rw [List.range_succ, List.foldl_append]
    show getC (tryL rs held t a p right _ n) k' y' = _
    have hnr : rs[n]? = some rs[n] := List.getElem?_eq_getElem (Nat.lt_of_succ_le hn)
    rw [tryL_some hnr, getC_setC, ih n (keyFor rs[n] a p), hnr]
    dsimp only
    rw [if_neg (show ¬ (n < n ∧ _) from fun z => absurd z.1 (Nat.lt_irrefl _))]
    by_cases h : (k', y') = (n, keyFor rs[n] a p)
    · rw [if_pos h]
      have h1 : k' = n := congrArg Prod.fst h
      have h2 : y' = keyFor rs[n] a p := congrArg Prod.snd h
      subst h1
      rw [hnr]
      dsimp only
      rw [if_pos ⟨Nat.lt_succ_self _, h2⟩, h2]
    · rw [if_neg h, ih k' y']
      cases hk : rs[k']? with
      | none => rfl
      | some r =>
        dsimp only
        by_cases z : k' < n ∧ y' = keyFor r a p
        · rw [if_pos z, if_pos ⟨Nat.lt_succ_of_lt z.1, z.2⟩]
        · rw [if_neg z, if_neg fun q => z ⟨?_, q.2⟩]
          refine Nat.lt_of_le_of_ne (Nat.le_of_lt_succ q.1) fun e => h ?_
          subst e
          rw [hnr] at hk
          cases hk
          rw [q.2]
/-- the account and the place are the book's -/
def InBook (b : Book) (a p : Int) : Prop := (0 ≤ a ∧ a < b.accs) ∧ 0 ≤ p ∧ p < b.plcs
theorem keyFor_in {b : Book} {r : Rule} {a p : Int} (h : InBook b a p) (hr : r.key ≤ 2) : keyFor r a p ∈ keysOf b r := by
  obtain ⟨⟨ha, ha2⟩, hp, hp2⟩ := h
  have ea : a = ((a.toNat : Nat) : Int) := by omega
  have ep : p = ((p.toNat : Nat) : Int) := by omega
  unfold keyFor keysOf
  by_cases h0 : r.key = 0
  · rw [if_pos h0, if_pos h0]
    exact List.mem_map.mpr ⟨a.toNat, List.mem_range.mpr (by omega), by rw [← ea]⟩
  · rw [if_neg h0, if_neg h0]
    by_cases h1 : r.key = 1
    · rw [if_pos h1, if_pos h1]
      exact List.mem_map.mpr ⟨p.toNat, List.mem_range.mpr (by omega), by rw [← ep]⟩
    · rw [if_neg h1, if_neg h1]
      unfold pairsOf
      exact List.mem_flatMap.mpr ⟨a.toNat, List.mem_range.mpr (by omega), List.mem_map.mpr ⟨p.toNat, List.mem_range.mpr (by omega), by rw [← ea, ← ep]⟩⟩
theorem isAt_iff {b : Book} {r : Rule} {a p : Int} {y : Key} (hy : y ∈ keysOf b r) : isAt y a p = decide (y = keyFor r a p) := by
  unfold keysOf at hy
  unfold keyFor
  by_cases h0 : r.key = 0
  · rw [if_pos h0] at hy ⊢
    obtain ⟨i, _, rfl⟩ := List.mem_map.mp hy
    unfold isAt inO
    rw [Bool.eq_iff_iff]
    simp
  · rw [if_neg h0] at hy ⊢
    by_cases h1 : r.key = 1
    · rw [if_pos h1] at hy ⊢
      obtain ⟨i, _, rfl⟩ := List.mem_map.mp hy
      unfold isAt inO
      rw [Bool.eq_iff_iff]
      simp
    · rw [if_neg h1] at hy ⊢
      unfold pairsOf at hy
      obtain ⟨i, _, hy⟩ := List.mem_flatMap.mp hy
      obtain ⟨j, _, rfl⟩ := List.mem_map.mp hy
      unfold isAt inO
      rw [Bool.eq_iff_iff]
      simp
end TL
/-! Trylocks, plain: locks, and a step. -/
namespace TL
theorem any_normF {b : Book} {L : LSt} {t : Int} (G : Rule × List Part → List Int) (f : Int → Bool) : ∀ {k : Nat} {rs : List Rule}, ((rs.zip (normF b L t k rs)).flatMap G).any f = true ↔ ∃ (i : Nat) (r : Rule), rs[i]? = some r ∧ (G (r, rowN b L t r (k + i))).any f = true
  | k, [] => ⟨fun h => (Bool.false_ne_true h).elim, fun ⟨i, r, h, _⟩ => by cases i <;> cases h⟩
  | k, r :: rs => by
    have ih := any_normF (b := b) (L := L) (t := t) G f (k := k + 1) (rs := rs)
    unfold normF
    rw [List.zip_cons_cons, List.flatMap_cons, List.any_append, Bool.or_eq_true, ih]
    constructor
    · rintro (h | ⟨i, r', h1, h2⟩)
      · exact ⟨0, r, rfl, h⟩
      · exact ⟨i + 1, r', h1, by rw [show k + (i + 1) = k + 1 + i by omega]; exact h2⟩
    · rintro ⟨i, r', h1, h2⟩
      cases i with
      | zero => cases h1; exact .inl h2
      | succ i => exact .inr ⟨i, r', h1, by rw [show k + 1 + i = k + (i + 1) by omega]; exact h2⟩
theorem left_pos {c2 t : Int} : 0 < max0 (c2 - t + 1) ↔ t ≤ c2 := by
  unfold max0
  split <;> omega
theorem locked_iff {b : Book} {L : LSt} {t a p : Int} (hb : InBook b a p) (hr : ∀ r ∈ b.rules, RuleOk r) : isLocked b (normS b L t) a p = true ↔ ∃ (i : Nat) (r : Rule), b.rules[i]? = some r ∧ t ≤ (getC L i (keyFor r a p)).c2 := by
  unfold isLocked leftAt normS
  rw [any_normF (fun q => ((keysOf b q.1).zip q.2).filterMap fun z => if isAt z.1 a p then some z.2.left else none) (fun l => decide (0 < l))]
  constructor
  · rintro ⟨i, r, h1, h2⟩
    refine ⟨i, r, h1, ?_⟩
    rw [List.any_eq_true] at h2
    obtain ⟨l, hl, hl2⟩ := h2
    obtain ⟨z, hz, hz2⟩ := List.mem_filterMap.mp hl
    unfold rowN at hz
    rw [zip_self] at hz
    obtain ⟨y, hy, rfl⟩ := List.mem_map.mp hz
    dsimp only at hz2
    by_cases ha : isAt y a p = true
    · rw [if_pos ha] at hz2
      cases hz2
      rw [isAt_iff hy] at ha
      have e := of_decide_eq_true ha
      rw [← e]
      rw [Nat.zero_add] at hl2
      exact left_pos.mp (of_decide_eq_true hl2)
    · rw [if_neg ha] at hz2
      cases hz2
  · rintro ⟨i, r, h1, h2⟩
    refine ⟨i, r, h1, ?_⟩
    rw [List.any_eq_true]
    have hin := keyFor_in hb (hr r (List.mem_of_getElem? h1)).1
    refine ⟨(norm r (getC L i (keyFor r a p)) t).left, List.mem_filterMap.mpr ⟨(keyFor r a p, norm r (getC L i (keyFor r a p)) t), ?_, ?_⟩, decide_eq_true (left_pos.mpr h2)⟩
    · unfold rowN
      rw [zip_self, Nat.zero_add]
      exact List.mem_map.mpr ⟨_, hin, rfl⟩
    · dsimp only
      rw [if_pos (by rw [isAt_iff hin]; exact decide_eq_true rfl)]
theorem held_mem {rs : List Rule} {L : LSt} {t a p : Int} {i : Nat} {r : Rule} (h : rs[i]? = some r) : i ∈ heldL rs L t a p ↔ t ≤ (getC L i (keyFor r a p)).c2 := by
  unfold heldL
  rw [List.mem_filter, h]
  have hi : i < rs.length := (List.getElem?_eq_some_iff.mp h).1
  dsimp only
  exact ⟨fun z => of_decide_eq_true z.2, fun z => ⟨List.mem_range.mpr hi, decide_eq_true z⟩⟩
theorem held_pos {rs : List Rule} {L : LSt} {t a p : Int} : 0 < (heldL rs L t a p).length ↔ ∃ (i : Nat) (r : Rule), rs[i]? = some r ∧ t ≤ (getC L i (keyFor r a p)).c2 := by
  rw [List.length_pos_iff_exists_mem]
  constructor
  · rintro ⟨i, hi⟩
    have hi2 := hi
    unfold heldL at hi2
    rw [List.mem_filter] at hi2
    have hl := List.mem_range.mp hi2.1
    exact ⟨i, rs[i], List.getElem?_eq_getElem hl, (held_mem (List.getElem?_eq_getElem hl)).mp hi⟩
  · rintro ⟨i, r, h1, h2⟩
    exact ⟨i, (held_mem h1).mpr h2⟩
theorem locked_eq {b : Book} {L : LSt} {t a p : Int} (hb : InBook b a p) (hr : ∀ r ∈ b.rules, RuleOk r) : isLocked b (normS b L t) a p = decide (0 < (heldL b.rules L t a p).length) := by
  rw [Bool.eq_iff_iff, locked_iff hb hr, decide_eq_true_iff, held_pos]
theorem getC_open (L : LSt) (a : Int) (k : Nat) (y : Key) : getC (L.map fun e => if e.1.2.1 = some a then (e.1, zeroC) else e) k y = if y.1 = some a then zeroC else getC L k y := by
  induction L with
  | nil => rw [List.map_nil]; split <;> rfl
  | cons e L ih =>
    rw [List.map_cons, getC_cons, getC_cons, ih]
    by_cases h1 : e.1.2.1 = some a
    · rw [if_pos h1]
      dsimp only
      by_cases h2 : e.1 = (k, y)
      · rw [if_pos h2, if_pos h2, if_pos (by rw [h2] at h1; exact h1)]
      · rw [if_neg h2, if_neg h2]
    · rw [if_neg h1]
      by_cases h2 : e.1 = (k, y)
      · rw [if_pos h2, if_pos h2, if_neg (by rw [h2] at h1; exact h1)]
      · rw [if_neg h2, if_neg h2]
/-- actions of the book -/
def ActB (b : Book) : Act → Prop
  | .none => True
  | .open_ _ => True
  | .try_ a p _ => InBook b a p
/-- ONE ACTION: the law's cells and the program's standing go alike -/
theorem step_norm {b : Book} {L : LSt} {t : Int} {act : Act} (hr : ∀ r ∈ b.rules, RuleOk r) (hc : CellsOk L) (ht : 0 ≤ t) (ha : ActB b act) : step b (normS b L t) act = ((doL b.rules L t act).1, normS b (doL b.rules L t act).2 (t + 1)) := by
  cases act with
  | none =>
    show (Told.none, idle b (normS b L t) 1) = _
    rw [idle_norm hr hc (by decide)]
    rfl
  | open_ a =>
    show (Told.opened, changed b (normS b L t) (fun _ k => k.1 == some a) fun _ _ => newPart) = (Told.opened, normS b (L.map fun e => if e.1.2.1 = some a then (e.1, zeroC) else e) (t + 1))
    rw [changed_norm (L' := L.map fun e => if e.1.2.1 = some a then (e.1, zeroC) else e) (t' := t + 1) fun i r y hi hy => ?_]
    rw [getC_open]
    have hro := hr r (List.mem_of_getElem? hi)
    by_cases h : y.1 = some a
    · rw [if_pos h, if_pos (beq_iff_eq.mpr h), norm_zero r (by omega)]
    · rw [if_neg h, if_neg fun z => h (beq_iff_eq.mp z)]
      exact passed_norm (getC_ok hc _ _).c0 hro.2.2.2.1 (by decide)
  | try_ a p right =>
    have hb : InBook b a p := ha
    have key : ∀ (change : Rule → Part → Part), (∀ (i : Nat) (r : Rule), b.rules[i]? = some r → change r (norm r (getC L i (keyFor r a p)) t) = norm r (cellDo r (heldL b.rules L t a p) right i (freshC r (getC L i (keyFor r a p)) t) t) (t + 1)) →
        changed b (normS b L t) (fun _ k => isAt k a p) change = normS b (doL b.rules L t (.try_ a p right)).2 (t + 1) := fun change h => by
      refine changed_norm fun i r y hi hy => ?_
      have hro := hr r (List.mem_of_getElem? hi)
      have hfold := getC_fold (rs := b.rules) (held := heldL b.rules L t a p) (t := t) (a := a) (p := p) (right := right) (L := L) i y b.rules.length (Nat.le_refl _)
      rw [hi] at hfold
      dsimp only at hfold
      have hil : i < b.rules.length := (List.getElem?_eq_some_iff.mp hi).1
      show (if isAt y a p = true then _ else _) = norm r (getC ((List.range b.rules.length).foldl (tryL b.rules (heldL b.rules L t a p) t a p right) L) i y) (t + 1)
      rw [hfold, isAt_iff hy]
      by_cases e : y = keyFor r a p
      · rw [if_pos (decide_eq_true e), if_pos ⟨hil, e⟩, e]
        exact h i r hi
      · rw [if_neg (by rw [decide_eq_false e]; exact Bool.false_ne_true), if_neg fun z => e z.2]
        exact passed_norm (getC_ok hc _ _).c0 hro.2.2.2.1 (by decide)
    unfold step
    dsimp only
    rw [locked_eq hb hr]
    by_cases hh : 0 < (heldL b.rules L t a p).length
    · rw [if_pos (decide_eq_true hh), key keptPart fun i r hi => ?_]
      · show _ = ((if 0 < (heldL b.rules L t a p).length then Told.kept else if right then .tin else .wrong), _)
        rw [if_pos hh]
      · rw [kept_norm (hr r (List.mem_of_getElem? hi)) (getC_ok hc _ _)]
        unfold cellDo
        rw [if_pos hh]
        obtain ⟨f2, f3, f4⟩ := fresh_c1 r (getC L i (keyFor r a p)) t
        by_cases z : t ≤ (getC L i (keyFor r a p)).c2 ∧ r.strict = true
        · rw [if_pos z, if_pos ⟨(held_mem hi).mpr z.1, z.2⟩, f3, f4]
        · rw [if_neg z, if_neg fun q => z ⟨(held_mem hi).mp q.1, q.2⟩]
    · rw [if_neg (by rw [decide_eq_false hh]; exact Bool.false_ne_true)]
      cases right with
      | true =>
        rw [if_pos rfl, key letPart fun i r hi => ?_]
        · show _ = ((if 0 < (heldL b.rules L t a p).length then Told.kept else if true then .tin else .wrong), _)
          rw [if_neg hh]
          rfl
        · rw [let_norm (hr r (List.mem_of_getElem? hi)) (getC_ok hc _ _) ht]
          unfold cellDo
          rw [if_neg hh, if_pos rfl]
      | false =>
        rw [if_neg Bool.false_ne_true, key begun fun i r hi => ?_]
        · show _ = ((if 0 < (heldL b.rules L t a p).length then Told.kept else if false then .tin else .wrong), _)
          rw [if_neg hh]
          rfl
        · have hl : (getC L i (keyFor r a p)).c2 < t := by
            have q : ¬ t ≤ (getC L i (keyFor r a p)).c2 := fun z => hh (held_pos.mpr ⟨i, r, hi, z⟩)
            omega
          rw [begun_norm (hr r (List.mem_of_getElem? hi)) (getC_ok hc _ _) hl]
          unfold cellDo
          rw [if_neg hh, if_neg Bool.false_ne_true]
end TL
/-! Trylocks, plain: the law's own count is what every answers. -/
namespace TL
theorem cell_do_ok {r : Rule} {held : List Nat} {right : Bool} {k : Nat} {c : Cell} {t : Int} (hr : RuleOk r) (h : CellOk c) : CellOk (cellDo r held right k c t) := by
  unfold cellDo
  split
  · split
    · exact ⟨h.c0, h.c3, h.c4⟩
    · exact h
  · split
    · split
      · exact zero_ok
      · exact h
    · unfold countedC
      have h0 := h.c0
      have h4 := h.c4
      split
      · exact ⟨by show 0 ≤ c.c0 + 1; omega, h.c3, h.c4⟩
      · refine ⟨Int.le_refl 0, ?_, by show 0 ≤ c.c4 + 1; omega⟩
        have hl := hr.2.2.1.1
        refine Int.mul_nonneg (by omega) ?_
        split
        · unfold factL
          split
          · omega
          · split <;> omega
        · omega
theorem setC_ok {L : LSt} (h : CellsOk L) {k : Nat} {y : Key} {c : Cell} (hc : CellOk c) : CellsOk (setC L k y c) := fun e he => by
  unfold setC at he
  split at he
  · obtain ⟨x, hx, rfl⟩ := List.mem_map.mp he
    split
    · exact hc
    · exact h x hx
  · rcases List.mem_append.mp he with q | q
    · exact h e q
    · rw [List.mem_singleton.mp q]; exact hc
theorem try_ok {rs : List Rule} {held : List Nat} {t a p : Int} {right : Bool} (hr : ∀ r ∈ rs, RuleOk r) : ∀ (ks : List Nat) (L : LSt), CellsOk L → CellsOk (ks.foldl (tryL rs held t a p right) L)
  | [], _, h => h
  | k :: ks, L, h => by
    refine try_ok hr ks _ ?_
    cases hk : rs[k]? with
    | none =>
      unfold tryL
      rw [hk]
      exact h
    | some r =>
      rw [tryL_some hk]
      exact setC_ok h (cell_do_ok (hr r (List.mem_of_getElem? hk)) (fresh_ok t (getC_ok h _ _)))
theorem do_ok {rs : List Rule} {L : LSt} {t : Int} {act : Act} (hr : ∀ r ∈ rs, RuleOk r) (h : CellsOk L) : CellsOk (doL rs L t act).2 := by
  cases act with
  | none => exact h
  | open_ a =>
    intro x hx
    obtain ⟨y, hy, rfl⟩ := List.mem_map.mp hx
    split
    · exact zero_ok
    · exact h y hy
  | try_ a p right => exact try_ok hr _ _ h
theorem run_ok {rs : List Rule} {g : Int} {acts : List Act} (hr : ∀ r ∈ rs, RuleOk r) : ∀ k, CellsOk (lrun rs g acts k)
  | 0 => fun e he => nomatch he
  | k + 1 => do_ok hr (run_ok hr k)
theorem normS_nil (b : Book) : normS b [] 0 = firstStand b := by
  have q : ∀ (k : Nat) (rs : List Rule), normF b [] 0 k rs = rs.map fun r => (keysOf b r).map fun _ => newPart := fun k rs => by
    induction rs generalizing k with
    | nil => rfl
    | cons r rs ih =>
      unfold normF
      rw [ih, List.map_cons]
      congr 1
      unfold rowN
      exact List.map_congr_left fun y _ => norm_zero r (Int.le_refl 0)
  exact q 0 b.rules
/-- ONE ACTION AND THE MOMENTS BEHIND IT -/
theorem rstep_norm {b : Book} {g : Int} {acts : List Act} {k : Nat} {c : Cnt} (hr : ∀ r ∈ b.rules, RuleOk r) (hg : 1 ≤ g) (ha : ∀ a ∈ acts, ActB b a) (hk : k % acts.length < acts.length) :
    rstep b g (c, normS b (lrun b.rules g acts k) ((k : Int) * g)) (acts.getD (k % acts.length) .none) = (fun u => c u + oneC (ltold b.rules g acts k) u, normS b (lrun b.rules g acts (k + 1)) (((k + 1 : Nat) : Int) * g)) := by
  have hab : ActB b (acts.getD (k % acts.length) .none) := by
    rw [List.getD_eq_getElem?_getD, List.getElem?_eq_getElem hk]
    exact ha _ (List.getElem_mem hk)
  have hkg : 0 ≤ (k : Int) * g := Int.mul_nonneg (by omega) (by omega)
  unfold rstep
  dsimp only
  rw [step_norm hr (run_ok hr k) hkg hab]
  dsimp only
  rw [idle_norm hr (do_ok hr (run_ok hr k)) (by omega)]
  have e : (k : Int) * g + 1 + (g - 1) = ((k + 1 : Nat) : Int) * g := by
    rw [show ((k + 1 : Nat) : Int) = (k : Int) + 1 by omega, Int.add_mul, Int.one_mul]
    omega
  rw [e]
  rfl
theorem round_norm {b : Book} {g : Int} {acts : List Act} {n : Nat} (hr : ∀ r ∈ b.rules, RuleOk r) (hg : 1 ≤ g) (ha : ∀ a ∈ acts, ActB b a) : ∀ m, m ≤ acts.length → roundOf b g (normS b (lrun b.rules g acts (n * acts.length)) (((n * acts.length : Nat) : Int) * g)) (acts.take m) = (fun u => lcount b.rules g acts (n * acts.length + m) u - lcount b.rules g acts (n * acts.length) u, normS b (lrun b.rules g acts (n * acts.length + m)) (((n * acts.length + m : Nat) : Int) * g))
  | 0, _ => by
    unfold roundOf
    rw [List.take_zero, List.foldl_nil, Nat.add_zero]
    congr 1
    exact funext fun u => by omega
  | m + 1, hm => by
    have ih := round_norm (n := n) hr hg ha m (Nat.le_of_succ_le hm)
    have hlt : m < acts.length := Nat.lt_of_succ_le hm
    have hmod : (n * acts.length + m) % acts.length = m := by rw [Nat.add_comm, Nat.add_mul_mod_self_right, Nat.mod_eq_of_lt hlt]
    have hget : acts[m]? = some (acts.getD ((n * acts.length + m) % acts.length) .none) := by rw [hmod, List.getD_eq_getElem?_getD, List.getElem?_eq_getElem hlt]; rfl
    have htk : acts.take (m + 1) = acts.take m ++ [acts.getD ((n * acts.length + m) % acts.length) .none] := by rw [List.take_succ, hget]; rfl
    unfold roundOf at ih ⊢
    rw [htk, List.foldl_append, ih]
    show rstep b g _ _ = _
    rw [rstep_norm hr hg ha (by rw [hmod]; exact hlt)]
    congr 1
    refine funext fun u => ?_
    show _ = lcount b.rules g acts (n * acts.length + m) u + (if u = ltold b.rules g acts (n * acts.length + m) then 1 else 0) - lcount b.rules g acts (n * acts.length) u
    unfold oneC
    omega
theorem tot_norm {b : Book} {g : Int} {acts : List Act} (hr : ∀ r ∈ b.rules, RuleOk r) (hg : 1 ≤ g) (ha : ∀ a ∈ acts, ActB b a) : ∀ n, stN b g acts n = normS b (lrun b.rules g acts (n * acts.length)) (((n * acts.length : Nat) : Int) * g) ∧ totN b g acts n = lcount b.rules g acts (n * acts.length)
  | 0 => by
    rw [Nat.zero_mul]
    refine ⟨?_, rfl⟩
    rw [show ((0 : Nat) : Int) * g = 0 from Int.zero_mul g]
    exact (normS_nil b).symm
  | n + 1 => by
    obtain ⟨h1, h2⟩ := tot_norm hr hg ha n
    have hrd := round_norm (n := n) hr hg ha acts.length (Nat.le_refl _)
    rw [List.take_length] at hrd
    have e : (n + 1) * acts.length = n * acts.length + acts.length := by rw [Nat.add_mul, Nat.one_mul]
    rw [e]
    refine ⟨?_, funext fun u => ?_⟩
    · show (roundOf b g (stN b g acts n) acts).2 = _
      rw [h1, hrd]
    · show totN b g acts n u + (roundOf b g (stN b g acts n) acts).1 u = _
      rw [h1, hrd, h2]
      dsimp only
      omega
/-- every answers the law's own count -/
theorem every_count {b : Book} {g : Int} {acts : List Act} (hr : ∀ r ∈ b.rules, RuleOk r) (hg : 1 ≤ g) (ha : ∀ a ∈ acts, ActB b a) (hne : acts ≠ []) (many : Nat) : everyP b g acts many = lcount b.rules g acts many := by
  have hpos : 0 < acts.length := List.length_pos_iff.mpr hne
  obtain ⟨h1, h2⟩ := tot_norm hr hg ha (many / acts.length)
  have hrd := round_norm (n := many / acts.length) hr hg ha (many % acts.length) (Nat.le_of_lt (Nat.mod_lt _ hpos))
  have e : many / acts.length * acts.length + many % acts.length = many := by rw [Nat.mul_comm]; exact Nat.div_add_mod _ _
  refine funext fun u => ?_
  show totN b g acts _ u + (roundOf b g (stN b g acts _) _).1 u = _
  rw [h1, h2, hrd, e]
  dsimp only
  omega
end TL
/-! Trylocks, plain: the far count by the first round that comes back. -/
namespace TL
theorem far_turns {b : Book} {g : Int} {acts : List Act} {i n : Nat} (hin : i ≤ n) (h : stN b g acts i = stN b g acts n) (m : Nat) (u : Told) : ∀ q : Nat, stN b g acts (i + m + q * (n - i)) = stN b g acts (i + m) ∧ totN b g acts (i + m + q * (n - i)) u = totN b g acts (i + m) u + (q : Int) * (totN b g acts n u - totN b g acts i u)
  | 0 => by
    rw [Nat.zero_mul, Nat.add_zero]
    exact ⟨rfl, by simp⟩
  | q + 1 => by
    obtain ⟨h1, h2⟩ := far_turns hin h m u q
    have e : i + m + (q + 1) * (n - i) = n + (m + q * (n - i)) := by rw [Nat.add_mul, Nat.one_mul]; omega
    have e2 : i + m + q * (n - i) = i + (m + q * (n - i)) := by omega
    have c1 := st_cycle h (m + q * (n - i))
    have c2 := tot_cycle h u (m + q * (n - i))
    rw [e]
    rw [e2] at h1 h2
    refine ⟨by rw [← c1]; exact h1, ?_⟩
    have e3 : ((q + 1 : Nat) : Int) * (totN b g acts n u - totN b g acts i u) = (q : Int) * (totN b g acts n u - totN b g acts i u) + (totN b g acts n u - totN b g acts i u) := by
      rw [show ((q + 1 : Nat) : Int) = (q : Int) + 1 by omega, Int.add_mul, Int.one_mul]
    rw [e3]
    generalize (q : Int) * (totN b g acts n u - totN b g acts i u) = z at h2 ⊢
    omega
/-- the law's formula -/
theorem far_eq {b : Book} {g : Int} {acts : List Act} {i n R : Nat} (hin : i < n) (hR : i ≤ R) (h : stN b g acts i = stN b g acts n) (u : Told) : totN b g acts R u = totN b g acts (i + (R - i) % (n - i)) u + (((R - i) / (n - i) : Nat) : Int) * (totN b g acts n u - totN b g acts i u) := by
  have q := (far_turns (Nat.le_of_lt hin) h ((R - i) % (n - i)) u ((R - i) / (n - i))).2
  have e : i + (R - i) % (n - i) + (R - i) / (n - i) * (n - i) = R := by
    have := Nat.mod_add_div (R - i) (n - i)
    rw [Nat.mul_comm] at this
    omega
  rw [e] at q
  exact q
/-- each action is told once -/
theorem lcount_sum (rs : List Rule) (g : Int) (acts : List Act) : ∀ k, lcount rs g acts k .tin + lcount rs g acts k .kept + lcount rs g acts k .none + lcount rs g acts k .opened + lcount rs g acts k .wrong = (k : Int)
  | 0 => rfl
  | k + 1 => by
    have ih := lcount_sum rs g acts k
    have one : ∀ t : Told, (if Told.tin = t then (1 : Int) else 0) + (if Told.kept = t then 1 else 0) + (if Told.none = t then 1 else 0) + (if Told.opened = t then 1 else 0) + (if Told.wrong = t then 1 else 0) = 1 := fun t => by cases t <;> rfl
    have o := one (ltold rs g acts k)
    show (lcount rs g acts k .tin + if Told.tin = ltold rs g acts k then 1 else 0) + (lcount rs g acts k .kept + if Told.kept = ltold rs g acts k then 1 else 0) + (lcount rs g acts k .none + if Told.none = ltold rs g acts k then 1 else 0) + (lcount rs g acts k .opened + if Told.opened = ltold rs g acts k then 1 else 0) + (lcount rs g acts k .wrong + if Told.wrong = ltold rs g acts k then 1 else 0) = ((k + 1 : Nat) : Int)
    omega
end TL
/-! Trylocks, walk Bp: for k in d, d[k] of a locked dict with nested keys. -/
namespace TL
open PySem PySem.Spec PyProof.Rows L2 Evl C8 RZ LamX NdefX
/-- the keys' own tuples -/
def Itn (P : Program) (w : World) (d : Addr) (o : Obj) (ent : List NEnt) : It :=
  ⟨fun i H => H d = some (.frz o (NDO P w d ent)) ∧ i < ent.length, fun i H x H' => H' = H ∧ ∃ p, ent[i]? = some p ∧ x = .ref p.2.1, fun i H => H d = some (.frz o (NDO P w d ent)) ∧ ent.length ≤ i⟩
theorem nd_frz {X : Cx} {pins : List (Addr × Obj)} {σ : L2.St} {H : Hp} {s : Shared} {d : Addr} {o : Obj} {ent : List NEnt} (I : Inv X pins σ H s) (h : H d = some (.frz o (NDO X.prog X.w d ent))) :
    (d == sysModules) = false ∧ s.heap.get? d = some o ∧ o.ExactDict ∧ ∃ (es : Array DictEntry) (ep : Nat), o.data = .dict es ep ∧ es.size = ent.length ∧
      ∀ (i : Nat) (p : NEnt), ent[i]? = some p → ∃ en, es[i]? = some en ∧ en.key = .ref p.2.1 := by
  obtain ⟨hd, ⟨z, hs, xs, rel, o', es, ep, ho, hx, hdt, he, _⟩, _, _⟩ := I.hok d _ h
  rw [hd] at ho
  cases ho
  refine ⟨hs, hd, hx, es, ep, hdt, ?_, fun i p e => ?_⟩
  · have l2 : ent.length = xs.length := Paired.length rel
    rw [← Array.length_toList, he, List.length_map, l2]
  · obtain ⟨y, hy1, hy2⟩ := paired_get rel e
    have e2 : es.toList[i]? = some (entryOfKey (nestedKind X.prog X.w) y) := by rw [he, List.getElem?_map, hy1]; rfl
    refine ⟨entryOfKey (nestedKind X.prog X.w) y, by rw [← Array.getElem?_toList]; exact e2, ?_⟩
    show Value.ref y.2.1 = Value.ref p.2.1
    rw [hy2.2.1]
theorem turn_keysN {P : Program} {w : World} {K : PySem.W.Frag} {tg : Expr} {d : Addr} {o : Obj} {es : Array DictEntry} {ep : Nat} {ent : List NEnt} (it : Addr) (hod : o.data = .dict es ep) :
    Turn P w K tg (Itn P w d o ent) [it] it (fun i h => h.IsKeyIter it d i ent.length ep) where
  mem := by simp
  obj := fun i h st b hb => by
    have e : b = it := by simpa using hb
    subst e
    obtain ⟨oi, e, c, dd⟩ := st
    exact ⟨oi, e, fun v z => by rw [dd] at z; cases z⟩
  keep := fun i h h' st k => st.at fun oi e => k it (by simp) oi e
  item := by
    intro X hP hw hK hc i pins s σ H E I hf st hg
    subst hP hw hK
    obtain ⟨hd, hi⟩ := hg
    obtain ⟨f0, f1, f2, f3, f4, f5⟩ := hf it (by simp)
    obtain ⟨hs, hgd, hx, es', ep', hdt, hsz, hent⟩ := nd_frz I hd
    obtain ⟨rfl, rfl⟩ := dict_ep hod hdt
    obtain ⟨p, hp⟩ : ∃ p, ent[i]? = some p := ⟨ent[i], List.getElem?_eq_getElem hi⟩
    obtain ⟨en, hen, hkey⟩ := hent i p hp
    refine next_key_item st hgd hdt hsz hen fun h' st' sb => ?_
    have I1 : Inv X pins σ H { s with heap := h' } := I.turned (t' := s.toks) (fun b ob hb e => (sb.2 b hb).trans e) f0 f1 f3 f4 f5
    obtain ⟨oi, e, c, dd⟩ := id st'
    exact ⟨en.key, rfl, go_of (s := { s with heap := h' }) e c dd (by decide) ⟨.ref p.2.1, H, I1, hkey, ⟨rfl, p, hp, rfl⟩, st', fun b hb => (hf b hb).1⟩⟩
  done := by
    intro X hP hw hK hc i pins s σ H E I hf st hg
    subst hP hw hK
    obtain ⟨hd, hi⟩ := hg
    obtain ⟨f0, f1, f2, f3, f4, f5⟩ := hf it (by simp)
    obtain ⟨hs, hgd, hx, es', ep', hdt, hsz, hent⟩ := nd_frz I hd
    obtain ⟨rfl, rfl⟩ := dict_ep hod hdt
    exact next_key_end (I.ok.hd hc) st hgd hdt hsz hi fun h' eb => ⟨rfl, I.turned (t' := s.toks) (fun b ob hb e => eb b ob hb e) f0 f1 f3 f4 f5⟩
  self := fun A i s Q E st h => by
    refine wpAny_pyIter_slot st.typeIs PySem.F.slot_dict_keyiterator_iter (wpAny_call_entry PySem.F.slot_dict_keyiterator_iter st.typeIs PySem.F.entry_dict_keyiterator_iter ?_ (PySem.F.args_dict_keyiterator_iter_1 _))
    show wpAny _ _ (ret (.ref it)) _ _ s
    exact wpAny_pure ⟨_, rfl, "dict_keyiterator", _, st.typeIs, PySem.F.slot_dict_keyiterator_next.lookup, h⟩
def iKeysN (P : Program) (w : World) (td : TE) : TI := fun σ H R => td σ H fun x H1 => ∃ d o ent, x = .ref d ∧ H1 d = some (.frz o (NDO P w d ent)) ∧ R (Itn P w d o ent) H1
theorem pi_keysN {X : Cx} {tg e : Expr} {td : TE} (he : PE X e td) : PI X tg e (iKeysN X.prog X.w td) := by
  refine ⟨fun pins s σ H R I h => ?_⟩
  refine thn (he.run pins s σ H _ I h) fun u s1 ⟨x, H1, I1, rx, d, o, ent, ex, hd, q⟩ => ?_
  subst ex
  obtain rfl : u = Value.ref d := rx
  obtain ⟨hs, hgd, hx, es, ep, hdt, hsz, hent⟩ := nd_frz I1 hd
  refine iter_keys hs hgd hx hdt (pi_one (tk := s1.toks) I1 _ (turn_keysN _ hdt) ⟨_, Heap.get?_push_size _ rfl, rfl, ?_⟩ q)
  rw [hsz] <;> rfl
/-! ### d[k], d locked or not -/
theorem nd_atR {P : Program} {w : World} {K : PySem.W.Frag} {H : Hp} {h : Heap} {d : Addr} {o : Obj} {ent : List NEnt} (hok : HOk P w H h) (kin : K.In h) (e : H d = some (.frz o (NDO P w d ent))) (nk : NKs K H ent) :
    ent.length ≤ sizeLine ∧ (d == sysModules) = false ∧ ∃ xs, Paired ERel ent xs ∧ h.DictOfH (nestedKind P w) d xs := by
  obtain ⟨_, ⟨z, hd, xs, r, o, es, ep, h1, h2, h3, h4, h5⟩, _, _⟩ := hok d _ e
  refine ⟨z, hd, xs, r, o, es, ep, h1, h2, h3, h4, fun x hx => ?_, h5⟩
  have all : ∀ {l : List NEnt} {m : List (NestedKey × Addr × Value)}, Paired ERel l m → (∀ p ∈ l, NK K H p.1 (.ref p.2.1) ∧ p.1.depth ≤ 8) → ∀ x ∈ m, (nestedKind P w).is h x.1 x.2.1 := by
    intro l m q
    induction q with
    | nil => intro _ x hx; exact nomatch hx
    | @cons p q ps qs hq t ih =>
      intro hp x hx
      rcases List.mem_cons.mp hx with e | hx
      · subst e
        have q1 := hp p (List.mem_cons_self ..)
        obtain ⟨e1, e2, _⟩ := hq
        rw [e1, e2] at q1
        exact ⟨NK.is hok kin _ _ _ q1.1 rfl, q1.2⟩
      · exact ih (fun p hp' => hp p (List.mem_cons_of_mem _ hp')) x hx
  exact all r nk x hx
def tNDGetL (P : Program) (w : World) (K : PySem.W.Frag) (td ty : TE) : TE := fun σ H Q => td σ H fun x H1 => ty σ H1 fun y H2 => ∃ d a o ent k v, x = .ref d ∧ y = .ref a ∧ H2 d = some (.frz o (NDO P w d ent)) ∧ NKs K H2 ent ∧ NK K H2 k (.ref a) ∧ k.depth ≤ 8 ∧ atE ent k = some v ∧ Q v H2
theorem pe_ndgetL {X : Cx} {o i : Expr} {td ty : TE} {pos : Pos} (hu : X.A.units + 64 < cLine) (ho : PE X o td) (hi : PE X i ty) (hs : NoSl i) : PE X (.Subscript o i pos) (tNDGetL X.prog X.w X.K td ty) := by
  refine ⟨fun pins s σ H Q I h => ?_⟩
  refine subD_of PySem.F.slot_dict_getitem.lookup hs (thn (ho.run pins s σ H _ I h) fun u s1 ⟨x, H1, I1, rx, q1⟩ => thn (hi.run pins s1 σ H1 _ I1 q1) fun iv s2 ⟨y, H2, I2, ry, d, a, oo, ent, k, v, ex, ey, hd, nk, hk, dk, hat, q2⟩ => ?_)
  subst ex ey
  obtain rfl : u = Value.ref d := rx
  obtain rfl : iv = Value.ref a := ry
  obtain ⟨z, hs, xs, rel, dd⟩ := nd_atR I2.hok I2.kIn hd nk
  obtain ⟨w', hw, rw'⟩ := RelO.some_of (v := v) (o := (atKey xs k).map (·.2)) (by rw [← hat]; exact at_rel rel)
  obtain ⟨p, hp, hp2⟩ := Option.map_eq_some_iff.mp hw
  refine ⟨dd.typeIs, wpAny_getItem_heap (nd_room hu) ⟨NK.is I2.hok I2.kIn _ _ _ hk rfl, dk⟩ dd hp ?_⟩
  rw [hp2]
  exact ⟨v, H2, I2.tok _, rw', q2⟩
end TL
/-! Trylocks, walk Bq: str(e) of a nested tuple (asks that no show is under way: A.guards = some []). -/
namespace TL
open PySem PySem.Spec PyProof.Rows L2 Evl C8 RZ LamX NdefX
mutual
theorem nk_noDict : ∀ k : NestedKey, k.data.hasDict = false
  | .none => rfl
  | .num _ => rfl
  | .text _ => rfl
  | .tup ks => by
    show (PyData.tuple (NestedKey.datas ks)).hasDict = false
    simp only [PyData.hasDict]
    exact nk_noDictAll ks
theorem nk_noDictAll : ∀ ks : List NestedKey, PyData.hasDictAll (NestedKey.datas ks) = false
  | [] => rfl
  | k :: ks => by
    simp only [NestedKey.datas, PyData.hasDictAll, nk_noDict k, nk_noDictAll ks, Bool.or_self]
end
mutual
theorem nk_depth : ∀ k : NestedKey, k.data.depth = k.depth
  | .none => rfl
  | .num _ => rfl
  | .text _ => rfl
  | .tup ks => by
    simp only [NestedKey.data, PyData.depth, NestedKey.depth, nk_depthAll ks]
theorem nk_depthAll : ∀ ks : List NestedKey, PyData.depthAll (NestedKey.datas ks) = NestedKey.depthAll ks
  | [] => rfl
  | k :: ks => by
    simp only [NestedKey.datas, PyData.depthAll, NestedKey.depthAll, nk_depth k, nk_depthAll ks]
end
mutual
theorem NK.reads {P : Program} {w : World} {K : PySem.W.Frag} {H : Hp} {h : Heap} (hok : HOk P w H h) (kin : K.In h) : ∀ (k : NestedKey) (v : V) (u : Value), NK K H k v → RelV v u → ∃ as, Reads h u k.data as
  | .none, _, u, x, r => by
    cases x
    obtain rfl : u = Value.none := r
    exact ⟨_, .none⟩
  | .num i, _, u, x, r => by
    cases x
    obtain ⟨t, rfl⟩ := (show ∃ t, u = Value.int i t from r)
    exact ⟨_, .int i t⟩
  | .text z, _, u, x, r => by
    cases x
    obtain ⟨t, rfl⟩ := (show ∃ t, u = Value.str z t from r)
    exact ⟨_, .str z t⟩
  | .tup ks, _, u, x, r => by
    cases x with
    | tup h1 h2 =>
      rename_i a vs
      obtain rfl : u = Value.ref a := r
      obtain ⟨o, us, n, g1, g2, g3, g4⟩ := tup_at hok kin h1
      obtain ⟨as, q⟩ := NKAll.reads hok kin ks _ _ h2 g4
      exact ⟨_, .tuple g1 g2 g3 q⟩
theorem NKAll.reads {P : Program} {w : World} {K : PySem.W.Frag} {H : Hp} {h : Heap} (hok : HOk P w H h) (kin : K.In h) : ∀ (ks : List NestedKey) (vs : List V) (us : List Value), NKAll K H ks vs → Vals vs us → ∃ as, ReadsAll h us (NestedKey.datas ks) as
  | [], _, us, x, r => by
    cases x
    cases r
    exact ⟨_, .nil⟩
  | k :: ks, _, us, x, r => by
    cases x with
    | cons h1 h2 =>
      cases r with
      | cons r1 r2 =>
        obtain ⟨a1, q1⟩ := NK.reads hok kin k _ _ h1 r1
        obtain ⟨a2, q2⟩ := NKAll.reads hok kin ks _ _ h2 r2
        exact ⟨_, .cons q1 q2⟩
end
def rStrN (K : PySem.W.Frag) : List V → Hp → VK → Prop := fun xs H Q => ∃ (a : Addr) (ks : List NestedKey), xs = [.ref a] ∧ NK K H (.tup ks) (.ref a) ∧ (NestedKey.tup ks).depth ≤ 8 ∧ (NestedKey.tup ks).data.showable = true ∧ (NestedKey.tup ks).data.shown.length ≤ sizeLine ∧ Q (.str (NestedKey.tup ks).data.shown) H
/-- str(e) of a nested tuple -/
theorem call_strN {X : Cx} (hg : X.A.guards = some []) (hu : X.A.units + 64 < cLine) : CallR X (.type "str") (rStrN X.K) := by
  intro pins s σ H xs us Q I r q
  obtain ⟨a, ks, ex, hk, hd, hs, hz, q⟩ := q
  subst ex
  obtain ⟨u, eu, rx⟩ := vals1 r
  subst eu
  cases rx
  obtain ⟨as, rd⟩ := NK.reads I.hok I.kIn _ _ _ hk (show RelV (.ref a) (.ref a) from rfl)
  refine str_of_reads rd hs (PyData.noDict_hsm (nk_noDict _)) hg (by rw [nk_depth]; omega) (fun _ _ e => e) (fun h' u tk hk => ?_) hz
  exact ⟨.str _, H, I.kept hk, ⟨_, rfl⟩, q⟩
end TL
/-! Trylocks, walk Br: functions that are promised where no show is under way (A.guards = some []). -/
namespace TL
open PySem PySem.Spec PyProof.Rows L2 Evl C8 RZ LamX NdefX
section
variable {P : Program} {w : World} {K : PySem.W.Frag} {mg : Str → Option Value} {base : Heap}
/-- what the function at f promises where no show is under way -/
def FnG (P : Program) (w : World) (K : PySem.W.Frag) (mg : Str → Option Value) (base : Heap) (k : Nat) (f : Addr) (sp : Sp) : Prop :=
  ∀ (A : Around) (outer : List Env) (s : Shared) (H : Hp) (us : List Value) (vs : List V) (Q : VK), A.guards = some [] → Room k A → Env0 P w K mg base A outer s H → Vals vs us → sp vs H Q C8.E0 →
    codeAny (model P w) A (.call (.ref f) ⟨us, []⟩) (CR C8.CX0 outer P w H s Q C8.E0) s
structure CalG (P : Program) (w : World) (K : PySem.W.Frag) (mg : Str → Option Value) (base : Heap) (k : Nat) (x : Str) (sp : Sp) : Prop where
  ex : ∃ f : Addr, FnG P w K mg base k f sp ∧ mg x = some (.ref f) ∧ PySem.W.keepIn K (.ref f) = true
theorem deeper_guards {A : Around} {e : Env} (h : A.guards = some []) : (A.deeper e).guards = some [] := h
theorem calTG {x : Str} {st : Stmt} {N ps : List Str} {k : Nat} {sp : Sp} (D : DefB K mg x st ps) (S : FnScope N ps (fnScope st)) (len : ∀ vs H Q E, sp vs H Q E → vs.length = ps.length)
    (hbody : ∀ (f : Addr) (cdv : Value) (A : Around) (outer : List Env) (s : Shared) (H : Hp) (vs : List V) (Q : VK), A.guards = some [] → Room k (A.deeper (envOfC x (fnScope st) s.heap.objs.size f cdv)) → sp vs H Q C8.E0 →
      ∃ t, PSs (cxOf C8.CX0 P w K mg base N x (fnScope st) f cdv A outer s H C8.E0).nox (fnBody st) t ∧ t { nx := fun _ H' => Q .non H', rt := Q } (start N vs) H) : CalG P w K mg base (k + 1) x sp := by
  obtain ⟨f, fd, F, b⟩ := D.ex
  refine ⟨f, fun A outer s H us vs Q hg hr e0 r h => ?_, F.mgf, F.kp⟩
  have hl := len _ _ _ _ h
  obtain ⟨oc, od, dV, kV, doc, pm, an, cdv, ct, osl, rfl, lk, hcd⟩ := F.fn.ex
  have kin : K.In s.heap := e0.mod.kin.keeps fun b o e => (e0.bs b o e).1
  have hb' := b s us kin (by rw [List.append_nil, ← r.length]; exact hl)
  rw [List.append_nil] at hb'
  refine run_ofS (N := N) (ps := ps) lk hcd S hr e0 hb' r hl fun hr' => ?_
  obtain ⟨t, ht, hq⟩ := hbody f cdv A outer s H vs Q hg hr' h
  exact ⟨t, PSs.nox ht, hq⟩
variable {X : Cx} {k j : Nat} {x : Str} {sp : Sp} {e : Expr} {es : List Expr} {t : TA} {p pos : Pos}
theorem pe_cG (c : CalG X.prog X.w X.K X.mg X.base k x sp) (hgu : X.A.guards = some []) (hr : Room j X.A) (hk : k ≤ j) (hg : Gl X x) (ha : PA X (e :: es) t)
    (hdb : (x == ("__debug__" : Str)) = false := by decide) (he : starEach (e :: es) X.env = (false, eval e X.env) :: starEach es X.env := by rfl) (hpl : (backTo pos (starEach es X.env)).any (·.1) = false := by rfl) :
    PE X (.Call (.Name x p) (e :: es) [] pos) (tCall sp [] C8.E0 t) := by
  obtain ⟨f, F, hm, kp⟩ := c.ex
  refine ⟨fun pins s σ H Q I h => ?_⟩
  refine wpAny_Call_Name_kw (ld_glob I hg hm ?_ hdb)
  refine PySem.W.callWith_K (h₀ := X.base) I.ok.mod.kin kp (thn (ha.run pos pins s σ H _ I h) fun us s1 ⟨vs, H1, I1, r, q⟩ => ⟨I1.kIn, ?_⟩) he hpl
  have q' : sp vs H1 Q C8.E0 := by
    have q1 : sp (vs ++ []) H1 Q C8.E0 := q
    rwa [List.append_nil] at q1
  refine wpAny_call (codeAny_mono (F X.A X.stack s1 H1 us vs Q hgu (hr.mono hk) I1.env0 r q') fun r s' hq => ?_)
  cases r with
  | error e => exact C8.pass0 (E := C8.E0) pins σ H1 s1 e s' I1 hq
  | ok fl =>
    cases fl with
    | ret u => exact I1.after hq
    | next => exact False.elim hq
    | brk => exact False.elim hq
    | cont => exact False.elim hq
end
end TL
/-! Trylocks, walk Bs: for k in d of a locked dict; the mark, plain. -/
namespace TL
open PySem PySem.Spec PyProof.Rows L2 Evl C8 RZ LamX NdefX
theorem walk_keysN {P : Program} {w : World} {d : Addr} {o : Obj} {ent : List NEnt} : Walk (Itn P w d o ent) ent.length (fun H => H d = some (.frz o (NDO P w d ent))) (fun i H x H' => H' = H ∧ ∃ p, ent[i]? = some p ∧ x = .ref p.2.1) :=
  ⟨fun _ _ hi q => ⟨q, hi⟩, fun _ q => ⟨q, Nat.le_refl _⟩, fun _ _ _ _ _ _ y => y⟩
theorem s_forN {P : Program} {w : World} {σ : L2.St} {H : Hp} {d : Addr} {o : Obj} {ent : List NEnt} {tb : TS} {D : Ends} {i j : Nat} (hi : σ[i]? = some (some (.ref d))) (hd : H d = some (.frz o (NDO P w d ent))) (Pv : Nat → L2.St → Hp → Prop) (h0 : Pv 0 σ H)
    (hG : ∀ i σ' H', Pv i σ' H' → H' d = some (.frz o (NDO P w d ent)))
    (hs : ∀ i p σ' H', i < ent.length → ent[i]? = some p → Pv i σ' H' → tb { D with nx := Pv (i + 1), ct := Pv (i + 1), bk := D.nx } (σ'.set j (some (.ref p.2.1))) H') (he : ∀ σ' H', Pv ent.length σ' H' → D.nx σ' H') :
    tFor (iKeysN P w (tVar i)) (gName j) tb D σ H := ⟨_, hi, d, o, ent, rfl, hd,
  for_it walk_keysN Pv h0 (fun i σ' H' _ p => hG i σ' H' p) (fun i v σ' H' H2 hi p y => by
    obtain ⟨rfl, q, hq, rfl⟩ := y
    exact hs i q σ' _ hi hq p) he⟩
/-! ### plain: what the mark tells of a state -/
/-- count, age, what is left of the lock, its size, streak -/
def seenC (r : Rule) (c : Cell) (t : Int) : List Int :=
  [c.c0, if c.c0 > 0 ∧ r.fade > 0 then t - c.c1 else 0, max (c.c2 - t + 1) 0, if max (c.c2 - t + 1) 0 > 0 then c.c3 else 0, if r.grows then min c.c4 2 else 0]
def loud (xs : List Int) : Bool := match xs with
  | [a, _, c, _, e] => decide (¬ (a = 0 ∧ c = 0 ∧ e = 0))
  | _ => false
/-- the text of one cell -/
def cellText (e : Nat × TL.Key) (xs : List Int) : Str := (lkey e).data.shown ++ " " ++ (NestedKey.tup (xs.map NestedKey.num)).data.shown
def markOne (rs : List Rule) (t : Int) (e : (Nat × TL.Key) × Cell) : Option Str := match rs[e.1.1]? with
  | some r => if loud (seenC r (freshC r e.2 t) t) then some (cellText e.1 (seenC r (freshC r e.2 t) t)) else none
  | none => none
def marksOf (rs : List Rule) (L : LSt) (t : Int) : List Str := L.filterMap (markOne rs t)
end TL
/-! Trylocks, walk Bt: the law's mark. -/
namespace TL
open PySem PySem.Spec PyProof.Rows L2 Evl C8 RZ LamX NdefX
section
variable {P : Program} {w : World} {K : PySem.W.Frag} {mg : Str → Option Value} {base : Heap}
def nMark : List Str := ["_law_rules_here", "_law_state", "_law_moment", "_law_found", "_law_mark_here", "_law_rule_here", "_law_cell_here", "_law_age", "_law_left", "_law_size", "_law_streak"]
theorem sc_mark : FnScope nMark ["_law_rules_here", "_law_state", "_law_moment"] (fnScope (top 55)) := fnScope_by (by decide +kernel)
/-- a cell's numbers can be shown and are small enough -/
def Fair (rs : List TL.Rule) (L : LSt) (t : Int) : Prop := ∀ e ∈ L, ∃ r, rs[e.1.1]? = some r ∧ (lkey e.1).data.showable = true ∧ (NestedKey.tup ((seenC r (freshC r e.2 t) t).map NestedKey.num)).data.showable = true ∧
  (lkey e.1).data.shown.length ≤ 1000 ∧ (NestedKey.tup ((seenC r (freshC r e.2 t) t).map NestedKey.num)).data.shown.length ≤ 1000
def spMark (P : Program) (w : World) (K : PySem.W.Frag) : Sp := fun vs H Q _ => ∃ (lr d : Addr) (rs : List TL.Rule) (L : LSt) (t : Int), vs = [.ref lr, .ref d, .int t] ∧ RulesL K rs lr H ∧ LAt P w K L d H ∧ LOk L ∧ L.length < 60 ∧ Fair rs L t ∧
  ∀ ys x H', Ex H H' → ys.Perm (marksOf rs L t) → sortedS ys = true → x = Txt.join " " ys → Q (.str x) H'
theorem ex_lock {d : Addr} {o : HO} {H H1 : Hp} (e : Ex H H1) : Ex (upd H d o) (upd H1 d o) := fun a u h => by
  by_cases z : a = d
  · rw [z] at h ⊢
    rw [upd_same] at h ⊢
    exact h
  · rw [upd_ne z] at h ⊢
    exact e _ _ h
theorem lrel_get {H : Hp} {p : NEnt} : ∀ {ent : List NEnt} {L : LSt}, LRel K ent L H → (L.map (·.1)).Nodup → ∀ i : Nat, ent[i]? = some p → atE ent p.1 = some p.2.2
  | _, _, .nil, _, i, h => by cases h
  | _, _, .cons (a := q) (b := e) (l₁ := ent) (l₂ := L) ⟨h1, h2⟩ t, nd, i, h => by
    rw [List.map_cons, List.nodup_cons] at nd
    unfold atE
    rw [List.find?_cons]
    cases i with
    | zero =>
      cases h
      rw [decide_eq_true rfl]
      rfl
    | succ i =>
      have h' : ent[i]? = some p := h
      obtain ⟨x, hx, hx1⟩ := paired_get t h'
      have hne : ¬ q.1 = p.1 := fun z => nd.1 (by
        rw [h1, hx1.1] at z
        rw [lkey_inj z]
        exact List.mem_map.mpr ⟨x, List.mem_of_getElem? hx, rfl⟩)
      rw [decide_eq_false hne]
      exact lrel_get t nd.2 i h'
abbrev rAddS : R2 := fun x y H Q => ∃ i j, x = .str i ∧ y = .str j ∧ i.length + j.length ≤ sizeLine ∧ Q (.str (i ++ j)) H
theorem ev_addS {σ : L2.St} {H : Hp} {ta tb : TE} {x y : Str} (ha : Ev ta σ H (.str x)) (hb : Ev tb σ H (.str y)) (hl : x.length + y.length ≤ sizeLine) : Ev (tOp rAddS ta tb) σ H (.str (x ++ y)) := ev_op ha hb (rv_val fun H1 _ Q q => ⟨x, y, rfl, rfl, hl, q⟩)
theorem ev_strN {σ : L2.St} {H : Hp} {te : TE} {a : Addr} {ks : List NestedKey} (h : Ev te σ H (.ref a)) (hk : NK K H (.tup ks) (.ref a)) (hd : (NestedKey.tup ks).depth ≤ 8) (hs : (NestedKey.tup ks).data.showable = true) (hz : (NestedKey.tup ks).data.shown.length ≤ 1000) : Ev (tCB (rStrN K) (tCons te tNil)) σ H (.str (NestedKey.tup ks).data.shown) := fun H1 e Q q =>
  h H1 e _ fun H2 e2 => ⟨a, ks, rfl, NK.mono (exT (e.trans e2)) _ _ hk, hd, hs, Nat.le_trans hz (by decide), q H2 e2⟩
theorem ev_strT {σ : L2.St} {H : Hp} {te : TE} {xs : List Int} (h : EvU te σ H (xs.map V.int)) (hs : (NestedKey.tup (xs.map NestedKey.num)).data.showable = true) (hz : (NestedKey.tup (xs.map NestedKey.num)).data.shown.length ≤ 1000) (hd : (NestedKey.tup (xs.map NestedKey.num)).depth ≤ 8) :
    Ev (tCB (rStrN K) (tCons te tNil)) σ H (.str (NestedKey.tup (xs.map NestedKey.num)).data.shown) := fun H1 e Q q =>
  h H1 e _ fun p H2 hp e2 h2 => ⟨p, _, rfl, .tup (st_of h2) (by
    have all : ∀ (xs : List Int), NKAll K H2 (xs.map NestedKey.num) (xs.map V.int) := fun xs => by
      induction xs with
      | nil => exact .nil
      | cons x xs ih => exact .cons (.int x) ih
    exact all xs), hd, hs, Nat.le_trans hz (by decide), q H2 e2⟩
theorem ev_neL {σ : L2.St} {H : Hp} {ta tb : TA} {xs ys : List V} {ds es : List PyData} (ha : EvA ta σ H xs) (hb : EvA tb σ H ys) (hd : ∀ H, DpAll K H xs ds) (he : ∀ H, DpAll K H ys es) (sd : SeqAt.shaped (.list ds) = true) (se : SeqAt.shaped (.list es) = true) (lx : xs.length ≤ 100000) (ly : ys.length ≤ 100000) :
    Ev (tOp (rNeD K) (tLst ta) (tLst tb)) σ H (.bl (!PyData.eqv (.list ds) (.list es))) := fun H1 e Q q =>
  ha H1 e _ fun H2 e2 => ⟨sz_of lx, fun p1 hp1 => hb _ (e.trans (e2.trans (Ex.new hp1))) _ fun H3 e3 => ⟨sz_of ly, fun p2 hp2 =>
    ⟨.list ds, .list es, .lst (SqL.of ((e3.trans (Ex.new hp2)) _ _ upd_same)) (hd _), .lst (SqL.of upd_same) (he _), sd, se, q _ (((e2.trans (Ex.new hp1)).trans e3).trans (Ex.new hp2))⟩⟩⟩
theorem sum_le {l : List Str} {m : Nat} (h : ∀ x ∈ l, x.length ≤ m) : (l.map fun x => x.length).sum ≤ l.length * m := by
  induction l with
  | nil => exact Nat.zero_le _
  | cons x l ih =>
    rw [List.map_cons, List.sum_cons, List.length_cons, Nat.add_mul, Nat.one_mul]
    have h1 := h x (List.mem_cons_self ..)
    have h2 := ih fun y hy => h y (List.mem_cons_of_mem _ hy)
    omega
theorem marks_short {rs : List TL.Rule} {L : LSt} {t : Int} (h : Fair rs L t) : ∀ x ∈ marksOf rs L t, x.length ≤ 2001 := fun x hx => by
  obtain ⟨e, he, hm⟩ := List.mem_filterMap.mp hx
  obtain ⟨r, hr, _, _, h3, h4⟩ := h e he
  unfold markOne at hm
  rw [hr] at hm
  dsimp only at hm
  split at hm
  · have hm' := Option.some.inj hm
    rw [← hm']
    unfold cellText
    rw [Str.length_append, Str.length_append]
    have q : (" " : Str).length = 1 := by decide
    rw [q]
    omega
  · cases hm
theorem c_mark (T : Tx K mg) (W : Tw K mg) (D : DefB K mg "_law_mark" (top 55) ["_law_rules_here", "_law_state", "_law_moment"]) : CalG P w K mg base 2 "_law_mark" (spMark P w K) := by
  have cF := c_fresh (P := P) (w := w) (base := base) T W.fresh
  refine calTG D sc_mark (fun vs H Q E h => ?_) (fun f cdv A outer s H vs Q hg hr h => ?_)
  · obtain ⟨lr, d, rs, L, t, rfl, _⟩ := h
    rfl
  · obtain ⟨lr, d, rs, L, t, rfl, hR, hL, hok, hlen, hfair, k⟩ := h
    have nd := sc_mark.nd
    have hu := hu64' hr
    refine ⟨_, pss_cons (ps_set (i := 3) nd rfl (.inl rfl) (pe_lst pa_nil))
      (pss_cons (ps_lock (ps_for PassesOwn.never rfl (pi_keysN (pv 1)) (pg_name (i := 4) nd rfl (.inl rfl))
        (pss_cons (ps_set (i := 5) nd rfl (.inl rfl) (pe_ix ix_list (pv 0) (pe_ix ix_tup (pv 4) pe_int (fun _ _ => rfl)) (fun _ _ => rfl)))
        (pss_cons (ps_set (i := 6) nd rfl (.inl rfl) (pe_c cF hr (by decide) rfl (pa_cons (pv 5) (pa_cons (pe_ndgetL hu (pv 1) (pv 4) (fun _ _ => rfl)) (pa_cons (pv 2) pa_nil)))))
        (pss_cons (ps_set (i := 7) nd rfl (.inl rfl) pe_int)
        (pss_cons (ps_if (PW.pt (pw_and (pt_cmpR op_gt (pe_ix ix_tup (pv 6) pe_int (fun _ _ => rfl)) pe_int (nomark _)) (pw_and1 (pt_cmpR op_gt (pe_ix ix_tup (pv 5) pe_int (fun _ _ => rfl)) pe_int (nomark _)))))
          (pss_one (ps_set (i := 7) nd rfl (.inl rfl) (pe_op op_sub (pv 2) (pe_ix ix_tup (pv 6) pe_int (fun _ _ => rfl))))) pss_nil)
        (pss_cons (ps_set (i := 8) nd rfl (.inl rfl) (pe_callB (call_max2 rfl) rfl (T.fr "max") (by decide +kernel) (pa_cons (pe_op op_add (pe_op op_sub (pe_ix ix_tup (pv 6) pe_int (fun _ _ => rfl)) (pv 2)) pe_int) (pa_cons pe_int pa_nil))))
        (pss_cons (ps_set (i := 9) nd rfl (.inl rfl) (pe_ix ix_list (pe_lst (pa_cons pe_int (pa_cons (pe_ix ix_tup (pv 6) pe_int (fun _ _ => rfl)) pa_nil))) (pe_callTy (r := rInt1) call_int1 rfl (T.fr "int") boot_int (pa_cons (pe_cmpR op_gt (pv 8) pe_int (nomark _)) pa_nil)) (fun _ _ => rfl)))
        (pss_cons (ps_set (i := 10) nd rfl (.inl rfl) (pe_ix ix_list (pe_lst (pa_cons pe_int (pa_cons (pe_callB (call_min2 rfl) rfl (T.fr "min") (by decide +kernel) (pa_cons (pe_ix ix_tup (pv 6) pe_int (fun _ _ => rfl)) (pa_cons pe_int pa_nil))) pa_nil))) (pe_callTy (r := rInt1) call_int1 rfl (T.fr "int") boot_int (pa_cons (pe_ix ix_tup (pv 5) pe_int (fun _ _ => rfl)) pa_nil)) (fun _ _ => rfl)))
        (pss_one (ps_if (pt_cmpR (op_neD hu) (pe_lst (pa_cons (pe_ix ix_tup (pv 6) pe_int (fun _ _ => rfl)) (pa_cons (pv 8) (pa_cons (pv 10) pa_nil)))) (pe_lst (pa_cons pe_int (pa_cons pe_int (pa_cons pe_int pa_nil)))) (nomark _))
          (pss_one (ps_expr (pe_bm PySem.F.plainAttrs_list PySem.F.slot_list_append PySem.F.type_list_append mt_append (pv 3)
            (pa_cons (pe_op op_add_str (pe_op op_add_str (pe_callTy (call_strN hg hu) rfl (T.fr "str") boot_str (pa_cons (pv 4) pa_nil)) pe_str)
              (pe_callTy (call_strN hg hu) rfl (T.fr "str") boot_str (pa_cons (pe_tup (pa_cons (pe_ix ix_tup (pv 6) pe_int (fun _ _ => rfl)) (pa_cons (pv 7) (pa_cons (pv 8) (pa_cons (pv 9) (pa_cons (pv 10) pa_nil)))))) pa_nil))) pa_nil)))) pss_nil)))))))))))
      (pss_one (ps_ret (pe_join pe_str (pe_callB cr_sortedS rfl (T.fr "sorted") (by decide +kernel) (pa_cons (pv 3) pa_nil)))))), ?_⟩
    have hs : L2.start nMark [.ref lr, .ref d, .int t] = [some (.ref lr), some (.ref d), some (.int t), none, none, none, none, none, none, none, none] := rfl
    rw [hs]
    obtain ⟨ent, g1, g2, g3⟩ := id hL
    refine q_asgL (el_lst ea_nil (by decide)) fun l H1 hl e1 hl1 => ?_
    show tSeq _ _ _ [some (.ref lr), some (.ref d), some (.int t), some (.ref l), none, none, none, none, none, none, none] H1
    have hne : l ≠ d := fun z => by rw [z, g1] at hl; cases hl
    refine ⟨d, NDO P w d ent, e1 _ _ g1, True.intro, fun od => ?_⟩
    have eF : Ex (upd H d (.frz od (NDO P w d ent))) (upd H1 d (.frz od (NDO P w d ent))) := ex_lock e1
    have hRF := rulesL_B hL (ExB.upd (o := .frz od (NDO P w d ent))) hR
    have nkF : NKs K (upd H d (.frz od (NDO P w d ent))) ent := g2.mono (ExT.upd g1 rfl)
    have lrF : LRel K ent L (upd H d (.frz od (NDO P w d ent))) := lrel_T (ExT.upd g1 rfl) g3
    have hdF : (upd H d (.frz od (NDO P w d ent))) d = some (.frz od (NDO P w d ent)) := upd_same
    have hlF : (upd H1 d (.frz od (NDO P w d ent))) l = some (.lst []) := by rw [upd_ne hne]; exact hl1
    have hlN : (upd H d (.frz od (NDO P w d ent))) l = none := by rw [upd_ne hne]; exact hl
    have back : ∀ H', Ex (upd H d (.frz od (NDO P w d ent))) H' → Ex H (upd H' d (NDO P w d ent)) := fun H' e a o h => by
      by_cases z : a = d
      · rw [z] at h ⊢
        rw [upd_same]
        rw [g1] at h
        exact h
      · rw [upd_ne z]
        exact e _ _ (by rw [upd_ne z]; exact h)
    generalize upd H d (.frz od (NDO P w d ent)) = HF at eF hRF nkF lrF hdF hlN back
    generalize upd H1 d (.frz od (NDO P w d ent)) = HG at eF hlF
    refine s_forN (P := P) (w := w) (o := od) (ent := ent) (d := d) rfl (eF _ _ hdF) (fun i σ' H' => ∃ u4 u5 u6 u7 u8 u9 u10, σ' = [some (.ref lr), some (.ref d), some (.int t), some (.ref l), u4, u5, u6, u7, u8, u9, u10] ∧ Ex HF H' ∧ H' l = some (.lst ((marksOf rs (L.take i) t).map V.str)))
      ⟨_, _, _, _, _, _, _, rfl, eF, hlF⟩ (fun i σ' H' ⟨_, _, _, _, _, _, _, _, e, _⟩ => e _ _ hdF) ?_ ?_
    · rintro i p σ' H' hi hp ⟨u4, u5, u6, u7, u8, u9, u10, rfl, e2, hf⟩
      obtain ⟨c, hc, q1, q2⟩ := paired_get lrF hp
      obtain ⟨r, hr1, s1, s2, s3, s4⟩ := hfair c (List.mem_of_getElem? hc)
      have nk : NK K H' (lkey c.1) (.ref p.2.1) := by
        have q := NK.mono (exT e2) _ _ (nkF p (List.mem_of_getElem? hp)).1
        rw [q1] at q
        exact q
      obtain ⟨bk, n1, n2⟩ := nk_inv nk
      obtain ⟨rvs, hS, hP⟩ := rulesL_st e2 hRF
      have hk : c.1.1 < rvs.length := by rw [Paired.length hP]; exact (List.getElem?_eq_some_iff.mp hr1).1
      obtain ⟨r', h1, h2⟩ := paired_get hP (List.getElem?_eq_getElem hk)
      rw [hr1] at h1
      cases h1
      generalize hrv : rvs[c.1.1] = rv at h2
      have hat : atE ent (lkey c.1) = some p.2.2 := by
        rw [← q1]
        exact lrel_get lrF hok.1 i hp
      refine q_asg (v := rv) (ev_ixL (i := (c.1.1 : Int)) (ev_var rfl) (ev_ixT (n := 0) (ev_var rfl) ev_c n1 rfl) hS (atI_nat (by rw [List.getElem?_eq_getElem hk, hrv]))) fun H3 e3 => ?_
      show tSeq _ _ _ [some (.ref lr), some (.ref d), some (.int t), some (.ref l), some (.ref p.2.1), some rv, u6, u7, u8, u9, u10] H3
      have hget : Ev (tNDGetL P w K (tVar 1) (tVar 4)) [some (.ref lr), some (.ref d), some (.int t), some (.ref l), some (.ref p.2.1), some rv, u6, u7, u8, u9, u10] H3 p.2.2 := fun H4 e4 Q q =>
        ⟨_, rfl, _, rfl, d, _, od, ent, lkey c.1, p.2.2, rfl, rfl, e4 _ _ (e3 _ _ (e2 _ _ hdF)), nkF.mono (exT ((e2.trans e3).trans e4)), NK.mono (exT (e3.trans e4)) _ _ nk, lkey_depth _, hat, q H4 (Ex.refl H4)⟩
      have hfr : Er (tCall (spFresh K) [] C8.E0 (tCons (tVar 5) (tCons (tNDGetL P w K (tVar 1) (tVar 4)) (tCons (tVar 2) tNil)))) [some (.ref lr), some (.ref d), some (.int t), some (.ref l), some (.ref p.2.1), some rv, u6, u7, u8, u9, u10] H3 (CellAt K (freshC r c.2 t)) := fun H4 e4 Q q =>
        (ea_cons (ev_var rfl) (ea_cons hget (ea_cons (ev_var rfl) ea_nil))) H4 e4 _ fun H5 e5 => ⟨rv, p.2.2, r, c.2, t, rfl, ruleAt_st _ _ _ ((e3.trans e4).trans e5) h2, cellAt_st _ _ _ (((e2.trans e3).trans e4).trans e5) q2, fun v H6 e6 h => q v H6 (e5.trans e6) h⟩
      refine qr_asg hfr fun cv H4 e4 hcv => ?_
      generalize hfc : freshC r c.2 t = fc at hcv s2 s4
      obtain ⟨ac, rfl, hC⟩ := hcv
      obtain ⟨ar, rfl, hRr⟩ := ruleAt_st _ _ _ (e3.trans e4) h2
      show tSeq _ _ _ [some (.ref lr), some (.ref d), some (.int t), some (.ref l), some (.ref p.2.1), some (.ref ar), some (.ref ac), u7, u8, u9, u10] H4
      have e24 : Ex H' H4 := e3.trans e4
      refine q_asg ev_c fun H5 e5 => ?_
      show tSeq _ _ _ [some (.ref lr), some (.ref d), some (.int t), some (.ref l), some (.ref p.2.1), some (.ref ar), some (.ref ac), some (.int 0), u8, u9, u10] H5
      have gc : ∀ {n : Nat} {x : V} {σ1 : L2.St} {H1 : Hp}, Ex H4 H1 → σ1[6]? = some (some (.ref ac)) → (cellVs fc)[n]? = some x → Ev (tOp (rIxT K) (tVar 6) (tC (.int (n : Int)))) σ1 H1 x := fun e h0 h => ev_ixT (ev_var h0) ev_c (ex_t e hC) h
      have gr : ∀ {n : Nat} {x : V} {σ1 : L2.St} {H1 : Hp}, Ex H4 H1 → σ1[5]? = some (some (.ref ar)) → (ruleVs r)[n]? = some x → Ev (tOp (rIxT K) (tVar 5) (tC (.int (n : Int)))) σ1 H1 x := fun e h0 h => ev_ixT (ev_var h0) ev_c (ex_t e hRr) h
      refine cutK (M := fun σ' H6 => σ' = [some (.ref lr), some (.ref d), some (.int t), some (.ref l), some (.ref p.2.1), some (.ref ar), some (.ref ac), some (.int (if fc.c0 > 0 ∧ r.fade > 0 then t - fc.c1 else 0)), u8, u9, u10] ∧ Ex H4 H6) ?_ fun kM => ?_
      · rintro σ' H6 ⟨rfl, e6⟩
        show tSeq _ _ _ [some (.ref lr), some (.ref d), some (.int t), some (.ref l), some (.ref p.2.1), some (.ref ar), some (.ref ac), some (.int (if fc.c0 > 0 ∧ r.fade > 0 then t - fc.c1 else 0)), u8, u9, u10] H6
        generalize hage : (if fc.c0 > 0 ∧ r.fade > 0 then t - fc.c1 else 0) = age
        refine q_asg (ev_max2 (ev_add (ev_sub (gc (n := 2) e6 rfl rfl) (ev_var rfl)) ev_c) ev_c) fun H7 e7 => ?_
        have hmx : (if (0 : Int) > fc.c2 - t + 1 then 0 else fc.c2 - t + 1) = max (fc.c2 - t + 1) 0 := by
          split <;> omega
        rw [hmx]
        generalize hleft : max (fc.c2 - t + 1) 0 = left
        show tSeq _ _ _ [some (.ref lr), some (.ref d), some (.int t), some (.ref l), some (.ref p.2.1), some (.ref ar), some (.ref ac), some (.int age), some (.int left), u9, u10] H7
        have e47 := e6.trans e7
        have hint : ∀ {σ1 : L2.St} {H1 : Hp} {te : TE} {b : Bool}, Ev te σ1 H1 (.bl b) → Ev (tCB rInt1 (tCons te tNil)) σ1 H1 (.int (if b then 1 else 0)) := fun h H1 e Q q => h H1 e _ fun H2 e2 => .inr ⟨_, rfl, q H2 e2⟩
        refine q_asg (v := .int (if left > 0 then fc.c3 else 0)) (ev_pickL (K := K) (xs := [.int 0, .int fc.c3]) (i := if decide (left > 0) then 1 else 0) (ea_cons ev_c (ea_cons (gc (n := 3) e47 rfl rfl) ea_nil)) (hint (ev_op (ev_var rfl) ev_c rv_I0)) (by by_cases z : left > 0 <;> simp only [z, decide_true, decide_false, if_true, if_false] <;> rfl) (by show 2 ≤ 100000; decide)) fun H8 e8 => ?_
        generalize hsize : (if left > 0 then fc.c3 else 0) = size
        show tSeq _ _ _ [some (.ref lr), some (.ref d), some (.int t), some (.ref l), some (.ref p.2.1), some (.ref ar), some (.ref ac), some (.int age), some (.int left), some (.int size), u10] H8
        have e48 := e47.trans e8
        have hmn : (if (2 : Int) < fc.c4 then 2 else fc.c4) = min fc.c4 2 := by
          split <;> omega
        refine q_asg (v := .int (if r.grows then min fc.c4 2 else 0)) (ev_pickL (K := K) (xs := [.int 0, .int (min fc.c4 2)]) (i := if r.grows then 1 else 0) (ea_cons ev_c (ea_cons (by rw [← hmn]; exact ev_min2 (gc (n := 4) e48 rfl rfl) ev_c) ea_nil)) (hint (gr (n := 5) e48 rfl rfl)) (by cases r.grows <;> rfl) (by show 2 ≤ 100000; decide)) fun H9 e9 => ?_
        generalize hstr : (if r.grows then min fc.c4 2 else 0) = streak
        show tIfS _ _ _ _ [some (.ref lr), some (.ref d), some (.int t), some (.ref l), some (.ref p.2.1), some (.ref ar), some (.ref ac), some (.int age), some (.int left), some (.int size), some (.int streak)] H9
        have e49 := e48.trans e9
        have hsee : seenC r fc t = [fc.c0, age, left, size, streak] := by
          unfold seenC
          rw [hage, hleft, hsize, hstr]
        have htest : Ev (tOp (rNeD K) (tLst (tCons (tOp (rIxT K) (tVar 6) (tC (.int 0))) (tCons (tVar 8) (tCons (tVar 10) tNil)))) (tLst (tCons (tC (.int 0)) (tCons (tC (.int 0)) (tCons (tC (.int 0)) tNil)))))
            [some (.ref lr), some (.ref d), some (.int t), some (.ref l), some (.ref p.2.1), some (.ref ar), some (.ref ac), some (.int age), some (.int left), some (.int size), some (.int streak)] H9 (.bl (loud [fc.c0, age, left, size, streak])) := by
          have hb : (!PyData.eqv (.list [.int fc.c0, .int left, .int streak]) (.list [.int 0, .int 0, .int 0])) = loud [fc.c0, age, left, size, streak] := by
            simp only [PyData.eqv, PyData.eqvAll, loud, Bool.and_true]
            by_cases z1 : fc.c0 = 0 <;> by_cases z2 : left = 0 <;> by_cases z3 : streak = 0 <;> simp [z1, z2, z3]
          rw [← hb]
          exact ev_neL (ea_cons (gc (n := 0) e49 rfl rfl) (ea_cons (ev_var rfl) (ea_cons (ev_var rfl) ea_nil))) (ea_cons ev_c (ea_cons ev_c (ea_cons ev_c ea_nil))) (fun H => .cons (.int _) (.cons (.int _) (.cons (.int _) .nil))) (fun H => .cons (.int _) (.cons (.int _) (.cons (.int _) .nil))) rfl rfl (by show 3 ≤ 100000; decide) (by show 3 ≤ 100000; decide)
        have e29 : Ex H' H9 := e24.trans e49
        have hmk : marksOf rs (L.take (i + 1)) t = marksOf rs (L.take i) t ++ (if loud [fc.c0, age, left, size, streak] then [cellText c.1 [fc.c0, age, left, size, streak]] else []) := by
          unfold marksOf
          rw [take_next hc, List.filterMap_append]
          congr 1
          have hmo : markOne rs t c = if loud [fc.c0, age, left, size, streak] then some (cellText c.1 [fc.c0, age, left, size, streak]) else none := by
            unfold markOne
            rw [hr1]
            dsimp only
            rw [hfc, hsee]
          cases hz : loud [fc.c0, age, left, size, streak] <;> simp [List.filterMap_cons, hmo, hz]
        refine s_when (et_test htest) (fun hb H10 e10 => ?_) (fun hb H10 e10 => ?_)
        · rw [hsee] at s2 s4
          have hlenM : ((marksOf rs (L.take i) t).map V.str).length < 100000 := by
            have q := List.length_filterMap_le (markOne rs t) (L.take i)
            rw [List.length_map]
            unfold marksOf
            have q2 : (L.take i).length ≤ L.length := by rw [List.length_take]; omega
            omega
          have e410 := e49.trans e10
          refine s_app ((e29.trans e10) _ _ hf) (ev_var rfl) (ev_addS (ev_addS (ev_strN (ev_var rfl) (NK.mono (exT (e29.trans e10)) _ _ nk) (lkey_depth _) s1 s3) ev_c ?_) (ev_strT (xs := [fc.c0, age, left, size, streak]) (eu_tup (ea_cons (gc (n := 0) e410 rfl rfl) (ea_cons (ev_var rfl) (ea_cons (ev_var rfl) (ea_cons (ev_var rfl) (ea_cons (ev_var rfl) ea_nil))))) (by show 5 ≤ 100000; decide)) s2 s4 (by simp [NestedKey.depth, NestedKey.depthAll])) ?_) hlenM fun H11 e11 => ?_
          · have q : (" " : Str).length = 1 := by decide
            show (lkey c.1).data.shown.length + (" " : Str).length ≤ sizeLine
            rw [q]
            exact Nat.le_trans (Nat.add_le_add_right s3 1) (by decide)
          · have q : (" " : Str).length = 1 := by decide
            show ((lkey c.1).data.shown ++ (" " : Str)).length + (NestedKey.tup ([fc.c0, age, left, size, streak].map NestedKey.num)).data.shown.length ≤ sizeLine
            rw [Str.length_append, q]
            exact Nat.le_trans (Nat.add_le_add (Nat.add_le_add_right s3 1) s4) (by decide)
          · refine ⟨_, _, _, _, _, _, _, rfl, ?_, ?_⟩
            · exact Ex.mut (((e2.trans e29).trans e10).trans e11) hlN
            · rw [upd_same, hmk, hb, if_pos rfl, List.map_append]
              rfl
        · exact ⟨_, _, _, _, _, _, _, rfl, (e2.trans e29).trans e10, by rw [hmk, hb]; rw [if_neg (by decide), List.append_nil]; exact (e29.trans e10) _ _ hf⟩
      · refine q_when (b := decide (fc.c0 > 0) && decide (r.fade > 0)) (et_and (et_op (gc (n := 0) e5 rfl rfl) ev_c rv_I0) fun _ => et_op (gr (n := 3) e5 rfl rfl) ev_c rv_I0) (fun hb H6 e6 => ?_) (fun hb H6 e6 => ?_)
        · simp only [Bool.and_eq_true, decide_eq_true_eq] at hb
          refine s_asg (ev_sub (ev_var rfl) (gc (n := 1) (e5.trans e6) rfl rfl)) fun H7 e7 => kM _ _ ⟨?_, (e5.trans e6).trans e7⟩
          rw [if_pos hb]
          rfl
        · have hb' : ¬ (fc.c0 > 0 ∧ r.fade > 0) := fun h => by
            have q : (decide (fc.c0 > 0) && decide (r.fade > 0)) = true := by simp only [Bool.and_eq_true, decide_eq_true_eq]; exact h
            rw [hb] at q
            cases q
          refine kM _ _ ⟨?_, e5.trans e6⟩
          rw [if_neg hb']
    · rintro σ' H' ⟨u4, u5, u6, u7, u8, u9, u10, rfl, e2, hf⟩
      have hb := back H' e2
      have hl2 : (upd H' d (NDO P w d ent)) l = some (.lst ((marksOf rs L t).map V.str)) := by
        rw [upd_ne hne, hf, show L.take ent.length = L by rw [Paired.length lrF, List.take_length]]
      refine ⟨e2 _ _ hdF, ⟨_, rfl⟩, V.ref l, rfl, l, marksOf rs L t, rfl, sq_of hl2, ?_, fun ys p hp hs hn => ?_⟩
      · have q := List.length_filterMap_le (markOne rs t) L
        unfold marksOf
        omega
      · refine ⟨" ", p, ys, rfl, rfl, .inl (sq_of upd_same), ?_, k ys _ _ (hb.trans (Ex.new hn)) hp hs rfl⟩
        have h1 := sum_le (l := ys) (m := 2001) fun x hx => marks_short hfair x (hp.mem_iff.mp hx)
        have h2 : ys.length < 60 := by
          rw [hp.length_eq]
          have q := List.length_filterMap_le (markOne rs t) L
          unfold marksOf
          omega
        have q : (" " : Str).length = 1 := by decide
        have h1' : (List.map (fun x => x.length) ys).sum ≤ ys.length * 2001 := h1
        show (List.map (fun x => x.length) ys).sum + ys.length * (" " : Str).length ≤ 16777216
        rw [q]
        omega
end
end TL
/-! Trylocks, walk Bu: the law's far count. -/
namespace TL
open PySem PySem.Spec PyProof.Rows L2 Evl C8 RZ LamX NdefX
section
variable {P : Program} {w : World} {K : PySem.W.Frag} {mg : Str → Option Value} {base : Heap}
def nFar : List Str := ["_law_rules_here", "_law_actions_here", "_law_gap", "_law_rounds", "_law_state", "_law_words", "_law_counts", "_law_marks", "_law_moment", "_law_row", "_law_action", "_law_at", "_law_mark_here", "_law_first", "_law_period", "_law_times", "_law_rest", "_law_k"]
theorem sc_far : FnScope nFar ["_law_rules_here", "_law_actions_here", "_law_gap", "_law_rounds"] (fnScope (top 56)) := fnScope_by (by decide +kernel)
def rowV (rs : List TL.Rule) (g : Int) (acts : List Act) (k : Nat) : List V := tolds.map fun t => V.int (lcount rs g acts k t)
def spFar (P : Program) (w : World) (K : PySem.W.Frag) : Sp := fun vs H Q _ => ∃ (lr la : Addr) (g : Int) (R : Nat) (rs : List TL.Rule) (acts : List Act) (mk : Nat → Str), vs = [.ref lr, .ref la, .int g, .int R] ∧ RulesL K rs lr H ∧ (∀ r ∈ rs, RuleOk r) ∧ rs.length ≤ 3 ∧ ActsAt K acts la H ∧ acts ≠ [] ∧ (∀ a ∈ acts, ActIn a) ∧ R < 2 ^ 62 ∧
  (∀ n, Fair rs (lrun rs g acts (n * acts.length)) (((n * acts.length : Nat) : Int) * g)) ∧
  (∀ n ys, ys.Perm (marksOf rs (lrun rs g acts (n * acts.length)) (((n * acts.length : Nat) : Int) * g)) → sortedS ys = true → Txt.join " " ys = mk n) ∧
  (∀ n, (∀ i j, i < j → j < n → mk i ≠ mk j) → n < sizeLine) ∧
  (∀ i n, i < n → i ≤ R → mk i = mk n → ∀ u, lcount rs g acts (R * acts.length) u = lcount rs g acts ((i + (R - i) % (n - i)) * acts.length) u + (((R - i) / (n - i) : Nat) : Int) * (lcount rs g acts (n * acts.length) u - lcount rs g acts (i * acts.length) u)) ∧
  ∀ p H', Ex H H' → H' p = some (.lst (rowV rs g acts (R * acts.length))) → Q (.ref p) H'
def FarS (H : Hp) (lw lc lm : Addr) (rs : List TL.Rule) (g : Int) (acts : List Act) (mk : Nat → Str) (a b : Nat) (rows : List Addr) (H' : Hp) : Prop :=
  Ex H H' ∧ H' lw = some (.lst (tolds.map fun t => V.str (wordOf t))) ∧ H' lc = some (.lst (rows.map V.ref)) ∧ rows.length = a ∧ H' lm = some (.lst ((List.range b).map fun i => V.str (mk i))) ∧ ∀ i q, rows[i]? = some q → H' q = some (.lst (rowV rs g acts (i * acts.length))) ∧ q ≠ lw ∧ q ≠ lc ∧ q ≠ lm
section
variable {H H' H2 : Hp} {lw lc lm d : Addr} {rs : List TL.Rule} {g : Int} {acts : List Act} {mk : Nat → Str} {a b : Nat} {rows : List Addr}
theorem FarS.ex (h : FarS H lw lc lm rs g acts mk a b rows H') (e : Ex H' H2) : FarS H lw lc lm rs g acts mk a b rows H2 := by
  obtain ⟨h1, h2, h3, h4, h5, h6⟩ := h
  exact ⟨h1.trans e, e _ _ h2, e _ _ h3, h4, e _ _ h5, fun i q hq => let ⟨g1, g2⟩ := h6 i q hq; ⟨e _ _ g1, g2⟩⟩
theorem FarS.B (h : FarS H lw lc lm rs g acts mk a b rows H') (hd : H d = none) (hdo : ∃ ent, H' d = some (NDO P w d ent)) (e : ExB d H' H2) : FarS H lw lc lm rs g acts mk a b rows H2 := by
  obtain ⟨h1, h2, h3, h4, h5, h6⟩ := h
  obtain ⟨ent, hdo⟩ := hdo
  have k : ∀ {q : Addr} {xs : List V}, H' q = some (.lst xs) → H2 q = some (.lst xs) := fun hq => e _ _ (ne_of hq hdo fun z => by cases z) hq
  exact ⟨ex_B h1 e hd, k h2, k h3, h4, k h5, fun i q hq => let ⟨g1, g2⟩ := h6 i q hq; ⟨k g1, g2⟩⟩
theorem FarS.row {q : Addr} {o : HO} (h : FarS H lw lc lm rs g acts mk a b rows H') (hq : H q = none) (n1 : q ≠ lw) (n2 : q ≠ lc) (n3 : q ≠ lm) (n4 : q ∉ rows) : FarS H lw lc lm rs g acts mk a b rows (upd H' q o) := by
  obtain ⟨h1, h2, h3, h4, h5, h6⟩ := h
  refine ⟨Ex.mut h1 hq, by rw [upd_ne (Ne.symm n1)]; exact h2, by rw [upd_ne (Ne.symm n2)]; exact h3, h4, by rw [upd_ne (Ne.symm n3)]; exact h5, fun i z hz => ?_⟩
  obtain ⟨g1, g2⟩ := h6 i z hz
  exact ⟨by rw [upd_ne (fun e => n4 (by rw [← e]; exact List.mem_of_getElem? hz))]; exact g1, g2⟩
theorem FarS.addRow {q : Addr} (h : FarS H lw lc lm rs g acts mk a b rows H') (hc : H lc = none) (m1 : lc ≠ lw) (m2 : lc ≠ lm) (hq : H' q = some (.lst (rowV rs g acts (a * acts.length)))) (n1 : q ≠ lw) (n2 : q ≠ lc) (n3 : q ≠ lm) : FarS H lw lc lm rs g acts mk (a + 1) b (rows ++ [q]) (upd H' lc (.lst (rows.map V.ref ++ [.ref q]))) := by
  obtain ⟨h1, h2, h3, h4, h5, h6⟩ := h
  refine ⟨Ex.mut h1 hc, by rw [upd_ne (Ne.symm m1)]; exact h2, by rw [upd_same, List.map_append]; rfl, by rw [List.length_append, h4]; rfl, by rw [upd_ne (Ne.symm m2)]; exact h5, fun i z hz => ?_⟩
  by_cases hi : i < rows.length
  · rw [List.getElem?_append_left hi] at hz
    obtain ⟨g1, g2, g3, g4⟩ := h6 i z hz
    exact ⟨by rw [upd_ne g3]; exact g1, g2, g3, g4⟩
  · rw [List.getElem?_append_right (by omega)] at hz
    have hi0 : i - rows.length = 0 := by
      cases hk : i - rows.length with
      | zero => rfl
      | succ k => rw [hk] at hz; cases hz
    rw [hi0] at hz
    cases hz
    have hia : i = a := by omega
    subst hia
    exact ⟨by rw [upd_ne n2]; exact hq, n1, n2, n3⟩
theorem FarS.addMark (h : FarS H lw lc lm rs g acts mk a b rows H') (hm : H lm = none) (m1 : lm ≠ lw) (m2 : lm ≠ lc) : FarS H lw lc lm rs g acts mk a (b + 1) rows (upd H' lm (.lst ((List.range b).map (fun i => V.str (mk i)) ++ [.str (mk b)]))) := by
  obtain ⟨h1, h2, h3, h4, h5, h6⟩ := h
  refine ⟨Ex.mut h1 hm, by rw [upd_ne (Ne.symm m1)]; exact h2, by rw [upd_ne (Ne.symm m2)]; exact h3, h4, by rw [upd_same, List.range_succ, List.map_append]; rfl, fun i z hz => ?_⟩
  obtain ⟨g1, g2, g3, g4⟩ := h6 i z hz
  exact ⟨by rw [upd_ne g4]; exact g1, g2, g3, g4⟩
end
theorem q_appZ {σ : L2.St} {H : Hp} {ta te : TE} {tz : TS} {D : Ends} {v : V} {l : Addr} {xs : List V} (hl : H l = some (.lst xs)) (ha : Ev ta σ H (.ref l)) (h : Ev te σ H v) (hz : xs.length < sizeLine) (k : ∀ H1, Ex H H1 → tz D σ (upd H1 l (.lst (xs ++ [v])))) : tSeq (tDrop (tBM K "list" rAppend ta (tCons te tNil))) tz D σ H := ha H (Ex.refl H) _ fun H1 e1 =>
  ⟨Or.inl ⟨rfl, xs, sq_of (e1 l _ hl)⟩, h H1 e1 _ fun H2 e2 => ⟨l, xs, v, rfl, rfl, e2 l _ (e1 l _ hl), hz, k H2 (e1.trans e2)⟩⟩
theorem s_appZ {σ : L2.St} {H : Hp} {ta te : TE} {D : Ends} {v : V} {l : Addr} {xs : List V} (hl : H l = some (.lst xs)) (ha : Ev ta σ H (.ref l)) (h : Ev te σ H v) (hz : xs.length < sizeLine) (k : ∀ H1, Ex H H1 → D.nx σ (upd H1 l (.lst (xs ++ [v])))) : tDrop (tBM K "list" rAppend ta (tCons te tNil)) D σ H := ha H (Ex.refl H) _ fun H1 e1 =>
  ⟨Or.inl ⟨rfl, xs, sq_of (e1 l _ hl)⟩, h H1 e1 _ fun H2 e2 => ⟨l, xs, v, rfl, rfl, e2 l _ (e1 l _ hl), hz, k H2 (e1.trans e2)⟩⟩
theorem ev_mark {σ : L2.St} {H : Hp} {ta : TA} {lr d : Addr} {rs : List TL.Rule} {L : LSt} {t : Int} {x : Str} (h : EvA ta σ H [.ref lr, .ref d, .int t]) (hR : RulesL K rs lr H) (hL : LAt P w K L d H) (hok : LOk L) (hf : Fair rs L t) (hm : ∀ ys : List Str, ys.Perm (marksOf rs L t) → sortedS ys = true → Txt.join " " ys = x) : Ev (tCall (spMark P w K) [] C8.E0 ta) σ H (.str x) := fun H1 e Q q => h H1 e _ fun H2 e2 =>
  ⟨lr, d, rs, L, t, rfl, rulesL_st (e.trans e2) hR, lAt_st (e.trans e2) hL, hok, Nat.lt_of_le_of_lt (lok_len hok) (by decide), hf, fun ys x' H' e3 hp hs hx => by
    rw [hx, hm ys hp hs]
    exact q H' (e2.trans e3)⟩
/-- where a word stands -/
def posOf : Told → Nat
  | .tin => 0
  | .kept => 1
  | .none => 2
  | .opened => 3
  | .wrong => 4
theorem pos_at (t : Told) : tolds[posOf t]? = some t := by cases t <;> rfl
theorem row_set (rs : List TL.Rule) (g : Int) (acts : List Act) (k : Nat) : (rowV rs g acts k).set (posOf (ltold rs g acts k)) (.int (lcount rs g acts k (ltold rs g acts k) + 1)) = rowV rs g acts (k + 1) := by
  unfold rowV
  rw [lcount_succ]
  generalize ltold rs g acts k = t
  cases t <;> rfl
theorem row_get (rs : List TL.Rule) (g : Int) (acts : List Act) (k : Nat) (t : Told) : (rowV rs g acts k)[posOf t]? = some (.int (lcount rs g acts k t)) := by
  unfold rowV
  rw [List.getElem?_map, pos_at]
  rfl
end
end TL
/-! Trylocks, walk Bv: the law's far count, the walk. -/
namespace TL
open PySem PySem.Spec PyProof.Rows L2 Evl C8 RZ LamX NdefX
section
variable {P : Program} {w : World} {K : PySem.W.Frag} {mg : Str → Option Value} {base : Heap}
theorem lat_nd {L : LSt} {d : Addr} {H : Hp} (h : LAt P w K L d H) : ∃ ent, H d = some (NDO P w d ent) := let ⟨ent, h1, _⟩ := h; ⟨ent, h1⟩
theorem word_index (t : Told) : (tolds.map fun t => V.str (wordOf t))[posOf t]? = some (.str (wordOf t)) ∧ eqV (.str (wordOf t)) (.str (wordOf t)) = true ∧ ∀ (m : Nat) (z' : V), m < posOf t → (tolds.map fun t => V.str (wordOf t))[m]? = some z' → eqV z' (.str (wordOf t)) = false := by
  refine ⟨by cases t <;> rfl, beq_self_eq_true _, fun m z' hm hz => ?_⟩
  have h4 : posOf t ≤ 4 := by cases t <;> decide
  match m, hm, hz with
  | 0, hm, hz => cases hz; cases t <;> first | (exact absurd hm (by decide)) | decide
  | 1, hm, hz => cases hz; cases t <;> first | (exact absurd hm (by decide)) | decide
  | 2, hm, hz => cases hz; cases t <;> first | (exact absurd hm (by decide)) | decide
  | 3, hm, hz => cases hz; cases t <;> first | (exact absurd hm (by decide)) | decide
  | m + 4, hm, hz => omega
theorem inV_marks {mk : Nat → Str} {x : Str} {m : Nat} : inV (.str x) ((List.range m).map fun i => V.str (mk i)) = true ↔ ∃ i, i < m ∧ mk i = x := by
  unfold inV
  rw [List.any_eq_true]
  constructor
  · rintro ⟨y, hy, he⟩
    obtain ⟨i, hi, rfl⟩ := List.mem_map.mp hy
    exact ⟨i, List.mem_range.mp hi, beq_iff_eq.mp he⟩
  · rintro ⟨i, hi, he⟩
    exact ⟨_, List.mem_map.mpr ⟨i, List.mem_range.mpr hi, rfl⟩, beq_iff_eq.mpr he⟩
theorem flat_marks {mk : Nat → Str} {m : Nat} : (((List.range m).map fun i => V.str (mk i))).all flatV = true := by
  rw [List.all_map, List.all_eq_true]
  intro x _
  rfl
theorem mark_get {mk : Nat → Str} {m i : Nat} (h : i < m) : ((List.range m).map fun i => V.str (mk i))[i]? = some (.str (mk i)) := by
  rw [List.getElem?_map, List.getElem?_range h]
  rfl
theorem cons1 {te : TE} {σ : L2.St} {H : Hp} {k : List V → Hp → Prop} (h : te σ H fun v H1 => k [v] H1) : tCons te tNil σ H k := h
theorem lst1 {te : TE} {σ : L2.St} {H : Hp} {Q : VK} (h : te σ H fun v H1 => 1 ≤ sizeLine ∧ ∀ p, H1 p = none → Q (.ref p) (upd H1 p (.lst [v]))) : tLst (tCons te tNil) σ H Q := h
theorem c_far (T : Tx K mg) (W : Tw K mg) (DM : DefB K mg "_law_mark" (top 55) ["_law_rules_here", "_law_state", "_law_moment"]) (D : DefB K mg "_law_far" (top 56) ["_law_rules_here", "_law_actions_here", "_law_gap", "_law_rounds"]) : CalG P w K mg base 4 "_law_far" (spFar P w K) := by
  have cNew := c_newL (P := P) (w := w) (base := base) T W.new
  have cDo := c_do (P := P) (w := w) (base := base) T W
  have cMk := c_mark (P := P) (w := w) (base := base) T W DM
  refine calTG D sc_far (fun vs H Q E h => ?_) (fun f cdv A outer s H vs Q hg hr h => ?_)
  · obtain ⟨lr, la, g, R, rs, acts, mk, rfl, _⟩ := h
    rfl
  · obtain ⟨lr, la, g, R, rs, acts, mk, rfl, hR, hro, hrl, hA, hne, hin, hR62, hfair, hmk, hB, hfar, k⟩ := h
    have nd := sc_far.nd
    refine ⟨_, pss_cons (ps_set (i := 4) nd rfl (.inl rfl) (pe_c0 cNew hr (by decide) rfl))
      (pss_cons (ps_set (i := 5) nd rfl (.inl rfl) (pe_lst (pa_cons pe_str (pa_cons pe_str (pa_cons pe_str (pa_cons pe_str (pa_cons pe_str pa_nil)))))))
      (pss_cons (ps_set (i := 6) nd rfl (.inr rfl) (pe_lst (pa_cons (pe_lst (pa_cons pe_int (pa_cons pe_int (pa_cons pe_int (pa_cons pe_int (pa_cons pe_int pa_nil)))))) pa_nil)))
      (pss_cons (ps_set (i := 7) nd rfl (.inl rfl) (pe_lst (pa_cons (pe_cG cMk hg hr (by decide) rfl (pa_cons (pv 0) (pa_cons (pv 4) (pa_cons pe_int pa_nil)))) pa_nil)))
      (pss_cons (ps_set (i := 8) nd rfl (.inl rfl) pe_int)
      (pss_cons (ps_while PassesOwn.never (pt_cmpR op_le (pe_callB call_len_seq rfl (T.fr "len") boot_len (pa_cons (pv 7) pa_nil)) (pv 3) (nomark _))
        (pss_cons (ps_set (i := 9) nd rfl (.inr rfl) (pe_callTy (r := rListS K) call_list_of rfl (T.fr "list") (by decide +kernel) (pa_cons (pe_ix ix_list (pv 6) (pe_un un_neg pe_int) (fun _ _ => rfl)) pa_nil)))
        (pss_cons (ps_for PassesOwn.never rfl (pi_list (pv 1)) (pg_name (i := 10) nd rfl (.inl rfl))
          (pss_cons (ps_set (i := 11) nd rfl (.inl rfl) (pe_bm PySem.F.plainAttrs_list PySem.F.slot_list_index PySem.F.type_list_index mt_index (pv 5) (pa_cons (pe_c cDo hr (by decide) rfl (pa_cons (pv 0) (pa_cons (pv 4) (pa_cons (pv 8) (pa_cons (pv 10) pa_nil))))) pa_nil)))
          (pss_cons (ps_asg (pe_op op_add (pe_ix ix_list (pv 9) (pv 11) (fun _ _ => rfl)) pe_int) (pg_sub (pv 9) (pv 11) set_list (fun _ => rfl)))
          (pss_one (ps_set (i := 8) nd rfl (.inl rfl) (pe_op op_add (pv 8) (pv 2)))))))
        (pss_cons (ps_expr (pe_bm PySem.F.plainAttrs_list PySem.F.slot_list_append PySem.F.type_list_append mt_append (pv 6) (pa_cons (pv 9) pa_nil)))
        (pss_cons (ps_set (i := 12) nd rfl (.inl rfl) (pe_cG cMk hg hr (by decide) rfl (pa_cons (pv 0) (pa_cons (pv 4) (pa_cons (pv 8) pa_nil)))))
        (pss_cons (ps_if (pt_cmpR op_in_seq (pv 12) (pv 7) (by rfl))
          (pss_cons (ps_set (i := 13) nd rfl (.inr rfl) (pe_bm PySem.F.plainAttrs_list PySem.F.slot_list_index PySem.F.type_list_index mt_index (pv 7) (pa_cons (pv 12) pa_nil)))
          (pss_cons (ps_set (i := 14) nd rfl (.inl rfl) (pe_op op_sub (pe_callB call_len_seq rfl (T.fr "len") boot_len (pa_cons (pv 7) pa_nil)) (pv 13)))
          (pss_cons (ps_set (i := 15) nd rfl (.inr rfl) (pe_op op_fdivW (pe_op op_sub (pv 3) (pv 13)) (pv 14)))
          (pss_cons (ps_set (i := 16) nd rfl (.inr rfl) (pe_ix ix_list (pv 6) (pe_op op_add (pv 13) (pe_op op_mod (pe_op op_sub (pv 3) (pv 13)) (pv 14))) (fun _ _ => rfl)))
          (pss_one (ps_ret (pe_lc (own := [("_law_k", 17)]) (g := gName 17) (tt := tYes) (wi := iRng1 _) rfl nd (pi_range1 rfl (T.fr "range") (pa_cons pe_int pa_nil))
            (blkOk_by (N := nFar) (sc := fnScope (top 56)) (by decide +kernel)) (fun _ _ _ _ _ => pg_name (i := 17) nd rfl (Or.inl rfl)) (fun _ _ _ _ _ => pts_nil)
            (fun _ _ _ _ _ => pe_op op_add (pe_ix (r := rIxL K) ix_list (pv 16) (pv 17) (fun _ _ => rfl)) (pe_op op_mul (pv 15) (pe_op op_sub (pe_ix (r := rIxL K) ix_list (pv 9) (pv 17) (fun _ _ => rfl)) (pe_ix (r := rIxL K) ix_list (pe_ix (r := rIxL K) ix_list (pv 6) (pv 13) (fun _ _ => rfl)) (pv 17) (fun _ _ => rfl)))))))))))) pss_nil)
        (pss_one (ps_expr (pe_bm PySem.F.plainAttrs_list PySem.F.slot_list_append PySem.F.type_list_append mt_append (pv 7) (pa_cons (pv 12) pa_nil))))))))))
      (pss_one (ps_ret (pe_ix ix_list (pv 6) (pv 3) (fun _ _ => rfl))))))))), ?_⟩
    have hs : L2.start nFar [.ref lr, .ref la, .int g, .int R] = [some (.ref lr), some (.ref la), some (.int g), some (.int R), none, none, none, none, none, none, none, none, none, none, none, none, none, none] := rfl
    rw [hs]
    obtain ⟨avs, hAL, hAP⟩ := id hA
    have hal : avs.length = acts.length := Paired.length hAP
    have hpos : 0 < acts.length := List.length_pos_iff.mpr hne
    refine q_asgNew (R := fun d H1 => LAt P w K [] d H1) (fun Q q => ⟨rfl, fun d H' e hd hL => q d H' hd e hL⟩) fun d H1 hd e1 hL1 => ?_
    refine q_asgL (el_lst (vs := tolds.map fun t => V.str (wordOf t)) (ea_cons ev_c (ea_cons ev_c (ea_cons ev_c (ea_cons ev_c (ea_cons ev_c ea_nil))))) (by decide)) fun lw H2 hlw e2 hlw2 => ?_
    refine q_asgP (R := fun v H4 => ∃ p0 lc, v = .ref lc ∧ H2 p0 = none ∧ H2 lc = none ∧ lc ≠ p0 ∧ Ex H2 H4 ∧ H4 p0 = some (.lst (rowV rs g acts 0)) ∧ H4 lc = some (.lst [.ref p0])) (fun Q q => lst1 (
      el_lst (vs := [V.int 0, V.int 0, V.int 0, V.int 0, V.int 0]) (ea_cons ev_c (ea_cons ev_c (ea_cons ev_c (ea_cons ev_c (ea_cons ev_c ea_nil))))) (by decide) H2 (Ex.refl H2) _ fun p0 H3 hp0 e3 h3 => ⟨by decide, fun p1 hp1 =>
        have hne1 : p1 ≠ p0 := fun z => by rw [z, h3] at hp1; cases hp1
        q (.ref p1) _ ⟨p0, p1, rfl, hp0, none_of_ex e3 hp1, hne1, e3.trans (Ex.new hp1), by rw [upd_ne (Ne.symm hne1)]; exact h3, upd_same⟩⟩)) fun v H4 ⟨p0, lc, ev, hp0, hlc, hcp, e4, h4p, h4c⟩ => ?_
    subst ev
    have f0 := hfair 0
    have m0 := hmk 0
    rw [Nat.zero_mul, show ((0 : Nat) : Int) * g = 0 from Int.zero_mul g] at f0 m0
    have e14 := e2.trans e4
    refine q_asgL (el_lst (vs := [V.str (mk 0)]) (ea_cons (ev_mark (ea_cons (ev_var rfl) (ea_cons (ev_var rfl) (ea_cons ev_c ea_nil))) (rulesL_st (e1.trans e14) hR) (lAt_st e14 hL1) lok_nil f0 m0) ea_nil) (by show 1 ≤ 100000; decide)) fun lm H5 hlm e5 h5m => ?_
    have e05 := (e1.trans e14).trans e5
    have nlw : H lw = none := none_of_ex e1 hlw
    have nlc : H lc = none := none_of_ex (e1.trans e2) hlc
    have nlm : H lm = none := none_of_ex (e1.trans e14) hlm
    have np0 : H p0 = none := none_of_ex (e1.trans e2) hp0
    have d1 : lw ≠ lc := fun z => by rw [← z, hlw2] at hlc; cases hlc
    have d2 : lw ≠ lm := fun z => by
      have q := e4 _ _ hlw2
      rw [z, hlm] at q
      cases q
    have d3 : lc ≠ lm := fun z => by rw [z, hlm] at h4c; cases h4c
    have d4 : p0 ≠ lw := fun z => by rw [z, hlw2] at hp0; cases hp0
    have d5 : p0 ≠ lm := fun z => by rw [z, hlm] at h4p; cases h4p
    have F0 : FarS H lw lc lm rs g acts mk 1 1 [p0] H5 := ⟨e05, e5 _ _ (e4 _ _ hlw2), e5 _ _ h4c, rfl, h5m, fun i q hq => by
      cases i with
      | zero =>
        cases hq
        rw [Nat.zero_mul]
        exact ⟨e5 _ _ h4p, d4, Ne.symm hcp, d5⟩
      | succ i => cases hq⟩
    have L0 : LAt P w K (lrun rs g acts 0) d H5 := lAt_st (e14.trans e5) hL1
    refine q_asg ev_c fun H6 e6 => ?_
    show tSeq _ _ _ [some (.ref lr), some (.ref la), some (.int g), some (.int R), some (.ref d), some (.ref lw), some (.ref lc), some (.ref lm), some (.int 0), none, none, none, none, none, none, none, none, none] H6
    refine q_while (W := fun me σ' H' => ∃ (n : Nat) (rows : List Addr) (u9 u10 u11 u12 u13 u14 u15 u16 u17 : Option V), me = R - n ∧ n ≤ R ∧ σ' = [some (.ref lr), some (.ref la), some (.int g), some (.int R), some (.ref d), some (.ref lw), some (.ref lc), some (.ref lm), some (.int (((n * acts.length : Nat) : Int) * g)), u9, u10, u11, u12, u13, u14, u15, u16, u17] ∧
        FarS H lw lc lm rs g acts mk (n + 1) (n + 1) rows H' ∧ LAt P w K (lrun rs g acts (n * acts.length)) d H' ∧ ∀ i j, i < j → j < n + 1 → mk i ≠ mk j) (m0 := R - 0)
      ⟨0, [p0], none, none, none, none, none, none, none, none, none, rfl, Nat.zero_le _, by rw [Nat.zero_mul, show ((0 : Nat) : Int) * g = 0 from Int.zero_mul g], F0.ex e6, by rw [Nat.zero_mul]; exact lAt_st e6 L0, fun i j h1 h2 => by omega⟩ ?_
    rintro me σ' H7 ⟨n, rows, u9, u10, u11, u12, u13, u14, u15, u16, u17, hme, hnR, rfl, F7, L7, inj⟩
    have hlen : ((List.range (n + 1)).map fun i => V.str (mk i)).length = n + 1 := by rw [List.length_map, List.length_range]
    refine ⟨decide (n + 1 ≤ R), et_is (et_test (ev_op (ev_is (ev_lenS (K := K) (ev_var rfl) (sq_of F7.2.2.2.2.1)) (w := .int ((n + 1 : Nat) : Int)) (by rw [hlen])) (ev_var rfl) rv_I0)) (by
      by_cases z : n + 1 ≤ R
      · rw [decide_eq_true z]; exact decide_eq_true (by omega)
      · rw [decide_eq_false z]; exact decide_eq_false (by omega)), fun hb H8 e8 => ?_, fun hb H8 e8 => ?_⟩
    · have hlt : n + 1 ≤ R := of_decide_eq_true hb
      have F8 := F7.ex e8
      have L8 := lAt_st e8 L7
      obtain ⟨c1, c2, c3, c4, c5, c6⟩ := id F8
      have hr : n < rows.length := by omega
      obtain ⟨q0, hq0⟩ : ∃ q0, rows[n]? = some q0 := ⟨_, List.getElem?_eq_getElem hr⟩
      obtain ⟨qr1, qr2⟩ := c6 n q0 hq0
      have hsnoc : rows = rows.take n ++ [q0] := by rw [← take_next hq0, ← c4, List.take_length]
      have hlast : atI (rows.map V.ref) (-1) = some (.ref q0) := by
        have e : rows.map V.ref = (rows.take n).map V.ref ++ [V.ref q0] := by
          have z := congrArg (List.map V.ref) hsnoc
          rw [List.map_append] at z
          exact z
        rw [e]
        exact atI_last _ _
      refine ⟨fun σ2 H2 => ∃ m', m' < me ∧ ∃ (n : Nat) (rows : List Addr) (u9 u10 u11 u12 u13 u14 u15 u16 u17 : Option V), m' = R - n ∧ n ≤ R ∧ σ2 = [some (.ref lr), some (.ref la), some (.int g), some (.int R), some (.ref d), some (.ref lw), some (.ref lc), some (.ref lm), some (.int (((n * acts.length : Nat) : Int) * g)), u9, u10, u11, u12, u13, u14, u15, u16, u17] ∧
        FarS H lw lc lm rs g acts mk (n + 1) (n + 1) rows H2 ∧ LAt P w K (lrun rs g acts (n * acts.length)) d H2 ∧ ∀ i j, i < j → j < n + 1 → mk i ≠ mk j, fun σ2 H2 z => z, ?_⟩
      refine q_asgL (el_list (ev_ixL (ev_var rfl) (ev_un ev_c ru_neg) (sq_of c3) hlast) (sq_of qr1)) fun q H9 hq9 e9 hq => ?_
      have F9 := F8.ex e9
      have L9 := lAt_st e9 L8
      have nq : H q = none := none_of_ex c1 hq9
      have n1 : q ≠ lw := fun z => by rw [z, c2] at hq9; cases hq9
      have n2 : q ≠ lc := fun z => by rw [z, c3] at hq9; cases hq9
      have n3 : q ≠ lm := fun z => by rw [z, c5] at hq9; cases hq9
      have n4 : q ∉ rows := fun hm => by
        obtain ⟨i, hi⟩ := List.mem_iff_getElem?.mp hm
        rw [(c6 i q hi).1] at hq9
        cases hq9
      show tSeq _ _ _ [some (.ref lr), some (.ref la), some (.int g), some (.int R), some (.ref d), some (.ref lw), some (.ref lc), some (.ref lm), some (.int (((n * acts.length : Nat) : Int) * g)), some (.ref q), u10, u11, u12, u13, u14, u15, u16, u17] H9
      refine q_forLn (K := K) (a := la) (xs := avs) (ev_var rfl) (ex_l F9.1 hAL) (fun i σ' H' => ∃ (u10 u11 u12 u13 u14 u15 u16 u17 : Option V), σ' = [some (.ref lr), some (.ref la), some (.int g), some (.int R), some (.ref d), some (.ref lw), some (.ref lc), some (.ref lm), some (.int (((n * acts.length + i : Nat) : Int) * g)), some (.ref q), u10, u11, u12, u13, u14, u15, u16, u17] ∧
          FarS H lw lc lm rs g acts mk (n + 1) (n + 1) rows H' ∧ LAt P w K (lrun rs g acts (n * acts.length + i)) d H' ∧ H' q = some (.lst (rowV rs g acts (n * acts.length + i))))
        (fun H10 e10 => ⟨_, _, _, _, _, _, _, _, rfl, F9.ex e10, lAt_st e10 L9, e10 _ _ hq⟩) (fun i σ' H' _ ⟨_, _, _, _, _, _, _, _, _, hF, _⟩ => ex_l hF.1 hAL) ?_ ?_
      · rintro i x σ' H10 hx ⟨v10, v11, v12, v13, v14, v15, v16, v17, rfl, F10, L10, hq10⟩
        obtain ⟨act, ha1, ha2⟩ := paired_get hAP hx
        have hiT : i < acts.length := (List.getElem?_eq_some_iff.mp ha1).1
        have hmod : (n * acts.length + i) % acts.length = i := by rw [Nat.add_comm, Nat.add_mul_mod_self_right, Nat.mod_eq_of_lt hiT]
        have hact : acts.getD ((n * acts.length + i) % acts.length) .none = act := by rw [hmod, List.getD_eq_getElem?_getD, ha1]; rfl
        have hkk : n * acts.length + (i + 1) = n * acts.length + i + 1 := rfl
        rw [hkk]
        have hok := lok_run hrl hin (n * acts.length + i) (gap := g)
        generalize n * acts.length + i = kk at hact hok L10 hq10 hkk ⊢
        have ht1 : (doL rs (lrun rs g acts kk) ((kk : Int) * g) act).1 = ltold rs g acts kk := by rw [← hact]; rfl
        have ht2 : (doL rs (lrun rs g acts kk) ((kk : Int) * g) act).2 = lrun rs g acts (kk + 1) := by rw [← hact]; rfl
        obtain ⟨w1, w2, w3⟩ := word_index (ltold rs g acts kk)
        refine q_asgP (R := fun v H11 => v = .int ((posOf (ltold rs g acts kk) : Nat) : Int) ∧ ExB d H10 H11 ∧ LAt P w K (lrun rs g acts (kk + 1)) d H11) (fun Qq qq => ⟨_, rfl, .inl ⟨rfl, _, sq_of F10.2.1⟩,
          cons1 <| (ea_cons (ev_var rfl) (ea_cons (ev_var rfl) (ea_cons (ev_var rfl) (ea_cons (ev_var rfl) ea_nil)))) H10 (Ex.refl H10) _ fun H11 e11 => ⟨lr, d, (kk : Int) * g, x, rs, lrun rs g acts kk, act, rfl, rulesL_st (F10.1.trans e11) hR, hro, hrl, lAt_st e11 L10, actAt_T _ _ _ (exT (F10.1.trans e11)) ha2, Nat.le_trans (lok_len hok) (by decide), hok.2.2, fun H12 e12 hL12 => by
            rw [ht1]
            rw [ht2] at hL12
            exact ⟨lw, _, .str (wordOf (ltold rs g acts kk)), posOf (ltold rs g acts kk), _, rfl, rfl, sq_of ((F10.ex e11).B hd (lat_nd (lAt_st e11 L10)) e12).2.1, rfl, rfl, w1, w2, w3, qq _ _ ⟨rfl, (ExB.of e11).trans e12, hL12⟩⟩⟩⟩) fun v H11 ⟨ev, e11, L11⟩ => ?_
        subst ev
        have F11 := F10.B hd (lat_nd L10) e11
        obtain ⟨ent, hent⟩ := lat_nd L10
        have hqd : q ≠ d := ne_of hq10 hent fun z => by cases z
        have hq11 := e11 _ _ hqd hq10
        refine q_setL (xs := rowV rs g acts kk) (k := ((posOf (ltold rs g acts kk) : Nat) : Int)) (j := posOf (ltold rs g acts kk)) (ev_add (ev_ixL (ev_var rfl) (ev_var rfl) (sq_of hq11) (atI_nat (row_get rs g acts kk _))) ev_c) (ev_var rfl) (ev_var rfl) hq11 (ixN_nat (List.getElem?_eq_some_iff.mp (row_get rs g acts kk _)).1) fun H12 e12 => ?_
        rw [row_set]
        have F12 := (F11.ex e12).row (o := .lst (rowV rs g acts (kk + 1))) nq n1 n2 n3 n4
        have em : ((kk + 1 : Nat) : Int) * g = (kk : Int) * g + g := by rw [show ((kk + 1 : Nat) : Int) = (kk : Int) + 1 by omega, Int.add_mul, Int.one_mul]
        exact s_asg (v := .int (((kk + 1 : Nat) : Int) * g)) (ev_is (ev_add (ev_var rfl) (ev_var rfl)) (by rw [em])) fun H13 e13 => ⟨_, _, _, _, _, _, _, _, rfl, F12.ex e13, lAt_st e13 (lat_upd (lAt_st e12 L11) (e12 _ _ hq11) rfl hqd), e13 _ _ upd_same⟩
      · rintro σ' H10 ⟨v10, v11, v12, v13, v14, v15, v16, v17, rfl, F10, L10, hq10⟩
        have eT : n * acts.length + avs.length = (n + 1) * acts.length := by rw [hal, Nat.add_mul, Nat.one_mul]
        rw [eT] at L10 hq10 ⊢
        have hz1 : n + 1 < sizeLine := hB (n + 1) inj
        refine q_appZ (l := lc) (xs := rows.map V.ref) F10.2.2.1 (ev_var rfl) (ev_var rfl) (by rw [List.length_map, c4]; exact hz1) fun H11 e11 => ?_
        have F11 := (F10.ex e11).addRow nlc (Ne.symm d1) d3 (e11 _ _ hq10) n1 n2 n3
        obtain ⟨ent, hent⟩ := lat_nd L10
        have hcd : lc ≠ d := ne_of F10.2.2.1 hent fun z => by cases z
        have L11 := lat_upd (u := .lst (rows.map V.ref ++ [.ref q])) (lAt_st e11 L10) (e11 _ _ F10.2.2.1) rfl hcd
        generalize upd H11 lc (.lst (rows.map V.ref ++ [.ref q])) = HU at F11 L11 ⊢
        have lok1 := lok_run hrl hin ((n + 1) * acts.length) (gap := g)
        refine q_asg (ev_mark (x := mk (n + 1)) (ea_cons (ev_var rfl) (ea_cons (ev_var rfl) (ea_cons (ev_var rfl) ea_nil))) (rulesL_st F11.1 hR) L11 lok1 (hfair (n + 1)) (hmk (n + 1))) fun H12 e12 => ?_
        have F12 := F11.ex e12
        have L12 := lAt_st e12 L11
        show tSeq _ _ _ [some (.ref lr), some (.ref la), some (.int g), some (.int R), some (.ref d), some (.ref lw), some (.ref lc), some (.ref lm), some (.int ((((n + 1) * acts.length : Nat) : Int) * g)), some (.ref q), v10, v11, some (.str (mk (n + 1))), v13, v14, v15, v16, v17] H12
        refine q_when (b := inV (.str (mk (n + 1))) ((List.range (n + 1)).map fun i => V.str (mk i))) (et_test (ev_op (ev_var rfl) (ev_var rfl) (rv_isL (sq_of F12.2.2.2.2.1) rfl flat_marks))) (fun hb H13 e13 => ?_) (fun hb H13 e13 => ?_)
        · obtain ⟨i0, hi0, he0⟩ := inV_marks.mp hb
          have F13 := F12.ex e13
          have hzl : n + 1 - i0 < 2 ^ 24 := Nat.lt_of_le_of_lt (Nat.sub_le _ _) hz1
          have hp1 : 0 < n + 1 - i0 := by omega
          have hiR : i0 ≤ R := by omega
          have heq : mk i0 = mk (n + 1) := he0
          have FF := hfar i0 (n + 1) hi0 hiR heq
          refine q_asg (v := .int ((i0 : Nat) : Int)) (fun H1 e Q q => ⟨_, rfl, .inl ⟨rfl, _, sq_of (e _ _ F13.2.2.2.2.1)⟩, _, rfl, ⟨lm, _, _, i0, _, rfl, rfl, sq_of (e _ _ F13.2.2.2.2.1), rfl, flat_marks, mark_get hi0, beq_iff_eq.mpr he0, fun m z' hm hz => by
            rw [mark_get (by omega)] at hz
            cases hz
            exact beq_eq_false_iff_ne.mpr fun z => inj m i0 hm hi0 (z.trans he0.symm), q H1 (Ex.refl H1)⟩⟩) fun H14 e14 => ?_
          have F14 := F13.ex e14
          refine q_asg (v := .int ((n + 1 - i0 : Nat) : Int)) (ev_is (ev_sub (ev_lenS (K := K) (ev_var rfl) (sq_of F14.2.2.2.2.1)) (ev_var rfl)) (by rw [hlen]; congr 1; omega)) fun H15 e15 => ?_
          have F15 := F14.ex e15
          refine q_asg (v := .int (((R - i0) / (n + 1 - i0) : Nat) : Int)) (ev_is (ev_op (ev_sub (ev_var rfl) (ev_var rfl)) (ev_var rfl) (rv_I (wide_div (b := 24) (by omega) (by omega) (by decide) (by decide)))) (by
            rw [show (R : Int) - (i0 : Int) = ((R - i0 : Nat) : Int) by omega]
            rfl)) fun H16 e16 => ?_
          have F16 := F15.ex e16
          have hidx : i0 + (R - i0) % (n + 1 - i0) < n + 2 := by have := Nat.mod_lt (R - i0) hp1; omega
          have hlen2 : (rows ++ [q]).length = n + 2 := F16.2.2.2.1
          obtain ⟨rr, hrr⟩ : ∃ rr, (rows ++ [q])[i0 + (R - i0) % (n + 1 - i0)]? = some rr := ⟨_, List.getElem?_eq_getElem (by omega)⟩
          obtain ⟨r0, hr0⟩ : ∃ r0, (rows ++ [q])[i0]? = some r0 := ⟨_, List.getElem?_eq_getElem (by omega)⟩
          have get : ∀ {j : Nat} {z : Addr}, (rows ++ [q])[j]? = some z → atI ((rows ++ [q]).map V.ref) (j : Int) = some (.ref z) := fun h => atI_nat (by rw [List.getElem?_map, h]; rfl)
          refine q_asg (v := .ref rr) (ev_ixL (i := ((i0 + (R - i0) % (n + 1 - i0) : Nat) : Int)) (ev_var rfl) (ev_is (ev_add (ev_var rfl) (ev_op (ev_sub (ev_var rfl) (ev_var rfl)) (ev_var rfl) (rv_I (by omega)))) (by
            rw [show (R : Int) - (i0 : Int) = ((R - i0 : Nat) : Int) by omega]
            rfl)) (sq_of F16.2.2.1) (get hrr)) fun H17 e17 => ?_
          have F17 := F16.ex e17
          obtain ⟨hrr1, _⟩ := F17.2.2.2.2.2 _ _ hrr
          obtain ⟨hr01, _⟩ := F17.2.2.2.2.2 _ _ hr0
          have hq17 : H17 q = some (.lst (rowV rs g acts ((n + 1) * acts.length))) := (F17.2.2.2.2.2 (n + 1) q (by rw [List.getElem?_append_right (by omega)]; rw [c4, Nat.sub_self]; rfl)).1
          refine el_lcR1 (n := 5) (fun _ => true) (fun i => (rowV rs g acts (R * acts.length)).getD i .non) (ea_cons ev_c ea_nil) (by decide) (fun x => rfl) (fun i H1 e hi H2 e2 Q qq => qq H2 (Ex.refl H2)) (fun i H1 e hi _ => ?_) H17 (Ex.refl H17) _ fun p H18 hp e18 hl => k p H18 (F17.1.trans e18) hl
          obtain ⟨t, ht⟩ : ∃ t, tolds[i]? = some t := ⟨_, List.getElem?_eq_getElem (by show i < 5; omega)⟩
          have rg : ∀ kk, (rowV rs g acts kk)[i]? = some (.int (lcount rs g acts kk t)) := fun kk => by
            unfold rowV
            rw [List.getElem?_map, ht]
            rfl
          have ix : ∀ {j : Nat} {z : Addr} {kk : Nat} {σ1 : L2.St} {te : TE}, Ev te σ1 H1 (.ref z) → H17 z = some (.lst (rowV rs g acts kk)) → σ1[17]? = some (some (.int (i : Int))) → Ev (tOp (rIxL K) te (tVar 17)) σ1 H1 (.int (lcount rs g acts kk t)) := fun h hz hi => ev_ixL h (ev_var hi) (sq_of (e _ _ hz)) (atI_nat (rg _))
          have hv : (rowV rs g acts (R * acts.length)).getD i .non = .int (lcount rs g acts (R * acts.length) t) := by rw [List.getD_eq_getElem?_getD, rg]; rfl
          rw [hv, FF t]
          have hsm : (R - i0) / (n + 1 - i0) < 2 ^ 62 := Nat.lt_of_le_of_lt (Nat.div_le_self _ _) (by omega)
          refine ev_add (ix (j := 0) (ev_var rfl) hrr1 rfl) (ev_op (ev_var rfl) (ev_sub (ix (j := 0) (ev_var rfl) hq17 rfl) (ix (j := 0) (ev_ixL (ev_var rfl) (ev_var rfl) (sq_of (e _ _ F17.2.2.1)) (get hr0)) hr01 rfl)) (rv_I (.inl ?_)))
          generalize (R - i0) / (n + 1 - i0) = z at hsm ⊢
          exact ⟨by omega, by omega⟩
        · have F13 := F12.ex e13
          have L13 := lAt_st e13 L12
          refine s_appZ (l := lm) F13.2.2.2.2.1 (ev_var rfl) (ev_var rfl) (by rw [hlen]; exact hz1) fun H14 e14 => ?_
          have F14 := (F13.ex e14).addMark nlm (Ne.symm d2) (Ne.symm d3)
          obtain ⟨ent2, hent2⟩ := lat_nd L13
          have hmd : lm ≠ d := ne_of F13.2.2.2.2.1 hent2 fun z => by cases z
          have L14 := lat_upd (u := .lst ((List.range (n + 1)).map (fun i => V.str (mk i)) ++ [.str (mk (n + 1))])) (lAt_st e14 L13) (e14 _ _ F13.2.2.2.2.1) rfl hmd
          refine ⟨R - (n + 1), by omega, n + 1, rows ++ [q], _, _, _, _, _, _, _, _, _, rfl, hlt, rfl, F14, L14, fun i j hij hj => ?_⟩
          by_cases hjn : j < n + 1
          · exact inj i j hij hjn
          · have ej : j = n + 1 := by omega
            subst ej
            intro ez
            have q2 := inV_marks.mpr ⟨i, hij, ez⟩
            rw [hb] at q2
            cases q2
    · have hnR' : n = R := by have := of_decide_eq_false hb; omega
      subst hnR'
      have F8 := F7.ex e8
      obtain ⟨g1, g2, g3, g4, g5, g6⟩ := F8
      have hr : n < rows.length := by omega
      obtain ⟨q1, q2⟩ := g6 n rows[n] (List.getElem?_eq_getElem hr)
      refine s_ret (ev_ixL (ev_var rfl) (ev_var rfl) (sq_of g3) (atI_nat (j := n) (v := V.ref rows[n]) (by rw [List.getElem?_map, List.getElem?_eq_getElem hr]; rfl))) fun H9 e9 => k _ _ (g1.trans e9) (e9 _ _ q1)
end
end TL
/-! Trylocks, walk Bx: what the law's walk leans on. -/
namespace TL
open PySem PySem.Spec PyProof.Rows L2 Evl C8 RZ LamX NdefX
/-- a book, actions and a gap as the law builds them -/
structure GoodIn (b : TL.Book) (acts : List Act) (g : Int) : Prop where
  rules : ∀ r ∈ b.rules, RuleOk r
  len : b.rules.length ≤ 3
  sizes : (b.accs = 1 ∧ b.plcs = 1) ∨ (b.accs = 2 ∧ b.plcs = 1) ∨ (b.accs = 1 ∧ b.plcs = 2)
  few : 2 ≤ acts.length ∧ acts.length ≤ 6
  acts : ∀ a ∈ acts, ActOk b a
  gap : 1 ≤ g ∧ g ≤ 1000000000
/-- what plain maths must tell of them -/
structure FarOk (b : TL.Book) (acts : List Act) (g : Int) : Prop where
  bound : ∃ Z : List Stand, Z.length < sizeLine ∧ ∀ n, stN b g acts n ∈ Z
  fair : ∀ n, Fair b.rules (lrun b.rules g acts (n * acts.length)) (((n * acts.length : Nat) : Int) * g)
  mark : ∃ mk : Nat → Str, (∀ n ys, ys.Perm (marksOf b.rules (lrun b.rules g acts (n * acts.length)) (((n * acts.length : Nat) : Int) * g)) → sortedS ys = true → Txt.join " " ys = mk n) ∧
    (∀ n, (∀ i j, i < j → j < n → mk i ≠ mk j) → n < sizeLine) ∧ ∀ i n, i < n → mk i = mk n → stN b g acts i = stN b g acts n
theorem actB_of {b : TL.Book} {a : Act} (h : ActOk b a) : ActB b a := by
  cases a with
  | none => exact True.intro
  | open_ i => exact True.intro
  | try_ i p r => exact ⟨⟨h.1.1, by have := h.1.2; omega⟩, h.2.1, by have := h.2.2; omega⟩
theorem GoodIn.actIn {b : TL.Book} {acts : List Act} {g : Int} (h : GoodIn b acts g) : ∀ a ∈ acts, ActIn a := fun a ha => by
  have q := h.acts a ha
  have s := h.sizes
  cases a with
  | none => exact True.intro
  | open_ i => exact True.intro
  | try_ i p r =>
    have q1 := q.1.1
    have q2 := q.1.2
    have q3 := q.2.1
    have q4 := q.2.2
    refine ⟨?_, ?_⟩ <;> omega
theorem GoodIn.count {b : TL.Book} {acts : List Act} {g : Int} (h : GoodIn b acts g) (many : Nat) : everyP b g acts many = lcount b.rules g acts many := every_count h.rules h.gap.1 (fun a ha => actB_of (h.acts a ha)) (fun z => by have := h.few.1; rw [z] at this; exact absurd this (by decide)) many
theorem GoodIn.far {b : TL.Book} {acts : List Act} {g : Int} (h : GoodIn b acts g) {i n R : Nat} (hin : i < n) (hR : i ≤ R) (hs : stN b g acts i = stN b g acts n) (u : Told) :
    lcount b.rules g acts (R * acts.length) u = lcount b.rules g acts ((i + (R - i) % (n - i)) * acts.length) u + (((R - i) / (n - i) : Nat) : Int) * (lcount b.rules g acts (n * acts.length) u - lcount b.rules g acts (i * acts.length) u) := by
  have t := fun m => (tot_norm (b := b) (g := g) (acts := acts) h.rules h.gap.1 (fun a ha => actB_of (h.acts a ha)) m).2
  have q := far_eq hin hR hs u
  rw [t, t, t, t] at q
  exact q
section
variable {P : Program} {w : World} {K : PySem.W.Frag}
/-- what holds while the law goes on -/
structure LawSt (K : PySem.W.Frag) (Pt ld ls lr la : Addr) (vb : V) (b : TL.Book) (avs : List V) (acts : List Act) (H : Hp) : Prop where
  draws : DrawsAt K ld ls H
  tabs : Tabs (tabsOf Pt) H
  book : BookAt K b vb H
  rules : ∃ rvs, H lr = some (.lst rvs) ∧ Paired (fun v r => RuleAt K r v H) rvs b.rules
  acts : H la = some (.lst avs) ∧ Paired (fun v a => ActAt K a v H) avs acts
  n1 : lr ≠ ld
  n2 : la ≠ ld
section
variable {Pt ld ls lr la : Addr} {vb : V} {b : TL.Book} {avs : List V} {acts : List Act} {H H' : Hp}
theorem tabs_L {xs : List V} (hl : H ld = some (.lst xs)) (hT : Tabs (tabsOf Pt) H) (e : ExB ld H H') : Tabs (tabsOf Pt) H' := fun p hp => by
  obtain ⟨ps, h1, h2, h3⟩ := hT p hp
  refine ⟨ps, e _ _ (ne_of h1 hl fun z => by cases z) h1, h2, fun pos cv hc => ?_⟩
  obtain ⟨c, e1, e2⟩ := h3 pos cv hc
  exact ⟨c, e1, e _ _ (ne_of e2 hl fun z => by unfold CodeO at z; cases z) e2⟩
theorem tabs_B (hD : DrawsAt K ld ls H) (hT : Tabs (tabsOf Pt) H) (e : ExB ld H H') : Tabs (tabsOf Pt) H' := by
  obtain ⟨i, wd, s, ns, hl, _⟩ := hD
  exact tabs_L hl hT e
theorem LawSt.ex (h : LawSt K Pt ld ls lr la vb b avs acts H) (e : Ex H H') : LawSt K Pt ld ls lr la vb b avs acts H' :=
  ⟨drawsAt_st e h.draws, h.tabs.ext e, bookAt_st _ _ _ e h.book, let ⟨rvs, h1, h2⟩ := h.rules; ⟨rvs, e _ _ h1, Paired.mapP h2 fun v r q => ruleAt_st _ _ _ e q⟩, ⟨e _ _ h.acts.1, Paired.mapP h.acts.2 fun v a q => actAt_T _ _ _ (exT e) q⟩, h.n1, h.n2⟩
theorem LawSt.B (h : LawSt K Pt ld ls lr la vb b avs acts H) (e : ExB ld H H') (hD : DrawsAt K ld ls H') : LawSt K Pt ld ls lr la vb b avs acts H' :=
  ⟨hD, tabs_B h.draws h.tabs e, bookAt_T _ _ _ (ExB.t h.draws e) h.book, let ⟨rvs, h1, h2⟩ := h.rules; ⟨rvs, e _ _ h.n1 h1, Paired.mapP h2 fun v r q => ruleAt_T _ _ _ (ExB.t h.draws e) q⟩, ⟨e _ _ h.n2 h.acts.1, Paired.mapP h.acts.2 fun v a q => actAt_T _ _ _ (ExB.t h.draws e) q⟩, h.n1, h.n2⟩
theorem LawSt.Q (h : LawSt K Pt ld ls lr la vb b avs acts H) (e : ExtQ H H') (hT : Tabs (tabsOf Pt) H') : LawSt K Pt ld ls lr la vb b avs acts H' :=
  ⟨let ⟨i, wd, s, ns, h1, h2, h3⟩ := h.draws; ⟨i, wd, s, ns, e _ _ h1 rfl, e _ _ h2 rfl, h3⟩, hT, bookAt_T _ _ _ e.t h.book, let ⟨rvs, h1, h2⟩ := h.rules; ⟨rvs, e _ _ h1 rfl, Paired.mapP h2 fun v r q => ruleAt_T _ _ _ e.t q⟩, ⟨e _ _ h.acts.1 rfl, Paired.mapP h.acts.2 fun v a q => actAt_T _ _ _ e.t q⟩, h.n1, h.n2⟩
end
theorem valoks {b : TL.Book} {avs : List V} {acts : List Act} {H : Hp} (h : Paired (fun v a => ActAt K a v H) avs acts) (ha : ∀ a ∈ acts, ActOk b a) : Paired (fun v ok => ValOk K b v H ok) avs (acts.map fun _ => true) := by
  induction h with
  | nil => exact .nil
  | @cons v a vs as q t ih => exact .cons (.inl ⟨a, q, ha a (List.mem_cons_self ..), rfl⟩) (ih fun x hx => ha x (List.mem_cons_of_mem _ hx))
theorem alltrue (acts : List Act) : (acts.map fun _ => true).all id = true := by
  rw [List.all_map, List.all_eq_true]
  intro x _
  rfl
theorem ev_every {Pt cA cM ld ls lr la : Addr} {vb : V} {b : TL.Book} {avs : List V} {acts : List Act} {g : Int} {many : Nat} {σ : L2.St} {H : Hp} {ta : TA} {Q : VK} (S : LawSt K Pt ld ls lr la vb b avs acts H) (G : GoodIn b acts g) (F : FarOk b acts g) (hm : many < 2 ^ 62) (hok : BookOk2 b) (h : EvA ta σ H [vb, .ref la, .int g, .int many])
    (k : ∀ v H', ExtQ H H' → LawSt K Pt ld ls lr la vb b avs acts H' → CntAt (lcount b.rules g acts many) v H' → Q v H') : tCall (spEvery P w K Pt cA cM) [] C8.E0 ta σ H Q := h H (Ex.refl H) _ fun H1 e => by
  have S1 := S.ex e
  obtain ⟨Z, hZ, hst⟩ := F.bound
  have hlen : avs.length = acts.length := Paired.length S1.acts.2
  have hf := G.few
  exact ⟨vb, .int g, la, b, many, avs, acts.map fun _ => true, rfl, S1.book, hok, sq_of S1.acts.1, by omega, valoks S1.acts.2 G.acts, .int g, S1.tabs, .good acts g Z (alltrue acts) (fun z => by rw [z] at hf; exact absurd hf.1 (by decide)) S1.acts.2 rfl G.gap.1 G.gap.2 hm hZ hst fun v H' eQ hT hC => k v H' ((ExtQ.of e).trans eQ) (S1.Q eQ hT) (by rw [← G.count]; exact hC)⟩
theorem er_count {ld ls lr la Pt : Addr} {vb : V} {b : TL.Book} {avs : List V} {acts : List Act} {g : Int} {many : Nat} {σ : L2.St} {H : Hp} {ta : TA} (S : LawSt K Pt ld ls lr la vb b avs acts H) (G : GoodIn b acts g) (hm : many ≤ 100000) (h : EvA ta σ H [.ref lr, .ref la, .int g, .int many]) : Er (tCall (spCount K) [] C8.E0 ta) σ H (CntAt (lcount b.rules g acts many)) := fun H1 e Q q => h H1 e _ fun H2 e2 => by
  have S2 := S.ex (e.trans e2)
  obtain ⟨rvs, r1, r2⟩ := S2.rules
  have hg1 := G.gap.1
  have hg2 := G.gap.2
  have hf := G.few
  exact ⟨lr, la, g, many, b.rules, acts, rfl, ⟨rvs, sq_of r1, r2⟩, G.rules, G.len, ⟨avs, sq_of S2.acts.1, S2.acts.2⟩, (fun z => by rw [z] at hf; exact absurd hf.1 (by decide)), G.actIn, ⟨by omega, by omega⟩, hm, fun v H' e3 hC => q v H' (e2.trans e3) hC⟩
theorem ne_fin {x y : V} {d : PyData} {H : Hp} {Qy Qn : Hp → Prop} (h1 : Dp K H x d) (h2 : Dp K H y d) (hs : SeqAt.shaped d = true) (he : PyData.eqv d d = true) (k : Qn H) : rNeD K x y H (fun v H' => ∃ k, v = .bl k ∧ if k = true then Qy H' else Qn H') := ⟨d, d, h1, h2, hs, hs, _, rfl, by rw [he]; exact k⟩
theorem q_neD {ta tb : TE} {u tz : TS} {D : Ends} {σ : L2.St} {H : Hp} (h : ta σ H fun x H1 => tb σ H1 fun y H2 => rNeD K x y H2 fun v H' => ∃ k, v = .bl k ∧ if k = true then u { D with nx := tz D } σ H' else tz D σ H') : tSeq (tIfS (tTest (tOp (rNeD K) ta tb)) u tNext) tz D σ H := h
theorem q_sum {tl tb : TE} {u tz : TS} {D : Ends} {σ : L2.St} {H : Hp} (h : tl σ H fun v H1 => rSum K [v] H1 fun x H2 => tb σ H2 fun y H3 => rNe x y H3 fun z H' => ∃ k, z = .bl k ∧ if k = true then u { D with nx := tz D } σ H' else tz D σ H') : tSeq (tIfS (tTest (tOp rNe (tCB (rSum K) (tCons tl tNil)) tb)) u tNext) tz D σ H := h
theorem lst2 {ta tb : TE} {σ : L2.St} {H : Hp} {Q : VK} (h : ta σ H fun v H1 => tb σ H1 fun w H2 => 2 ≤ sizeLine ∧ ∀ p, H2 p = none → Q (.ref p) (upd H2 p (.lst [v, w]))) : tLst (tCons ta (tCons tb tNil)) σ H Q := h
/-- the numbers of a count, one behind the other -/
def cntVs (c : Cnt) : List V := tolds.map fun t => V.int (c t)
def cntDs (c : Cnt) : List PyData := tolds.map fun t => PyData.int (c t)
theorem lc_vals {u0 u1 u2 u3 u4 u5 u6 u7 u8 u9 u11 u12 : Option V} {H : Hp} {d : Addr} {c : Cnt} (hd : H d = some (.dK (cntKvs c))) {Q : VK} (k : ∀ p H', Ex H H' → H' p = some (.lst (cntVs c)) → Q (.ref p) H') :
    tLockE (tLc (iKeys (tVar 10)) (gName 12) tYes (tDGet (tVar 10) (tVar 12)) [12]) [u0, u1, u2, u3, u4, u5, u6, u7, u8, u9, some (.ref d), u11, u12] H Q := by
  refine ⟨d, .dK (cntKvs c), hd, True.intro, fun od => ?_⟩
  have hf : (upd H d (.frz od (.dK (cntKvs c)))) d = some (.frz od (.dK (cntKvs c))) := upd_same
  have hlc := er_lc (te := tDGet (tVar 10) (tVar 12)) (σ := [u0, u1, u2, u3, u4, u5, u6, u7, u8, u9, some (.ref d), u11, u12]) (g := gName 12) (tt := tYes) (vs := [12]) (n := 5) (S := fun i v H' => ∀ t, tolds[i]? = some t → v = .int (c t))
    (eri_keys (i := 10) rfl hf) yes_ok (fun i v H1 H2 e h t ht => h t ht) (by decide) (by
      rintro i x H2 H3 C hi e ⟨rfl, kk, vv, hkv, rfl⟩ kC
      refine kC _ rfl (Ex.refl _) ?_
      have hkv' : (tolds.map fun t => ((Sum.inr (wordOf t), V.int (c t)) : L2.Key × V))[i]? = some (kk, vv) := hkv
      rw [List.getElem?_map] at hkv'
      cases ht : tolds[i]? with
      | none => rw [ht] at hkv'; cases hkv'
      | some t =>
        rw [ht] at hkv'
        cases hkv'
        exact fun H4 e4 Q q => ⟨_, rfl, _, rfl, d, _, rfl, .inl ⟨cntKvs c, Sum.inr (wordOf t), .inr ⟨od, e4 _ _ (e _ _ hf)⟩, rfl, (cnt_get c t).symm⟩, q _ H4 (Ex.refl H4) fun t' ht' => by cases ht'; rfl⟩)
  refine hlc _ (Ex.refl _) _ fun p ws H2 hp e2 hw ⟨h1, h2⟩ => ?_
  have hd2 := e2 _ _ hf
  have hpd : p ≠ d := fun z => by rw [z, hf] at hp; cases hp
  have hws : ws = cntVs c := by
    refine List.ext_getElem? fun i => ?_
    by_cases hi : i < 5
    · obtain ⟨u, g1, g2⟩ := h2 i hi
      obtain ⟨t, ht⟩ : ∃ t, tolds[i]? = some t := ⟨_, List.getElem?_eq_getElem (by show i < 5; exact hi)⟩
      rw [g1, g2 t ht]
      unfold cntVs
      rw [List.getElem?_map, ht]
      rfl
    · rw [List.getElem?_eq_none (by omega), List.getElem?_eq_none (by show 5 ≤ i; omega)]
  refine ⟨hd2, k p _ (fun a o ho => ?_) ?_⟩
  · by_cases z : a = d
    · subst z
      rw [hd] at ho
      cases ho
      exact upd_same
    · rw [upd_ne z]
      exact e2 _ _ (by rw [upd_ne z]; exact ho)
  · rw [upd_ne hpd, hw, hws]
theorem dp_vals {c : Cnt} {H : Hp} : DpAll K H (cntVs c) (cntDs c) := .cons (.int _) (.cons (.int _) (.cons (.int _) (.cons (.int _) (.cons (.int _) .nil))))
theorem eqv_vals (c : Cnt) : PyData.eqv (.list (cntDs c)) (.list (cntDs c)) = true := by
  unfold cntDs
  simp [tolds, PyData.eqv, PyData.eqvAll]
def rowDs (c : Cnt) : List PyData := tolds.map fun t => PyData.tuple [.str (wordOf t), .int (c t)]
theorem dp_rows {c : Cnt} {H : Hp} {ws : List V} (h : RowsOf c ws H) : DpAll K H ws (rowDs c) := by
  obtain ⟨h1, h2⟩ := h
  have one : ∀ {t : Told} {v : V}, (∃ q, some v = some (.ref q) ∧ H q = some (.tup [.str (wordOf t), .int (c t)])) → Dp K H v (.tuple [.str (wordOf t), .int (c t)]) := fun {t v} ⟨q, e, hq⟩ => by
    cases e
    exact .tup (st_of hq) (.cons (.str _) (.cons (.int _) .nil))
  match ws, h1 with
  | [a, b, c', d, e], _ => exact .cons (one (h2 0 .tin rfl)) (.cons (one (h2 1 .kept rfl)) (.cons (one (h2 2 .none rfl)) (.cons (one (h2 3 .opened rfl)) (.cons (one (h2 4 .wrong rfl)) .nil))))
theorem shaped_rows (c : Cnt) : SeqAt.shaped (.list (rowDs c)) = true := by
  unfold rowDs SeqAt.shaped
  simp [tolds, PyData.canLay0, PyData.canLayAll0, PyData.depth, PyData.depthAll]
  decide +kernel
theorem shaped_vals (c : Cnt) : SeqAt.shaped (.list (cntDs c)) = true := by
  unfold cntDs SeqAt.shaped
  simp [tolds, PyData.canLay0, PyData.canLayAll0, PyData.depth, PyData.depthAll]
theorem eqv_rows (c : Cnt) : PyData.eqv (.list (rowDs c)) (.list (rowDs c)) = true := by
  unfold rowDs
  simp [tolds, PyData.eqv, PyData.eqvAll]
end
end TL
/-! Trylocks, walk Bw: the law. -/
namespace TL
open PySem PySem.Spec PyProof.Rows L2 Evl C8 RZ LamX NdefX
section
variable {P : Program} {w : World} {K : PySem.W.Frag} {mg : Str → Option Value} {base : Heap}
def nLaw : List Str := ["_law_script", "_law_draws", "_law_accounts", "_law_places", "_law_rules_here", "_law_book", "_law_actions_here", "_law_gap", "_law_many", "_law_rounds", "_law_far_here", "_law_k", "_law_word"]
theorem sc_law : FnScope nLaw ["_law_script"] (fnScope (top 59)) := fnScope_by (by decide +kernel)
theorem pass_X {X : Cx} : Passes (L2.CX P w) X C8.E0 := fun _ _ _ _ _ _ _ h => by
  obtain ⟨_, _, _, _, _, _, _, _, _, _, _, _, hE⟩ := h
  exact hE.elim
/-- what the law's defs are -/
structure Tl (K : PySem.W.Frag) (mg : Str → Option Value) (cS cA cM : Addr) : Prop where
  Y : Ty K mg cS cA cM
  W : Tw K mg
  Z : Tz K mg
  E : ExmD K cA cM
  B : BookD K mg
  begin : DefB K mg "_law_begin" (top 38) ["_law_script"]
  count : DefB K mg "_law_count" (top 54) ["_law_rules_here", "_law_actions_here", "_law_gap", "_law_many"]
  mark : DefB K mg "_law_mark" (top 55) ["_law_rules_here", "_law_state", "_law_moment"]
  far : DefB K mg "_law_far" (top 56) ["_law_rules_here", "_law_actions_here", "_law_gap", "_law_rounds"]
  refused : DefB K mg "_law_refused" (top 57) ["_law_book", "_law_actions_here", "_law_gap"]
  rows : DefB K mg "_law_rows" (top 58) ["_law_counts"]
  law : DefB K mg "law" (top 59) ["_law_script"]
def spLaw (K : PySem.W.Frag) (Pt : Addr) : Sp := fun vs H Q _ => ∃ (ls : Addr) (ns : List Int), vs = [.ref ls] ∧ SqL K H ls (ns.map V.int) ∧ Tabs (tabsOf Pt) H ∧ ∀ H', Q (.bl true) H'
theorem lst2c {tb : TE} {x : V} {σ : L2.St} {H : Hp} {Q : VK} (h : tb σ H fun w H2 => 2 ≤ sizeLine ∧ ∀ p, H2 p = none → Q (.ref p) (upd H2 p (.lst [x, w]))) : tLst (tCons (tC x) (tCons tb tNil)) σ H Q := h
theorem c_law {cS Pt cA cM : Addr} (L : Tl K mg cS cA cM) (TB : TabB base mg cS Pt) (plain : ∀ b acts g, GoodIn b acts g → FarOk b acts g) : CalG P w K mg base 9 "law" (spLaw K Pt) := by
  have T := L.Y.T
  have cBeg := c_beginL (P := P) (w := w) (base := base) T L.begin
  have cSz := c_sizes (P := P) (w := w) (base := base) T L.Z
  have cRu := c_rules (P := P) (w := w) (base := base) T L.Z
  have cBk := c_init (P := P) (w := w) (base := base) T L.B
  have cAc := c_acts (P := P) (w := w) (base := base) T L.Z
  have cPk := c_pick (P := P) (w := w) (base := base) T L.Z
  have cD := c_draw (P := P) (w := w) (base := base) T L.Z.draw
  have cRo := c_rows (P := P) (w := w) (base := base) T L.rows
  have cEv := c_every (P := P) (w := w) (base := base) L.Y TB
  have cCo := c_count (P := P) (w := w) (base := base) T L.W L.count
  have cFa := c_far (P := P) (w := w) (base := base) T L.W L.mark L.far
  have cRe := c_refused (P := P) (w := w) (base := base) L.Y TB L.E L.refused
  refine calTG L.law sc_law (fun vs H Q E h => ?_) (fun f cdv A outer s H vs Q hg hr h => ?_)
  · obtain ⟨ls, ns, rfl, _⟩ := h
    rfl
  · obtain ⟨ls, ns, rfl, hS, hTab, k⟩ := h
    have nd := sc_law.nd
    have hu := hu64' hr
    refine ⟨_, pss_cons (ps_set (i := 1) nd rfl (.inr rfl) (pe_c cBeg hr (by decide) rfl (pa_cons (pv 0) pa_nil)))
      (pss_cons (ps_asg (pe_c cSz hr (by decide) rfl (pa_cons (pv 1) pa_nil)) (pg_tup (n := 2) rfl (pgs_cons (pg_name (i := 2) nd rfl (.inr rfl)) (pgs_cons (pg_name (i := 3) nd rfl (.inr rfl)) pgs_nil))))
      (pss_cons (ps_set (i := 4) nd rfl (.inl rfl) (pe_c cRu hr (by decide) rfl (pa_cons (pv 1) (pa_cons pe_int pa_nil))))
      (pss_cons (ps_set (i := 5) nd rfl (.inl rfl) (pe_mk cBk hr (by decide) rfl (pa_cons (pv 4) (pa_cons (pv 2) (pa_cons (pv 3) pa_nil)))))
      (pss_cons (ps_setLc (i := 6) (own := [("_law_k", 11)]) (g := gName 11) (tt := tYes) (wi := iRng1 _) rfl nd rfl rfl (sw_true rfl rfl rfl (by decide +kernel)) (pi_range1 rfl (T.fr "range") (pa_cons (pe_op op_add pe_int (pe_c cD hr (by decide) rfl (pa_cons (pv 1) (pa_cons pe_int pa_nil)))) pa_nil))
        (blkOk_by (N := nLaw) (sc := fnScope (top 59)) (by decide +kernel)) (fun _ _ _ _ _ => pg_name (i := 11) nd rfl (Or.inl rfl)) (fun _ _ _ _ _ => pts_nil)
        (fun _ _ _ _ _ => pe_c cPk hr (by decide) rfl (pa_cons (pv 1) (pa_cons (pe_c cAc hr (by decide) rfl (pa_cons (pv 2) (pa_cons (pv 3) pa_nil))) pa_nil))))
      (pss_cons (ps_expr (pe_bm PySem.F.plainAttrs_list PySem.F.slot_list_append PySem.F.type_list_append mt_append (pv 6) (pa_cons (pe_tup (pa_cons pe_str (pa_cons pe_int (pa_cons pe_int (pa_cons pe_bl pa_nil))))) pa_nil)))
      (pss_cons (ps_set (i := 7) nd rfl (.inl rfl) (pe_ix ix_list (pe_lst (pa_cons pe_int (pa_cons pe_int (pa_cons pe_int (pa_cons pe_int (pa_cons pe_int (pa_cons pe_int pa_nil))))))) (pe_c cD hr (by decide) rfl (pa_cons (pv 1) (pa_cons pe_int pa_nil))) (fun _ _ => rfl)))
      (pss_cons (ps_set (i := 8) nd rfl (.inl rfl) (pe_c cD hr (by decide) rfl (pa_cons (pv 1) (pa_cons pe_int pa_nil))))
      (pss_cons (ps_if (pt_cmpR (op_neD hu) (pe_c cRo hr (by decide) rfl (pa_cons (pe_cx (E := C8.E0) cEv hr (by decide) rfl pass_X (pa_cons (pv 5) (pa_cons (pv 6) (pa_cons (pv 7) (pa_cons (pv 8) pa_nil))))) pa_nil)) (pe_c cRo hr (by decide) rfl (pa_cons (pe_c cCo hr (by decide) rfl (pa_cons (pv 4) (pa_cons (pv 6) (pa_cons (pv 7) (pa_cons (pv 8) pa_nil))))) pa_nil)) (nomark _)) (pss_one (ps_ret pe_bl)) pss_nil)
      (pss_cons (ps_set (i := 9) nd rfl (.inl rfl) (pe_op op_add (pe_c cD hr (by decide) rfl (pa_cons (pv 1) (pa_cons pe_int pa_nil))) (pe_ix ix_list (pe_lst (pa_cons pe_int (pa_cons (pe_op op_pow pe_int pe_int) (pa_cons (pe_op op_pow pe_int pe_int) pa_nil)))) (pe_c cD hr (by decide) rfl (pa_cons (pv 1) (pa_cons pe_int pa_nil))) (fun _ _ => rfl))))
      (pss_cons (ps_set (i := 10) nd rfl (.inr rfl) (pe_cx (E := C8.E0) cEv hr (by decide) rfl pass_X (pa_cons (pv 5) (pa_cons (pv 6) (pa_cons (pv 7) (pa_cons (pe_op op_mul (pv 9) (pe_callB call_len_seq rfl (T.fr "len") boot_len (pa_cons (pv 6) pa_nil))) pa_nil))))))
      (pss_cons (ps_if (pt_cmpR (op_neD hu) (pe_lock (pe_lc (own := [("_law_word", 12)]) (g := gName 12) (tt := tYes) (wi := iKeys (tVar 10)) rfl nd (pi_keys (pv 10))
          (blkOk_by (N := nLaw) (sc := fnScope (top 59)) (by decide +kernel)) (fun _ _ _ _ _ => pg_name (i := 12) nd rfl (Or.inl rfl)) (fun _ _ _ _ _ => pts_nil) (fun _ _ _ _ _ => pe_dget (hu_of hr) (pv 10) (pv 12) (fun _ _ => rfl))))
          (pe_cG cFa hg hr (by decide) rfl (pa_cons (pv 4) (pa_cons (pv 6) (pa_cons (pv 7) (pa_cons (pv 9) pa_nil))))) (nomark _)) (pss_one (ps_ret pe_bl)) pss_nil)
      (pss_cons (ps_if (pt_cmpR op_ne (pe_callB (cr_sum rfl) rfl (T.fr "sum") (by decide +kernel) (pa_cons (pe_lock (pe_lc (own := [("_law_word", 12)]) (g := gName 12) (tt := tYes) (wi := iKeys (tVar 10)) rfl nd (pi_keys (pv 10))
          (blkOk_by (N := nLaw) (sc := fnScope (top 59)) (by decide +kernel)) (fun _ _ _ _ _ => pg_name (i := 12) nd rfl (Or.inl rfl)) (fun _ _ _ _ _ => pts_nil) (fun _ _ _ _ _ => pe_dget (hu_of hr) (pv 10) (pv 12) (fun _ _ => rfl)))) pa_nil))
          (pe_op op_mul (pv 9) (pe_callB call_len_seq rfl (T.fr "len") boot_len (pa_cons (pv 6) pa_nil))) (nomark _)) (pss_one (ps_ret pe_bl)) pss_nil)
      (pss_cons (ps_if (PW.pt (pw_or (pt_cmpR op_ne (pe_c cRe hr (by decide) rfl (pa_cons (pv 5) (pa_cons (pe_lst pa_nil) (pa_cons pe_int pa_nil)))) pe_str (nomark _))
          (pw_or1 (pt_cmpR op_ne (pe_c cRe hr (by decide) rfl (pa_cons (pv 5) (pa_cons (pe_lst (pa_cons pe_non (pa_cons (pe_tup (pa_cons pe_str pa_nil)) pa_nil))) (pa_cons pe_int pa_nil)))) pe_str (nomark _))))) (pss_one (ps_ret pe_bl)) pss_nil)
      (pss_one (ps_ret (pe_cmpR op_eq (pe_c cRe hr (by decide) rfl (pa_cons (pv 5) (pa_cons (pv 6) (pa_cons (pe_ix ix_list (pe_lst (pa_cons pe_int (pa_cons (pe_un un_neg pe_int) (pa_cons pe_int (pa_cons pe_non (pa_cons pe_bl pa_nil)))))) (pe_c cD hr (by decide) rfl (pa_cons (pv 1) (pa_cons pe_int pa_nil))) (fun _ _ => rfl)) pa_nil)))) pe_str (nomark _))))))))))))))))), ?_⟩
    have hs : L2.start nLaw [.ref ls] = [some (.ref ls), none, none, none, none, none, none, none, none, none, none, none, none] := rfl
    rw [hs]
    refine q_asgP (R := fun v H1 => ∃ ld l2, v = .ref ld ∧ Ex H H1 ∧ DrawsAt K ld l2 H1) (fun Q q => ⟨_, rfl, ls, ns, rfl, hS, fun ld l2 H' e hD hn => q _ _ ⟨ld, l2, rfl, e, hD⟩⟩) fun v H1 ⟨ld, l2, ev, e1, hD1⟩ => ?_
    subst ev
    have hT1 := hTab.ext e1
    refine q_asgPair (R := fun x y H2 => ∃ m n : Nat, x = .int m ∧ y = .int n ∧ ((m = 1 ∧ n = 1) ∨ (m = 2 ∧ n = 1) ∨ (m = 1 ∧ n = 2)) ∧ ExB ld H1 H2 ∧ DrawsAt K ld l2 H2) (fun Q q => ⟨_, rfl, ld, l2, rfl, hD1, fun v a H' e hD ⟨p, ep, hp⟩ ha => by
        subst ep
        simp only [List.mem_cons, List.not_mem_nil, or_false] at ha
        rcases ha with rfl | rfl | rfl | rfl
        · exact q p _ _ _ hp ⟨1, 1, rfl, rfl, .inl ⟨rfl, rfl⟩, e, hD⟩
        · exact q p _ _ _ hp ⟨2, 1, rfl, rfl, .inr (.inl ⟨rfl, rfl⟩), e, hD⟩
        · exact q p _ _ _ hp ⟨1, 2, rfl, rfl, .inr (.inr ⟨rfl, rfl⟩), e, hD⟩
        · exact q p _ _ _ hp ⟨2, 1, rfl, rfl, .inr (.inl ⟨rfl, rfl⟩), e, hD⟩⟩) fun x y H2 ⟨m, n, ex, ey, hmn, e2, hD2⟩ => ?_
    subst ex ey
    have hT2 := tabs_B hD1 hT1 e2
    show tSeq _ _ _ [some (.ref ls), some (.ref ld), some (.int m), some (.int n), none, none, none, none, none, none, none, none, none] H2
    refine q_asgP (R := fun v H3 => ∃ lr rvs rs, v = .ref lr ∧ ExB ld H2 H3 ∧ DrawsAt K ld l2 H3 ∧ H3 lr = some (.lst rvs) ∧ H2 lr = none ∧ Paired (fun v r => RuleAt K r v H3) rvs rs ∧ (∀ r ∈ rs, RuleOk r) ∧ rs.length ≤ 3) (fun Q q => ⟨_, rfl, ld, l2, rfl, hD2, fun lr rvs rs H' e hD hl hn hp hok hlen => q _ _ ⟨lr, rvs, rs, rfl, e, hD, hl, hn, hp, hok, hlen⟩⟩) fun v H3 ⟨lr, rvs, rs, ev, e3, hD3, hl3, hn3, hp3, hok3, hlen3⟩ => ?_
    subst ev
    have hT3 := tabs_B hD2 hT2 e3
    have nlr : lr ≠ ld := draws_ne hD2 hn3
    have hok2 : BookOk2 (⟨rs, m, n⟩ : TL.Book) := ⟨⟨by show m ≤ 2; omega, by show n ≤ 2; omega, hlen3⟩, hok3⟩
    refine q_asgP (R := fun v H4 => Ex H3 H4 ∧ BookAt K ⟨rs, m, n⟩ v H4) (fun Q q => ⟨_, rfl, _, rfl, _, rfl, fun x dx hx hdx hne => by
      have e34 : Ex H3 (upd (upd H3 dx (.own x)) x (.ins (bkC K) dx [])) := fun a o h => by
        rw [upd_ne (ne_of_none h hx), upd_ne (ne_of_none h hdx)]
        exact h
      exact ⟨x, dx, lr, ⟨rs, m, n⟩, rvs, rfl, upd_same, sq_of (e34 _ _ hl3), Paired.mapP hp3 fun v r q => ruleAt_st _ _ _ e34 q, hok2, ⟨by show 1 ≤ m; omega, by show 1 ≤ n; omega, by show m * n ≤ 2; rcases hmn with ⟨rfl, rfl⟩ | ⟨rfl, rfl⟩ | ⟨rfl, rfl⟩ <;> decide⟩, fun H' hk hB => ⟨rfl, q _ _ ⟨fun a o h => hk a o (ne_of_none h hx) (e34 a o h), hB⟩⟩⟩⟩) fun vb H4 ⟨e4, hB4⟩ => ?_
    have hD4 := drawsAt_st e4 hD3
    have hT4 := hT3.ext e4
    show tSeq _ _ _ [some (.ref ls), some (.ref ld), some (.int m), some (.int n), some (.ref lr), some vb, none, none, none, none, none, none, none] H4
    refine q_asgP (R := fun v H5 => ∃ la avs acts, v = .ref la ∧ ExB ld H4 H5 ∧ DrawsAt K ld l2 H5 ∧ H5 la = some (.lst avs) ∧ H4 la = none ∧ 1 ≤ avs.length ∧ avs.length ≤ 5 ∧ ActsIn K ⟨rs, m, n⟩ avs acts H5) (fun Q q => ?_) fun v H5 ⟨la, avs0, acts0, ev, e5, hD5, hl5, hn5, hlo, hhi, hA5⟩ => ?_
    · refine eb_one (K := K) (ld := ld) (ls := l2) (m := 5) (eb_draw (K := K) (m := 5) (H := H4) rfl (fun _ => ev_c) ⟨by decide, by decide⟩) H4 ExB.refl hD4 _ fun v H5 e5 hD5 ⟨z, ez, h0, hz⟩ => ?_
      subst ez
      refine ⟨z, rfl, by omega, by omega, fun Dl hDl => ?_⟩
      have hne := draws_ne hD5 hDl
      have hne2 : Dl ≠ l2 := draws_ne2 hD5 hDl
      have hDl4 : H4 Dl = none := by
        cases q : H4 Dl with
        | none => rfl
        | some o => rw [e5 _ _ hne q] at hDl; cases hDl
      refine lc_range (lo := 0) (n := z.toNat) (fun i H' => ExB ld H4 H' ∧ ExB ld H5 H' ∧ DrawsAt K ld l2 H' ∧ ∃ avs acts, H' Dl = some (.lst avs) ∧ avs.length = i ∧ ActsIn K ⟨rs, m, n⟩ avs acts H')
        ⟨ExB.new e5 hDl4, ExB.new ExB.refl hDl, drawsAt_st (Ex.new hDl) hD5, [], [], upd_same, rfl, .nil, fun r hr => nomatch hr⟩ (fun i H' hi ⟨eA, eB, hD6, avs, acts, hl, hlen, hin⟩ => ?_) (fun H' ⟨eA, eB, hD6, avs, acts, hl, hlen, hin⟩ => ?_)
      · refine ⟨rfl, ?_⟩
        unfold tYes
        dsimp only
        rw [if_pos rfl]
        refine ⟨_, rfl, _, rfl, _, rfl, ⟨rs, m, n⟩, rfl, by show m ≤ 2; omega, by show n ≤ 2; omega, fun p pvs pacts H6 e6 hp6 hpn hpin hp1 hp100 => ?_⟩
        have hplen : pvs.length = pacts.length := Paired.length hpin.1
        have hpl : p ≠ ld := draws_ne hD6 hpn
        have hD7 := drawsAt_st e6 hD6
        refine ⟨ld, l2, p, pvs, rfl, hD7, sq_of hp6, hpl, by omega, by omega, fun v j H7 e7 hD8 hv => ⟨avs, e7 _ _ hne (e6 _ _ hl), ?_, ?_⟩⟩
        · have : avs.length < 5 := by omega
          exact Nat.lt_trans this (by decide)
        · have hl7 := e7 _ _ hne (e6 _ _ hl)
          have eT : ExT H7 (upd H7 Dl (.lst (avs ++ [v]))) := ExT.lst hl7
          have e67 : ExT H' H7 := (exT e6).trans (ExB.t hD7 e7)
          obtain ⟨a, ha1, ha2⟩ := paired_get hpin.1 hv
          exact ⟨ExB.new ((eA.trans (ExB.of e6)).trans e7) hDl4, ExB.new ((eB.trans (ExB.of e6)).trans e7) hDl, drawsAt_upd hD8 hne hne2, avs ++ [v], acts ++ [a], upd_same, by rw [List.length_append, hlen]; rfl,
            actsIn_snoc (actsIn_T (e67.trans eT) hin) (actAt_T _ _ _ ((ExB.t hD7 e7).trans eT) ha2) (hpin.2 a (List.mem_of_getElem? ha1))⟩
      · exact q _ H' ⟨Dl, avs, acts, rfl, eA, hD6, hl, hDl4, by omega, by omega, hin⟩
    · subst ev
      have nla : la ≠ ld := draws_ne hD4 hn5
      have nla2 : la ≠ l2 := draws_ne2 hD4 hn5
      show tSeq _ _ _ [some (.ref ls), some (.ref ld), some (.int m), some (.int n), some (.ref lr), some vb, some (.ref la), none, none, none, none, none, none] H5
      refine q_appR (K := K) hl5 (ev_var rfl) (er_act4 (K := K) (a := 0) (p := 0) (r := false) ev_c ev_c) (by omega) fun va H6 e6 hva => ?_
      have hl6 := e6 _ _ hl5
      have eT6 : ExT H6 (upd H6 la (.lst (avs0 ++ [va]))) := ExT.lst hl6
      have in6 := actsIn_snoc (actsIn_T ((exT e6).trans eT6) hA5) (actAt_T _ _ _ eT6 hva) (show ActOk ⟨rs, m, n⟩ (.try_ 0 0 false) from ⟨⟨Int.le_refl 0, by show (0 : Int) ≤ (m : Int) - 1; omega⟩, Int.le_refl 0, by show (0 : Int) ≤ (n : Int) - 1; omega⟩)
      have hrla : lr ≠ la := fun z => by rw [z] at hl3; rw [e4 _ _ hl3] at hn5; cases hn5
      have e46 : ExT H4 (upd H6 la (.lst (avs0 ++ [va]))) := ((ExB.t hD4 e5).trans (exT e6)).trans eT6
      have S7 : LawSt K Pt ld l2 lr la vb ⟨rs, m, n⟩ (avs0 ++ [va]) (acts0 ++ [.try_ 0 0 false]) (upd H6 la (.lst (avs0 ++ [va]))) :=
        ⟨drawsAt_upd (drawsAt_st e6 hD5) nla nla2, tabs_L hl6 ((tabs_B hD4 hT4 e5).ext e6) ExB.upd, bookAt_T _ _ _ e46 hB4, ⟨rvs, by rw [upd_ne hrla]; exact e6 _ _ (e5 _ _ nlr (e4 _ _ hl3)), Paired.mapP hp3 fun v r q => ruleAt_T _ _ _ ((exT e4).trans e46) q⟩, ⟨upd_same, in6.1⟩, nlr, nla⟩
      have hfew : 2 ≤ (acts0 ++ [Act.try_ 0 0 false]).length ∧ (acts0 ++ [Act.try_ 0 0 false]).length ≤ 6 := by
        have hz := Paired.length hA5.1
        rw [List.length_append]
        show 2 ≤ acts0.length + 1 ∧ acts0.length + 1 ≤ 6
        omega
      have hin := in6.2
      generalize hb : (⟨rs, m, n⟩ : TL.Book) = b at S7 hin hok2
      have hbz : (b.accs = 1 ∧ b.plcs = 1) ∨ (b.accs = 2 ∧ b.plcs = 1) ∨ (b.accs = 1 ∧ b.plcs = 2) := by rw [← hb]; exact hmn
      generalize upd H6 la (.lst (avs0 ++ [va])) = H7 at S7
      generalize avs0 ++ [va] = avs at S7
      generalize acts0 ++ [Act.try_ 0 0 false] = acts at S7 hin hfew
      refine q_asgB (K := K) (eb_pick (K := K) (F := FEq) (as := [V.int 1, .int 1, .int 2, .int 3, .int 7, .int 1000000000]) (fun H1 => eap_cons (feq_T _) er_c (eap_cons (feq_T _) er_c (eap_cons (feq_T _) er_c (eap_cons (feq_T _) er_c (eap_cons (feq_T _) er_c (eap_cons (feq_T _) er_c eap_nil)))))) (fun H1 => eb_draw (m := 6) rfl (fun _ => ev_c) ⟨by decide, by decide⟩) feq_T (by decide)) S7.draws fun v H8 e8 hD8 ⟨a, ha, ea⟩ => ?_
      obtain ⟨g, hg0, hg1, hg2⟩ : ∃ g : Int, v = .int g ∧ 1 ≤ g ∧ g ≤ 1000000000 := by
        have ea' : v = a := ea
        rw [ea']
        simp only [List.mem_cons, List.not_mem_nil, or_false] at ha
        rcases ha with rfl | rfl | rfl | rfl | rfl | rfl
        · exact ⟨1, rfl, by decide, by decide⟩
        · exact ⟨1, rfl, by decide, by decide⟩
        · exact ⟨2, rfl, by decide, by decide⟩
        · exact ⟨3, rfl, by decide, by decide⟩
        · exact ⟨7, rfl, by decide, by decide⟩
        · exact ⟨1000000000, rfl, by decide, by decide⟩
      subst hg0
      have S8 := S7.B e8 hD8
      have G : GoodIn b acts g := ⟨hok2.2, hok2.1.2.2, hbz, hfew, hin, hg1, hg2⟩
      have F := plain b acts g G
      refine q_asgB (K := K) (eb_draw (m := 150) rfl (fun _ => ev_c) ⟨by decide, by decide⟩) S8.draws fun v H9 e9 hD9 ⟨z, ez, h0, hz⟩ => ?_
      subst ez
      obtain ⟨many, rfl⟩ : ∃ many : Nat, z = (many : Int) := ⟨z.toNat, by omega⟩
      have S9 := S8.B e9 hD9
      show tSeq _ _ _ [some (.ref ls), some (.ref ld), some (.int m), some (.int n), some (.ref lr), some vb, some (.ref la), some (.int g), some (.int many), none, none, none, none] H9
      refine q_neD (K := K) (cons1 (ev_every S9 G F (by omega) hok2 (ea_cons (ev_var rfl) (ea_cons (ev_var rfl) (ea_cons (ev_var rfl) (ea_cons (ev_var rfl) ea_nil)))) fun v H10 e10 S10 hC => ⟨v, _, rfl, hC, fun p ws H11 e11 hn11 hl11 hR11 => ?_⟩))
      have S11 := S10.ex e11
      refine cons1 (er_count S11 G (by omega) (ea_cons (ev_var rfl) (ea_cons (ev_var rfl) (ea_cons (ev_var rfl) (ea_cons (ev_var rfl) ea_nil)))) H11 (Ex.refl H11) _ fun v2 H12 e12 hC2 => ⟨v2, _, rfl, hC2, fun p2 ws2 H13 e13 hn13 hl13 hR13 => ?_⟩)
      have hR13' : RowsOf (lcount b.rules g acts many) ws H13 := ⟨hR11.1, fun i t ht => let ⟨q, q1, q2⟩ := hR11.2 i t ht; ⟨q, q1, e13 _ _ (e12 _ _ q2)⟩⟩
      refine ne_fin (.lst (sq_of (e13 _ _ (e12 _ _ hl11))) (dp_rows hR13')) (.lst (sq_of hl13) (dp_rows hR13)) (shaped_rows _) (eqv_rows _) ?_
      have S13 := (S11.ex e12).ex e13
      clear hR13' hR13 hR11 hC hC2
      refine q_asgP (R := fun v H' => ∃ R : Nat, v = .int R ∧ R ≤ 3000 + 100000000000000 ∧ LawSt K Pt ld l2 lr la vb b avs acts H') (fun Q q => ?_) fun v3 H14 ⟨R, ev, hR, S14⟩ => ?_
      · refine eb_draw (K := K) (m := 3000) rfl (fun _ => ev_c) ⟨by decide, by decide⟩ H13 ExB.refl S13.draws _ fun v H1 e1 hD1 ⟨z, ez, h0, hz⟩ => ?_
        have S1 := S13.B e1 hD1
        refine eb_pick (K := K) (ld := ld) (ls := l2) (F := FEq) (as := [V.int 0, V.int 1000000000, V.int 100000000000000]) (fun H1 => eap_cons (feq_T _) er_c (eap_cons (feq_T _) (er_of (ev_is (ev_op ev_c ev_c (rv_I (⟨by decide, by decide, by decide⟩ : CPow 10 9))) (by decide))) (eap_cons (feq_T _) (er_of (ev_is (ev_op ev_c ev_c (rv_I (⟨by decide, by decide, by decide⟩ : CPow 10 14))) (by decide))) eap_nil))) (fun H1 => eb_draw (m := 3) rfl (fun _ => ev_c) ⟨by decide, by decide⟩) feq_T (by decide) H1 ExB.refl hD1 _ fun v2 H2 e2 hD2 ⟨a, ha, ea⟩ => ?_
        have ea' : v2 = a := ea
        subst ea'
        have S2 := S1.B e2 hD2
        simp only [List.mem_cons, List.not_mem_nil, or_false] at ha
        rcases ha with rfl | rfl | rfl
        · exact ⟨z, 0, ez, rfl, q (.int (z + 0)) _ ⟨z.toNat, congrArg V.int (by omega), by omega, S2⟩⟩
        · exact ⟨z, 1000000000, ez, rfl, q (.int (z + 1000000000)) _ ⟨(z + 1000000000).toNat, congrArg V.int (by omega), by omega, S2⟩⟩
        · exact ⟨z, 100000000000000, ez, rfl, q (.int (z + 100000000000000)) _ ⟨(z + 100000000000000).toNat, congrArg V.int (by omega), by omega, S2⟩⟩
      subst ev
      have hlenA : avs.length = acts.length := Paired.length S14.acts.2
      have hRT : R * acts.length < 2 ^ 62 := Nat.lt_of_le_of_lt (Nat.mul_le_mul hR hfew.2) (by decide)
      have hmul : ∀ {σ : L2.St} {Hx : Hp}, σ[9]? = some (some (.int (R : Int))) → σ[6]? = some (some (.ref la)) → SqL K Hx la avs → Ev (tOp (rI CMul fun i j => .int (i * j)) (tVar 9) (tCB (rLenS K) (tCons (tVar 6) tNil))) σ Hx (.int ((R * acts.length : Nat) : Int)) := fun h9 h6 hs => ev_is (ev_op (ev_var h9) (ev_lenS (ev_var h6) hs) (rv_I (.inl ⟨by omega, by omega⟩))) (by rw [hlenA, Int.natCast_mul])
      refine q_asgP (R := fun v H' => LawSt K Pt ld l2 lr la vb b avs acts H' ∧ CntAt (lcount b.rules g acts (R * acts.length)) v H') (fun Q q => ev_every S14 G F hRT hok2 (ea_cons (ev_var rfl) (ea_cons (ev_var rfl) (ea_cons (ev_var rfl) (ea_cons (hmul rfl rfl (sq_of S14.acts.1)) ea_nil)))) fun v H' e S hC => q v H' ⟨S, hC⟩) fun v H15 ⟨S15, hC15⟩ => ?_
      obtain ⟨df, ev, hdf⟩ := hC15
      subst ev
      show tSeq _ _ _ [some (.ref ls), some (.ref ld), some (.int m), some (.int n), some (.ref lr), some vb, some (.ref la), some (.int g), some (.int many), some (.int R), some (.ref df), none, none] H15
      refine q_neD (K := K) (lc_vals hdf fun p H16 e16 hl16 => ?_)
      have S16 := S15.ex e16
      obtain ⟨mk, mk1, mk2, mk3⟩ := F.mark
      refine (ea_cons (ev_var rfl) (ea_cons (ev_var rfl) (ea_cons (ev_var rfl) (ea_cons (ev_var rfl) ea_nil)))) H16 (Ex.refl H16) _ fun H17 e17 => ?_
      have S17 := S16.ex e17
      obtain ⟨rv17, r17, p17⟩ := S17.rules
      refine ⟨lr, la, g, R, b.rules, acts, mk, rfl, ⟨rv17, sq_of r17, p17⟩, G.rules, G.len, ⟨avs, sq_of S17.acts.1, S17.acts.2⟩, (fun z => by rw [z] at hfew; exact absurd hfew.1 (by decide)), G.actIn, Nat.lt_of_le_of_lt hR (by decide), F.fair, mk1, mk2, fun i n hin hiR hmk u => G.far hin hiR (mk3 i n hin hmk) u, fun p2 H18 e18 hl18 => ?_⟩
      have S18 := S17.ex e18
      have hdf18 := e18 _ _ (e17 _ _ (e16 _ _ hdf))
      refine ne_fin (.lst (sq_of (e18 _ _ (e17 _ _ hl16))) dp_vals) (.lst (sq_of hl18) (dp_vals (c := lcount b.rules g acts (R * acts.length)))) (shaped_vals _) (eqv_vals _) ?_
      refine q_sum (K := K) (lc_vals hdf18 fun p3 H19 e19 hl19 => ⟨p3, tolds.map fun t => lcount b.rules g acts (R * acts.length) t, rfl, sq_of hl19, ?_⟩)
      have S19 := S18.ex e19
      refine hmul rfl rfl (sq_of S19.acts.1) H19 (Ex.refl H19) _ fun H20 e20 => ⟨rfl, _, rfl, ?_⟩
      have S20 := S19.ex e20
      have hsum : (tolds.map fun t => lcount b.rules g acts (R * acts.length) t).sum = ((R * acts.length : Nat) : Int) := by
        have q := lcount_sum b.rules g acts (R * acts.length)
        show lcount b.rules g acts (R * acts.length) .tin + (lcount b.rules g acts (R * acts.length) .kept + (lcount b.rules g acts (R * acts.length) .none + (lcount b.rules g acts (R * acts.length) .opened + (lcount b.rules g acts (R * acts.length) .wrong + 0)))) = _
        omega
      rw [decide_eq_true (congrArg V.int hsum), Bool.not_true, if_neg Bool.false_ne_true]
      show tSeq _ _ _ [some (.ref ls), some (.ref ld), some (.int m), some (.int n), some (.ref lr), some vb, some (.ref la), some (.int g), some (.int many), some (.int R), some (.ref df), none, none] H20
      have ref1 : Ev (tCall (spRefused P w K Pt) [] C8.E0 (tCons (tVar 5) (tCons (tLst tNil) (tCons (tC (V.int 1)) tNil)))) [some (.ref ls), some (.ref ld), some (.int m), some (.int n), some (.ref lr), some vb, some (.ref la), some (.int g), some (.int many), some (.int R), some (.ref df), none, none] H20 (.str "action") := fun H1 e Q q =>
        ⟨_, rfl, (el_lst ea_nil (by decide)) H1 (Ex.refl H1) _ fun p H2 hp e2 hl => by
          have S := S20.ex (e.trans e2)
          exact ⟨vb, .int 1, p, b, [], [], "action", rfl, S.book, hok2, sq_of hl, by decide, .nil, .int 1, S.tabs, .inl ⟨rfl, .inr ⟨rfl, rfl⟩⟩, fun H3 e3 => q H3 (e2.trans e3)⟩⟩
      have ref2 : Ev (tCall (spRefused P w K Pt) [] C8.E0 (tCons (tVar 5) (tCons (tLst (tCons (tC V.non) (tCons (tTup (tCons (tC (V.str "open")) tNil)) tNil))) (tCons (tC (V.int 0)) tNil)))) [some (.ref ls), some (.ref ld), some (.int m), some (.int n), some (.ref lr), some vb, some (.ref la), some (.int g), some (.int many), some (.int R), some (.ref df), none, none] H20 (.str "action") := fun H1 e Q q =>
        ⟨_, rfl, lst2c ((eu_tup (ea_cons ev_c ea_nil) (by show 1 ≤ 100000; decide)) H1 (Ex.refl H1) _ fun p H2 hp e2 hl => ⟨by decide, fun p2 hp2 => by
          have e3 := e2.trans (Ex.new (o := .lst [V.non, V.ref p]) hp2)
          have S := S20.ex (e.trans e3)
          exact ⟨vb, .int 0, p2, b, [.non, .ref p], [true, false], "action", rfl, S.book, hok2, sq_of upd_same, (by show 2 < 1000; decide), .cons (.inl ⟨.none, rfl, True.intro, rfl⟩) (.cons (.inr ⟨⟨p, rfl, st_of (Ex.new (o := .lst [V.non, V.ref p]) hp2 _ _ hl)⟩, rfl⟩) .nil), .int 0, S.tabs, .inl ⟨rfl, .inl rfl⟩, fun H3 e4 => q H3 (e3.trans e4)⟩⟩)⟩
      refine q_when (b := false) (et_or0 (et_is (et_test (ev_op ref1 ev_c (rv_ne rfl))) (by rw [decide_eq_true rfl]; rfl)) (et_is (et_test (ev_op ref2 ev_c (rv_ne rfl))) (by rw [decide_eq_true rfl]; rfl))) (fun z => by cases z) (fun _ H21 e21 => ?_)
      have S21 := S20.ex e21
      refine ⟨_, rfl, _, rfl, eb_pick (K := K) (ld := ld) (ls := l2) (F := FEq) (as := [V.int 0, V.int (-1), V.int 1000000001, V.non, V.bl true]) (fun H1 => eap_cons (feq_T _) er_c (eap_cons (feq_T _) (er_of (ev_un ev_c ru_neg)) (eap_cons (feq_T _) er_c (eap_cons (feq_T _) er_c (eap_cons (feq_T _) er_c eap_nil))))) (fun H1 => eb_draw (m := 5) rfl (fun _ => ev_c) ⟨by decide, by decide⟩) feq_T (by decide) H21 ExB.refl S21.draws _ fun vg H22 e22 hD22 ⟨a, ha, ea⟩ => ?_⟩
      have S22 := S21.B e22 hD22
      have ea' : vg = a := ea
      subst ea'
      have hplain : Plain K H22 vg ∧ isNum vg 1 1000000000 = false := by
        simp only [List.mem_cons, List.not_mem_nil, or_false] at ha
        rcases ha with rfl | rfl | rfl | rfl | rfl
        · exact ⟨.int _, by decide⟩
        · exact ⟨.int _, by decide⟩
        · exact ⟨.int _, by decide⟩
        · exact ⟨.non, rfl⟩
        · exact ⟨.bl _, rfl⟩
      exact ⟨vb, vg, la, b, avs, acts.map fun _ => true, "moment", rfl, S22.book, hok2, sq_of S22.acts.1, by omega, valoks S22.acts.2 hin, hplain.1, S22.tabs, .inr ⟨rfl, alltrue acts, (fun z => by rw [z] at hlenA; have := hfew.1; simp at hlenA; omega), hplain.2⟩, fun H23 e23 => ⟨rfl, by rw [decide_eq_true rfl]; exact k H23⟩⟩
end
end TL
/-! Trylocks: the head's run and what it tells. -/
namespace TL
open PySem PySem.Spec PyProof.Rows L2
/-- a def of the text by its name and place -/
def dfn (x : Str) (i : Nat) : He.DefD := ⟨(x, none), x, x, C8.fnArgs (top i), C8.fnBody (top i), C8.fnScope (top i), [], []⟩
def dInit : He.DefD := ⟨("Book", some "__init__"), "__init__", "Book.__init__", C8.fnArgs sInit, C8.fnBody sInit, C8.fnScope sInit, [], []⟩
def fnL : List He.DefD := [dInit, dfn "is_number" 10, dfn "is_rule" 11, dfn "is_action" 13, dfn "check_actions" 14, dfn "pairs_of" 18, dfn "keys_of" 19, dfn "first_standing" 20, dfn "is_at" 21, dfn "left_at" 22, dfn "is_locked" 23, dfn "passed" 24, dfn "idle" 25, dfn "begun" 26, dfn "kept_part" 27, dfn "let_part" 28, dfn "changed" 29, dfn "step" 30, dfn "one_round" 34, dfn "added" 35, dfn "every" 36] ++
  [dfn "_law_begin" 38, dfn "_law_draw" 39, dfn "_law_flag" 40, dfn "_law_rule" 41, dfn "_law_sizes" 42, dfn "_law_rules" 43, dfn "_law_actions" 44, dfn "_law_pick" 45, dfn "_law_key" 46, dfn "_law_cell" 47, dfn "_law_fresh" 48, dfn "_law_locked" 49, dfn "_law_new" 50, dfn "_law_counted" 51, dfn "_law_do" 52, dfn "_law_count" 54, dfn "_law_mark" 55, dfn "_law_far" 56, dfn "_law_refused" 57, dfn "_law_rows" 58, dfn "law" 59]
def gloL : List Str := (["Book", "BadAction", "BadMoment", "KEYS", "NEW", "FACTORS", "WORDS", "is_number", "is_rule", "is_action", "check_actions", "pairs_of", "keys_of", "first_standing", "is_at", "left_at", "is_locked", "passed", "idle", "begun", "kept_part", "let_part", "changed", "step", "one_round", "added", "every"] : List Str) ++
  (["_law_begin", "_law_draw", "_law_flag", "_law_rule", "_law_sizes", "_law_rules", "_law_actions", "_law_pick", "_law_key", "_law_cell", "_law_fresh", "_law_locked", "_law_new", "_law_counted", "_law_do", "_law_count", "_law_mark", "_law_far", "_law_refused", "_law_rows", "law"] : List Str)
def faL : List He.Fa := gloL.map He.Fa.glo ++ freeNames.map He.Fa.free ++ [.int "WIDEST" 1000000000, .int "MOST_RULES" 3, .cls "Book", .noat "Book" "rules", .noat "Book" "accounts", .noat "Book" "places", .mkr "Book", .exc "BadAction", .exc "BadMoment", .exm "BadAction" "BadAction" true, .exm "BadMoment" "BadAction" false, .exm "BadMoment" "BadMoment" true]
def exB (K : PySem.W.Frag) : Bool := He.tupB K "KEYS" [.str "account", .str "place", .str "both"] && (He.tupB K "NEW" [.int 0, .int 0, .int 0, .int 0, .int 0] && (He.tupB K "FACTORS" [.int 1, .int 2, .int 4] && He.tupB K "WORDS" [.str "in", .str "kept", .str "none", .str "opened", .str "wrong"]))
def tfL : List He.Defn := [("step", none)]
abbrev Rw : PySem.W.OpenRow := PySem.W.OpenLaw.row PySem.Challenge.rw_trylocks_k04_whole_far_rows
abbrev hkL : PySem.W.Hook := He.hookX 5 faL fnL [] tfL exB
def obL (s : PySem.W.SharedT) : He.AlX := He.obsX 5 faL fnL [] tfL exB (HandSHeadRun.getT s)
theorem obL_eq (s : PySem.W.SharedT) : obL s = hkL.obs s.abs := He.obsX_eq (HandSHeadRun.getT_eq s)
def looseL : List Str := (["_wall", "LockError", "BadCount", "BadAction", "BadMoment", "BadRule", "KEYS", "MOST_RULES", "is_number", "is_rule", "Book", "is_action", "check_actions", "NEW", "FACTORS", "pairs_of", "keys_of", "first_standing", "is_at", "left_at", "is_locked", "passed", "idle", "begun", "kept_part", "let_part", "changed", "step"] : List Str) ++
  (["WORDS", "WIDEST", "one_round", "added", "every", "_law_begin", "_law_draw", "_law_flag", "_law_rule", "_law_sizes", "_law_rules", "_law_actions", "_law_pick", "_law_key", "_law_cell", "_law_fresh", "_law_locked", "_law_new", "_law_counted", "_law_do", "_law_row_told", "_law_count", "_law_mark", "_law_far", "_law_refused", "_law_rows"] : List Str)
theorem runL (w : World) : HandSHeadRun.RunEq Rw (PySem.W.view Rw.prog [59]) hkL obL 6000 looseL w := by
  intro os
  kernel_rfl
end TL
/-! Trylocks: what the head tells of the defs; the end for a law that is promised where no show is under way. -/
namespace TL
open PySem PySem.Spec PyProof.Rows L2 LamX
section
variable {K : PySem.W.Frag} {mg : Str → Option Value} {w : World} {h : Heap}
abbrev SaysL (w : World) (h : Heap) (K : PySem.W.Frag) : Prop := He.SaysX faL fnL [] tfL exB w h K
theorem glo_in {x : Str} (hx : x ∈ gloL) : He.Fa.glo x ∈ faL := List.mem_append.mpr (.inl (List.mem_append.mpr (.inl (List.mem_map.mpr ⟨x, hx, rfl⟩))))
theorem free_in {x : Str} (hx : x ∈ freeNames) : He.Fa.free x ∈ faL := List.mem_append.mpr (.inl (List.mem_append.mpr (.inr (List.mem_map.mpr ⟨x, hx, rfl⟩))))
theorem says_glo (c : SaysL w h K) (X : K.In h) (G : h.Ns mainGlobals mg) {x : Str} (hx : x ∈ gloL) : mg x = some (.ref (He.ga K x)) := He.glo_ok X G (c.t.d.facts (glo_in hx))
theorem fun_of {x qual : Str} {st : Stmt} {f : Addr} {fd : FuncData} (F : FunD K x qual (C8.fnArgs st) (C8.fnBody st) (C8.fnScope st) [] [] f fd) : C8.Fun K x qual st f fd := by
  obtain ⟨oc, od, dV, kV, doc, pm, an, cdv, ct, osl, e, lk, hcd, _⟩ := F.ex
  exact ⟨oc, od, dV, kV, doc, pm, an, cdv, ct, osl, e, lk, hcd⟩
/-- the j-th def of the list -/
theorem says_def (c : SaysL w h K) (X : K.In h) (G : h.Ns mainGlobals mg) (j : Nat) {x : Str} {i : Nat} {ps : List Str} (hj : fnL[j]? = some (dfn x i)) (hx : x ∈ gloL)
    (hb : ∀ (kV doc pm : Value) (an : Option Addr) (cdv ct : Value) (us : List Value), us.length = ps.length → bindArgs (PySem.W.fnOf x x (C8.fnArgs (top i)) (C8.fnBody (top i)) (C8.fnScope (top i)) .none kV doc pm an cdv ct) ⟨us, []⟩ = pure (ps.zip us)) : DefB K mg x (top i) ps := by
  obtain ⟨fd, F⟩ := c.t.d.def_ j hj
  exact ⟨He.ga K x, fd, ⟨fun_of F, says_glo c X G hx, F.kp⟩, F.bindsN hb⟩
theorem says_T (c : SaysL w h K) (X : K.In h) (G : h.Ns mainGlobals mg) : Tx K mg := by
  obtain ⟨t1, t2⟩ := He.ba (show exB K = true from c.more)
  obtain ⟨t2, t3⟩ := He.ba t2
  obtain ⟨t3, t4⟩ := He.ba t3
  have fc := fun {f : He.Fa} (hf : f ∈ faL) => c.t.d.facts hf
  exact {
    free := fun x hx => He.free_ok X G (fc (free_in hx))
    keys := ⟨He.ga K "KEYS", says_glo c X G (by decide +kernel), fun H => He.tupB_ok t1 H⟩
    new := ⟨He.ga K "NEW", says_glo c X G (by decide +kernel), fun H => He.tupB_ok t2 H⟩
    factors := ⟨He.ga K "FACTORS", says_glo c X G (by decide +kernel), fun H => He.tupB_ok t3 H⟩
    words := ⟨He.ga K "WORDS", says_glo c X G (by decide +kernel), fun H => He.tupB_ok t4 H⟩
    widest := He.int_ok X G (c.t.d.fact 64 (by rfl))
    mostRules := He.int_ok X G (c.t.d.fact 65 (by rfl))
    clsB := He.cls_ok (c.t.d.fact 66 (by rfl))
    naR := He.noat_ok (c.t.d.fact 67 (by rfl))
    naA := He.noat_ok (c.t.d.fact 68 (by rfl))
    naP := He.noat_ok (c.t.d.fact 69 (by rfl))
    is_number := says_def c X G 1 rfl (by decide +kernel) (fun _ _ _ _ _ _ us hl => match us, hl with | [_, _, _], _ => rfl)
    is_rule := says_def c X G 2 rfl (by decide +kernel) (fun _ _ _ _ _ _ us hl => match us, hl with | [_], _ => rfl)
    is_action := says_def c X G 3 rfl (by decide +kernel) (fun _ _ _ _ _ _ us hl => match us, hl with | [_, _], _ => rfl)
    check_actions := says_def c X G 4 rfl (by decide +kernel) (fun _ _ _ _ _ _ us hl => match us, hl with | [_, _], _ => rfl)
    pairs_of := says_def c X G 5 rfl (by decide +kernel) (fun _ _ _ _ _ _ us hl => match us, hl with | [_], _ => rfl)
    keys_of := says_def c X G 6 rfl (by decide +kernel) (fun _ _ _ _ _ _ us hl => match us, hl with | [_, _], _ => rfl)
    first_standing := says_def c X G 7 rfl (by decide +kernel) (fun _ _ _ _ _ _ us hl => match us, hl with | [_], _ => rfl)
    is_at := says_def c X G 8 rfl (by decide +kernel) (fun _ _ _ _ _ _ us hl => match us, hl with | [_, _, _], _ => rfl)
    left_at := says_def c X G 9 rfl (by decide +kernel) (fun _ _ _ _ _ _ us hl => match us, hl with | [_, _, _, _], _ => rfl)
    is_locked := says_def c X G 10 rfl (by decide +kernel) (fun _ _ _ _ _ _ us hl => match us, hl with | [_, _, _, _], _ => rfl)
    passed := says_def c X G 11 rfl (by decide +kernel) (fun _ _ _ _ _ _ us hl => match us, hl with | [_, _, _], _ => rfl)
    idle := says_def c X G 12 rfl (by decide +kernel) (fun _ _ _ _ _ _ us hl => match us, hl with | [_, _, _], _ => rfl)
    begun := says_def c X G 13 rfl (by decide +kernel) (fun _ _ _ _ _ _ us hl => match us, hl with | [_, _], _ => rfl)
    kept_part := says_def c X G 14 rfl (by decide +kernel) (fun _ _ _ _ _ _ us hl => match us, hl with | [_, _], _ => rfl)
    changed := says_def c X G 16 rfl (by decide +kernel) (fun _ _ _ _ _ _ us hl => match us, hl with | [_, _, _, _], _ => rfl)
    let_part := says_def c X G 15 rfl (by decide +kernel) (fun _ _ _ _ _ _ us hl => match us, hl with | [_, _], _ => rfl)
  }
theorem says_BadAction (c : SaysL w h K) (X : K.In h) (G : h.Ns mainGlobals mg) : ExcAt K mg "BadAction" (He.ga K "BadAction") := by
  obtain ⟨e1, e2, e3, e4⟩ := He.exc_ok (x := "BadAction") (c.t.d.fact 71 (by rfl))
  exact ⟨says_glo c X G (by decide +kernel), e2, e1, e3, e4⟩
theorem says_BadMoment (c : SaysL w h K) (X : K.In h) (G : h.Ns mainGlobals mg) : ExcAt K mg "BadMoment" (He.ga K "BadMoment") := by
  obtain ⟨e1, e2, e3, e4⟩ := He.exc_ok (x := "BadMoment") (c.t.d.fact 72 (by rfl))
  exact ⟨says_glo c X G (by decide +kernel), e2, e1, e3, e4⟩
theorem says_S (c : SaysL w h K) (X : K.In h) (G : h.Ns mainGlobals mg) : StepD K mg (He.cT K ("step", none)).1 := by
  obtain ⟨fd, F⟩ := c.t.d.def_ 17 (d := dfn "step" 30) rfl
  obtain ⟨oc, od, dV, kV, doc, pm, an, cdv, ct, osl, e, lk, hcd, _⟩ := id F.ex
  obtain ⟨cc, ec⟩ := He.codeIn_ref hcd
  have e1 : fd.code = .ref cc := by rw [e, ← ec]
  refine ⟨He.ga K "step", fd, ⟨fun_of F, says_glo c X G (by decide +kernel), F.kp⟩, F.bindsN (fun _ _ _ _ _ _ us hl => match us, hl with | [_, _, _], _ => rfl), ?_⟩
  have e2 : He.codeOf K ("step", none) = cc := He.codeOf_eq lk e1
  rw [e1]
  exact congrArg Value.ref e2.symm
theorem says_B (c : SaysL w h K) (X : K.In h) (G : h.Ns mainGlobals mg) : BookD K mg := by
  obtain ⟨fd, F⟩ := c.t.d.def_ 0 (d := dInit) rfl
  exact ⟨He.fAd K ("Book", some "__init__"), fd, He.mkr_ok (c.t.d.fact 70 (by rfl)), fun_of F, says_glo c X G (by decide +kernel), F.bindsN (fun _ _ _ _ _ _ us hl => match us, hl with | [_, _, _, _], _ => rfl)⟩
theorem says_L (c : SaysL w h K) (X : K.In h) (G : h.Ns mainGlobals mg) : Tl K mg (He.cT K ("step", none)).1 (He.ga K "BadAction") (He.ga K "BadMoment") := {
  Y := {
    T := says_T c X G
    S := says_S c X G
    A := says_BadAction c X G
    M := says_BadMoment c X G
    one := says_def c X G 18 rfl (by decide +kernel) (fun _ _ _ _ _ _ us hl => match us, hl with | [_, _, _, _], _ => rfl)
    added := says_def c X G 19 rfl (by decide +kernel) (fun _ _ _ _ _ _ us hl => match us, hl with | [_, _, _], _ => rfl)
    every := says_def c X G 20 rfl (by decide +kernel) (fun _ _ _ _ _ _ us hl => match us, hl with | [_, _, _, _], _ => rfl)
  }
  W := {
    key := says_def c X G 29 rfl (by decide +kernel) (fun _ _ _ _ _ _ us hl => match us, hl with | [_, _], _ => rfl)
    cell := says_def c X G 30 rfl (by decide +kernel) (fun _ _ _ _ _ _ us hl => match us, hl with | [_, _, _], _ => rfl)
    fresh := says_def c X G 31 rfl (by decide +kernel) (fun _ _ _ _ _ _ us hl => match us, hl with | [_, _, _], _ => rfl)
    locked := says_def c X G 32 rfl (by decide +kernel) (fun _ _ _ _ _ _ us hl => match us, hl with | [_, _, _, _, _], _ => rfl)
    new := says_def c X G 33 rfl (by decide +kernel) (fun _ _ _ _ _ _ us hl => match us, hl with | [], _ => rfl)
    counted := says_def c X G 34 rfl (by decide +kernel) (fun _ _ _ _ _ _ us hl => match us, hl with | [_, _, _], _ => rfl)
    do_ := says_def c X G 35 rfl (by decide +kernel) (fun _ _ _ _ _ _ us hl => match us, hl with | [_, _, _, _], _ => rfl)
  }
  Z := {
    begin_ := says_def c X G 21 rfl (by decide +kernel) (fun _ _ _ _ _ _ us hl => match us, hl with | [_], _ => rfl)
    draw := says_def c X G 22 rfl (by decide +kernel) (fun _ _ _ _ _ _ us hl => match us, hl with | [_, _], _ => rfl)
    flag := says_def c X G 23 rfl (by decide +kernel) (fun _ _ _ _ _ _ us hl => match us, hl with | [_], _ => rfl)
    rule := says_def c X G 24 rfl (by decide +kernel) (fun _ _ _ _ _ _ us hl => match us, hl with | [_], _ => rfl)
    sizes := says_def c X G 25 rfl (by decide +kernel) (fun _ _ _ _ _ _ us hl => match us, hl with | [_], _ => rfl)
    rules := says_def c X G 26 rfl (by decide +kernel) (fun _ _ _ _ _ _ us hl => match us, hl with | [_, _], _ => rfl)
    actions := says_def c X G 27 rfl (by decide +kernel) (fun _ _ _ _ _ _ us hl => match us, hl with | [_, _], _ => rfl)
    pick := says_def c X G 28 rfl (by decide +kernel) (fun _ _ _ _ _ _ us hl => match us, hl with | [_, _], _ => rfl)
  }
  E := ⟨He.exm_ok (c.t.d.fact 73 (by rfl)), He.exm_ok (c.t.d.fact 74 (by rfl)), He.exm_ok (c.t.d.fact 75 (by rfl))⟩
  B := says_B c X G
  begin := says_def c X G 21 rfl (by decide +kernel) (fun _ _ _ _ _ _ us hl => match us, hl with | [_], _ => rfl)
  count := says_def c X G 36 rfl (by decide +kernel) (fun _ _ _ _ _ _ us hl => match us, hl with | [_, _, _, _], _ => rfl)
  mark := says_def c X G 37 rfl (by decide +kernel) (fun _ _ _ _ _ _ us hl => match us, hl with | [_, _, _], _ => rfl)
  far := says_def c X G 38 rfl (by decide +kernel) (fun _ _ _ _ _ _ us hl => match us, hl with | [_, _, _, _], _ => rfl)
  refused := says_def c X G 39 rfl (by decide +kernel) (fun _ _ _ _ _ _ us hl => match us, hl with | [_, _, _], _ => rfl)
  rows := says_def c X G 40 rfl (by decide +kernel) (fun _ _ _ _ _ _ us hl => match us, hl with | [_], _ => rfl)
  law := says_def c X G 41 rfl (by decide +kernel) (fun _ _ _ _ _ _ us hl => match us, hl with | [_], _ => rfl)
}
end
end TL
/-! Trylocks: the end, for a law that is promised where no show is under way. -/
namespace TL
open PySem PySem.Spec PyProof.Rows L2 LamX
section
variable {P : Program} {w : World} {K : PySem.W.Frag} {mg mb : Str → Option Value} {k : Nat} {f a c T : Addr} {s : Shared} {items : List Value} {ns : List Int}
/-- the script's list as an object -/
def scr (items : List Value) : Obj := { cls := .type "list", data := .seq items.toArray }
/-- an empty table as an object -/
def etab : Obj := { cls := .none, data := .fields #[] }
/-- what is tracked at the law's call: the table, and the script unless it is the module's own -/
def hp0 (K : PySem.W.Frag) (T a : Addr) (items : List Value) (ns : List Int) : Hp := fun b =>
  if b = T then some (.tbl #[]) else if b = a ∧ K.lookup a = none then some (.frz (scr items) (.lst (ns.map V.int))) else none
theorem hp0_T : hp0 K T a items ns T = some (.tbl #[]) := if_pos rfl
theorem hp0_a (h : a ≠ T) (n : K.lookup a = none) : hp0 K T a items ns a = some (.frz (scr items) (.lst (ns.map V.int))) := by
  unfold hp0
  rw [if_neg h, if_pos ⟨rfl, n⟩]
theorem hp0_K {b : Addr} {o : Obj} (h : b ≠ T) (n : K.lookup b = some o) : hp0 K T a items ns b = none := by
  unfold hp0
  rw [if_neg h, if_neg]
  rintro ⟨rfl, z⟩
  rw [n] at z
  cases z
theorem hp0_cases {b : Addr} {u : HO} (h : hp0 K T a items ns b = some u) : (b = T ∧ u = .tbl #[]) ∨ (b ≠ T ∧ b = a ∧ K.lookup a = none ∧ u = .frz (scr items) (.lst (ns.map V.int))) := by
  unfold hp0 at h
  by_cases z : b = T
  · rw [if_pos z] at h
    exact .inl ⟨z, (Option.some.inj h).symm⟩
  · rw [if_neg z] at h
    by_cases y : b = a ∧ K.lookup a = none
    · rw [if_pos y] at h
      exact .inr ⟨z, y.1, y.2, (Option.some.inj h).symm⟩
    · rw [if_neg y] at h
      cases h
/-- an object of another make is not tracked -/
theorem hp0_other (tab : s.heap.get? T = some etab) (lst : s.heap.get? a = some (scr items)) {b : Addr} {o : Obj} (e : s.heap.get? b = some o) (n1 : ∀ vs n, o.data ≠ .seq vs n) (n2 : o.data ≠ .fields #[]) : hp0 K T a items ns b = none := by
  cases q : hp0 K T a items ns b with
  | none => rfl
  | some u =>
    rcases hp0_cases q with ⟨rfl, _⟩ | ⟨_, rfl, _, _⟩
    · rw [tab] at e
      exact absurd (congrArg Obj.data (Option.some.inj e).symm) n2
    · rw [lst] at e
      exact absurd (congrArg Obj.data (Option.some.inj e).symm) (n1 _ _)
/-- the table's place among the module's things, in a heap that hides what is tracked -/
structure EndIn (K : PySem.W.Frag) (mg mb : Str → Option Value) (c T a : Addr) (items : List Value) (s : Shared) : Prop where
  inK : K.In s.heap
  gl : s.heap.Ns mainGlobals mg
  bl : s.heap.Ns builtinsNs mb
  boot : ∀ x : Str, x ≠ "__name__" → mb x = bootBuiltins x
  lim : s.heap.NoLimit
  gens : s.gens = #[]
  tab : s.heap.get? T = some etab
  tabK : K.lookup T = none
  code : PySem.W.CodeHd s.heap c T
  bm : ∃ (m : Addr) (o : Obj), mg "__builtins__" = some (.ref m) ∧ m ≠ builtinsNs ∧ s.heap.get? m = some o ∧ o.cls = .type "module" ∧ o.dict = some builtinsNs ∧ o.data = .plain
  lst : s.heap.get? a = some (scr items)
theorem EndIn.ne (I : EndIn K mg mb c T a items s) : a ≠ T := fun z => by
  have q := I.lst
  rw [z, I.tab] at q
  cases congrArg Obj.data (Option.some.inj q)
theorem EndIn.up (I : EndIn K mg mb c T a items s) {b : Addr} {o : Obj} (e : s.heap.get? b = some o) (n1 : ∀ vs n, o.data ≠ .seq vs n) (n2 : o.data ≠ .fields #[]) : (hidT s.heap (hp0 K T a items ns)).get? b = some o := hidT_get e (hp0_other I.tab I.lst e n1 n2)
theorem EndIn.dict (I : EndIn K mg mb c T a items s) {b : Addr} {o : Obj} {es : Array DictEntry} {n : Nat} (e : s.heap.get? b = some o) (d : o.data = .dict es n) : (hidT s.heap (hp0 K T a items ns)).get? b = some o := I.up e (fun _ _ z => by rw [d] at z; cases z) (fun z => by rw [d] at z; cases z)
theorem EndIn.kin (I : EndIn K mg mb c T a items s) : K.In (hidT s.heap (hp0 K T a items ns)) := fun b o e => hidT_get (I.inK b o e) (hp0_K (fun z => by
  rw [z, I.tabK] at e
  cases e) e)
theorem EndIn.nsp (I : EndIn K mg mb c T a items s) {b : Addr} {m : Str → Option Value} (h : s.heap.Ns b m) : (hidT s.heap (hp0 K T a items ns)).Ns b m := by
  obtain ⟨o, es, n, e, d, r⟩ := h
  exact ⟨o, es, n, I.dict e d, d, r⟩
theorem EndIn.mod (I : EndIn K mg mb c T a items s) : L2.Mod K mg (hidT s.heap (hp0 K T a items ns)) := by
  obtain ⟨ml, l1, l2⟩ := I.lim
  exact ⟨I.kin, I.nsp I.gl, ⟨mb, I.nsp I.bl, I.boot⟩, ⟨ml, I.nsp l1, l2⟩⟩
theorem EndIn.tabB (I : EndIn K mg mb c T a items s) : LamX.TabB (hidT s.heap (hp0 K T a items ns)) mg c T := by
  refine ⟨?_, ?_, fun z => ?_⟩
  · obtain ⟨o, vs, fl, t1, fg, t2, inF, tx, t3, e, r1, r2, r3, rest⟩ := I.code
    refine ⟨o, vs, fl, t1, fg, t2, inF, tx, t3, I.up e (fun _ _ z => by rw [r2] at z; cases z) (fun z => ?_), r1, r2, r3, rest⟩
    rw [r2] at z
    cases z
    simp at r3
  · obtain ⟨m, o, q1, q2, q3, q4, q5, q6⟩ := I.bm
    refine ⟨m, o, q1, q2, fun z => ?_, fun z => ?_, I.up q3 (fun _ _ z => by rw [q6] at z; cases z) (fun z => by rw [q6] at z; cases z), q4, q5, q6⟩
    · obtain ⟨o2, es, n, e, d, _⟩ := I.gl
      rw [← z, q3] at e
      cases e
      rw [q6] at d
      cases d
    · rw [z, I.tab] at q3
      cases q3
      cases q6
  · obtain ⟨o2, es, n, e, d, _⟩ := I.gl
    rw [z, I.tab] at e
    cases e
    cases d
theorem EndIn.hok (I : EndIn K mg mb c T a items s) (hi : IntsAre items ns) (few : ns.length ≤ sizeLine) : HOk P w (hp0 K T a items ns) s.heap := fun b u h => by
  rcases hp0_cases h with ⟨rfl, rfl⟩ | ⟨_, rfl, _, rfl⟩
  · exact I.tab
  · exact ⟨I.lst, by rw [List.length_map]; exact few, items, _, vals_ints hi, I.lst⟩
theorem EndIn.sq (I : EndIn K mg mb c T a items s) (hi : IntsAre items ns) (few : ns.length ≤ sizeLine) : SqL K (hp0 K T a items ns) a (ns.map V.int) := by
  cases z : K.lookup a with
  | none => exact .inl (.inr ⟨_, hp0_a I.ne z⟩)
  | some o =>
    have e := I.inK _ _ z
    rw [I.lst] at e
    cases e
    exact .inr ⟨_, items.toArray, _, z, rfl, rfl, rfl, by rw [List.size_toArray, hi.length]; exact few, by simpa using vals_ints hi⟩
theorem EndIn.env (I : EndIn K mg mb c T a items s) (hi : IntsAre items ns) (few : ns.length ≤ sizeLine) : Env0 P w K mg (hidT s.heap (hp0 K T a items ns)) callerA [] s (hp0 K T a items ns) where
  frames := rfl
  mod := I.mod
  bs := fun b o e => of_hidT e
  bsz := Nat.le_of_eq (hidT_size _ _)
  funs := trivial
  frf := fun b hb => by cases (show b ∈ ([] : List Addr) from hb)
  hok := I.hok hi few
  bare := .of_eq I.gens
/-- THE END -/
theorem law_end (I : EndIn K mg mb c T a items s) (hi : IntsAre items ns) (few : ns.length ≤ sizeLine) (room : Room k callerA)
    (law : ∀ base : Heap, K.In base → LamX.TabB base mg c T → FnG P w K mg base k f (spLaw K T)) :
    codeAny (model P w) callerA (.call (.ref f) ⟨[.ref a], []⟩) (fun r s' => r = .ok (.ret (.bool true)) ∧ OldK s.heap s'.heap ∧ s'.os = s.os ∧ AllBare s'.gens) s := by
  have hTabs : Tabs (tabsOf T) (hp0 K T a items ns) := fun p hp => by
    rw [List.mem_singleton.mp hp]
    exact TabS.nil hp0_T
  refine codeAny_mono (law _ I.kin I.tabB callerA [] s _ [.ref a] [.ref a] (fun v _ => v = .bl true) rfl room (I.env hi few) (.cons rfl .nil) ⟨a, ns, rfl, I.sq hi few, hTabs, fun _ => rfl⟩) fun r s' q => ?_
  cases r with
  | error e => exact False.elim q
  | ok fl =>
    cases fl with
    | next => exact False.elim q
    | brk => exact False.elim q
    | cont => exact False.elim q
    | ret u =>
      obtain ⟨v, H', hos, hbare, un, hok', hrel, hv⟩ := q
      have hv' : v = .bl true := hv
      rw [hv'] at hrel
      have hu : u = Value.bool true := hrel
      -- all but the table stays
      have stay : ∀ b o, b ≠ T → s.heap.get? b = some o → s'.heap.get? b = some o := fun b o hb e => by
        cases z : hp0 K T a items ns b with
        | none => exact un.keep b o e z (fun y => by cases (show b ∈ ([] : List Addr) from y)) (fun y => by cases y)
        | some x =>
          rcases hp0_cases z with ⟨y, _⟩ | ⟨_, hba, _, hx⟩
          · exact absurd y hb
          · rw [hx] at z
            obtain ⟨g1, _⟩ := hok' b _ (un.frzs b _ _ z)
            rw [hba, I.lst] at e
            cases e
            exact g1
      -- the table has grown
      obtain ⟨more, hmore⟩ : ∃ more : Array Value, s'.heap.get? T = some { cls := .none, data := .fields more } := by
        obtain ⟨more, z⟩ := un.tbls T #[] hp0_T
        exact ⟨_, hok' T _ z⟩
      refine ⟨by rw [hu], ⟨fun b o e => ?_, fun b o e => ?_⟩, hos, hbare⟩
      · by_cases hb : b = T
        · subst hb
          rw [I.tab] at e
          cases e
          exact .inr (.inl ⟨(I.code.tab I.tab).isCodeTable, rfl, #[], more, rfl, by rw [Array.empty_append]; exact hmore⟩)
        · exact .inl (stay b o hb e)
      · by_cases hb : b = T
        · subst hb
          exact ⟨_, hmore⟩
        · exact ⟨o, stay b o hb e⟩
end
end TL
/-! Trylocks: the join. -/
namespace TL
open PySem PySem.W PySem.Calls PyProof.Rows
theorem joined (plain : ∀ b acts g, GoodIn b acts g → FarOk b acts g) : PySem.Challenge.rw_trylocks_k04_whole_far_rows.Holds := by
  w_on; o_law
  refine HandSHeadRun.head_any (r := Rw) (q := view Rw.prog [59]) (H := hkL) (ob := obL) (M := 6000) (loose := looseL) (d := HandSHeadRun.topDef Rw.prog 59) (kwd := []) obL_eq
    (by kernel_rfl) (fun s => by kernel_rfl) runL (by kernel_rfl) (by kernel_rfl) (by kernel_rfl) (by rfl) (by first | assumption | decide +kernel) (by decide +kernel) ⟨rfl, rfl, rfl, rfl, rfl, by decide +kernel⟩ ?hw ?hc
  case hw => w_witness2
  case hc =>
    refine Att.attach_callB (n := 63) rfl (by kernel_rfl) fun w s₀ s₁ mg mb fa o pm cd doc a vs ns G Y ho hd hcd hmg0 hobj hints hlen hbits hg => ?_
    obtain ⟨K, KX, c⟩ := Y
    have hmg : mg ("law" : PySem.Str) = some (.ref fa) := by
      have e : (HandSHeadRun.topDef Rw.prog 59).name = ("law" : PySem.Str) := by kernel_rfl
      rw [← e]
      exact hmg0
    have hm : (("step" : PySem.Str), (none : Option PySem.Str)) ∈ tfL := List.mem_singleton.mpr rfl
    have I : EndIn K mg mb (He.cT K ("step", none)).1 (He.cT K ("step", none)).2 a vs s₁ :=
      ⟨KX, G.T.g, G.T.b, G.T.builtins, G.T.nolimit, hg, c.empty _ hm, c.out _ hm, codeHd_of_K KX (c.hd _ hm), G.T.bmain, hobj⟩
    refine law_end I hints (Nat.le_trans hlen (by decide)) (k := 9) ⟨rfl, by decide, by decide⟩ fun base Kb TB => ?_
    obtain ⟨f', F, hf, kp⟩ := (c_law (P := Rw.prog) (w := w) (base := base) (says_L c KX G.T.g) TB plain).ex
    have ef : f' = fa := by
      rw [hmg] at hf
      exact (PySem.Value.ref.inj (Option.some.inj hf)).symm
    rw [← ef]
    exact F
end TL
/-! Trylocks, plain: one part from action to action. -/
namespace TL
section
variable {b : Book} {acts : List Act} {g : Int} {r : Rule} {k : Nat} {y : Key}
def actN (acts : List Act) (N : Nat) : Act := acts.getD (N % acts.length) .none
/-- the part of a rule at a key ahead of the N-th action -/
def vN (b : Book) (acts : List Act) (g : Int) (r : Rule) (k : Nat) (y : Key) (N : Nat) : Part := norm r (getC (lrun b.rules g acts N) k y) ((N : Int) * g)
def lockN (b : Book) (acts : List Act) (g : Int) (N : Nat) (a p : Int) : Bool := decide (0 < (heldL b.rules (lrun b.rules g acts N) ((N : Int) * g) a p).length)
theorem lock_iff {N : Nat} {a p : Int} : lockN b acts g N a p = true ↔ ∃ (i : Nat) (r : Rule), b.rules[i]? = some r ∧ 0 < (vN b acts g r i (keyFor r a p) N).left := by
  unfold lockN
  rw [decide_eq_true_iff, held_pos]
  constructor
  · rintro ⟨i, r, h1, h2⟩
    exact ⟨i, r, h1, by unfold vN; rw [norm_left]; exact left_pos.mpr h2⟩
  · rintro ⟨i, r, h1, h2⟩
    exact ⟨i, r, h1, by unfold vN at h2; rw [norm_left] at h2; exact left_pos.mp h2⟩
/-- what an action makes of a part, ahead of the next moment -/
def chg (b : Book) (acts : List Act) (g : Int) (r : Rule) (k : Nat) (y : Key) (N : Nat) : Part := match actN acts N with
  | .none => passed r (vN b acts g r k y N) 1
  | .open_ a => if y.1 = some a then newPart else passed r (vN b acts g r k y N) 1
  | .try_ a p right => if y = keyFor r a p then (if lockN b acts g N a p then keptPart r (vN b acts g r k y N) else if right then letPart r (vN b acts g r k y N) else begun r (vN b acts g r k y N)) else passed r (vN b acts g r k y N) 1
theorem actN_in (G : GoodIn b acts g) (N : Nat) : ActOk b (actN acts N) := by
  have h : N % acts.length < acts.length := Nat.mod_lt _ (by have := G.few.1; omega)
  unfold actN
  rw [List.getD_eq_getElem?_getD, List.getElem?_eq_getElem h]
  exact G.acts _ (List.getElem_mem h)
theorem v_step (G : GoodIn b acts g) (hr : b.rules[k]? = some r) (hy : y ∈ keysOf b r) (N : Nat) : vN b acts g r k y (N + 1) = passed r (chg b acts g r k y N) (g - 1) := by
  have hg := G.gap.1
  have hro := G.rules r (List.mem_of_getElem? hr)
  have hN : ((N + 1 : Nat) : Int) * g = (N : Int) * g + 1 + (g - 1) := by
    rw [show ((N + 1 : Nat) : Int) = (N : Int) + 1 by omega, Int.add_mul, Int.one_mul]
    omega
  have hc := run_ok (g := g) (acts := acts) G.rules N
  have hc1 := run_ok (g := g) (acts := acts) G.rules (N + 1)
  have ht : 0 ≤ (N : Int) * g := Int.mul_nonneg (by omega) (by omega)
  have ha := actB_of (actN_in G N)
  unfold vN
  rw [hN, ← passed_norm (getC_ok hc1 k y).c0 hro.2.2.2.1 (by omega)]
  congr 1
  show norm r (getC (doL b.rules (lrun b.rules g acts N) ((N : Int) * g) (actN acts N)).2 k y) ((N : Int) * g + 1) = _
  unfold chg vN lockN
  generalize actN acts N = act at ha
  generalize lrun b.rules g acts N = L at hc
  generalize (N : Int) * g = t at ht
  cases act with
  | none => exact (passed_norm (getC_ok hc _ _).c0 hro.2.2.2.1 (by decide)).symm
  | open_ a =>
    show norm r (getC (L.map fun e => if e.1.2.1 = some a then (e.1, zeroC) else e) k y) (t + 1) = _
    rw [getC_open]
    by_cases h : y.1 = some a
    · rw [if_pos h, norm_zero r (by omega)]
      exact (if_pos h).symm
    · rw [if_neg h]
      refine Eq.trans ?_ (if_neg h).symm
      exact (passed_norm (getC_ok hc _ _).c0 hro.2.2.2.1 (by decide)).symm
  | try_ a p right =>
    have hfold := getC_fold (rs := b.rules) (held := heldL b.rules L t a p) (t := t) (a := a) (p := p) (right := right) (L := L) k y b.rules.length (Nat.le_refl _)
    rw [hr] at hfold
    dsimp only at hfold
    have hil : k < b.rules.length := (List.getElem?_eq_some_iff.mp hr).1
    show norm r (getC ((List.range b.rules.length).foldl (tryL b.rules (heldL b.rules L t a p) t a p right) L) k y) (t + 1) = _
    rw [hfold]
    dsimp only
    by_cases e : y = keyFor r a p
    · rw [if_pos ⟨hil, e⟩, if_pos e]
      have hm := held_mem (L := L) (t := t) (a := a) (p := p) hr
      rw [← e] at hm
      by_cases hh : 0 < (heldL b.rules L t a p).length
      · rw [if_pos (decide_eq_true hh), kept_norm hro (getC_ok hc _ _)]
        unfold cellDo
        rw [if_pos hh]
        obtain ⟨f2, f3, f4⟩ := fresh_c1 r (getC L k y) t
        by_cases z : t ≤ (getC L k y).c2 ∧ r.strict = true
        · rw [if_pos z, if_pos ⟨hm.mpr z.1, z.2⟩, f3, f4]
        · rw [if_neg z, if_neg fun q => z ⟨hm.mp q.1, q.2⟩]
      · rw [if_neg (show ¬ decide (0 < (heldL b.rules L t a p).length) = true by rw [decide_eq_false hh]; exact Bool.false_ne_true)]
        cases right with
        | true =>
          rw [if_pos rfl, let_norm hro (getC_ok hc _ _) ht]
          unfold cellDo
          rw [if_neg hh, if_pos rfl]
        | false =>
          have hl : (getC L k y).c2 < t := by
            have q : ¬ t ≤ (getC L k y).c2 := fun z => hh (held_pos.mpr ⟨k, r, hr, by rw [← e]; exact z⟩)
            omega
          rw [if_neg Bool.false_ne_true, begun_norm hro (getC_ok hc _ _) hl]
          unfold cellDo
          rw [if_neg hh, if_neg Bool.false_ne_true]
    · rw [if_neg fun z => e z.2, if_neg e]
      exact (passed_norm (getC_ok hc _ _).c0 hro.2.2.2.1 (by decide)).symm
theorem v_zero : vN b acts g r k y 0 = newPart := by
  unfold vN
  rw [show ((0 : Nat) : Int) * g = 0 from Int.zero_mul g]
  exact norm_zero r (Int.le_refl 0)
/-- standings are alike where all parts are -/
theorem st_ext (G : GoodIn b acts g) {n m : Nat} (h : ∀ (k : Nat) (r : Rule) (y : Key), b.rules[k]? = some r → y ∈ keysOf b r → vN b acts g r k y (n * acts.length) = vN b acts g r k y (m * acts.length)) : stN b g acts n = stN b g acts m := by
  have t := fun m => (tot_norm (b := b) (g := g) (acts := acts) G.rules G.gap.1 (fun a ha => actB_of (G.acts a ha)) m).1
  rw [t, t]
  unfold normS
  refine normF_ext fun i r hi => ?_
  unfold rowN
  refine List.map_congr_left fun y hy => ?_
  rw [Nat.zero_add]
  exact h i r y hi hy
/-! ### what a part can hold -/
structure PartIn (r : Rule) (x : Part) : Prop where
  c0 : 0 ≤ x.count
  c1 : x.count < r.most
  s0 : 0 ≤ x.streak
  s1 : x.streak ≤ 2
  w0 : x.left = 0 → x.whole = 0
  l0 : 0 ≤ x.left
  w1 : 0 ≤ x.whole
theorem new_in (hr : RuleOk r) : PartIn r newPart := ⟨Int.le_refl 0, by show (0 : Int) < r.most; have := hr.2.1.1; omega, Int.le_refl 0, by show (0 : Int) ≤ 2; omega, fun _ => rfl, Int.le_refl 0, Int.le_refl 0⟩
theorem max0_nn (i : Int) : 0 ≤ max0 i := by unfold max0; split <;> omega
theorem passed_in {x : Part} (hr : RuleOk r) (h : PartIn r x) (n : Int) : PartIn r (passed r x n) := by
  have hm := hr.2.1.1
  refine ⟨?_, ?_, by rw [passed_str]; exact h.s0, by rw [passed_str]; exact h.s1, fun z => ?_, by rw [passed_left]; exact max0_nn _, by rw [passed_whole]; have := h.w1; split <;> omega⟩
  · rw [passed_count]; have := h.c0; split <;> omega
  · rw [passed_count]; have := h.c1; split <;> omega
  · rw [passed_left] at z
    rw [passed_whole, if_neg fun q => q z]
end
end TL
/-! Trylocks, plain: a part between two events. -/
namespace TL
section
variable {b : Book} {acts : List Act} {g : Int} {r : Rule} {k : Nat} {y : Key}
/-- the action touches the cell by a try, by opening -/
def tchA (r : Rule) (y : Key) : Act → Bool
  | .try_ a p _ => decide (y = keyFor r a p)
  | _ => false
def opA (y : Key) : Act → Bool
  | .open_ a => decide (y.1 = some a)
  | _ => false
def qst (r : Rule) (g : Int) (t : Bool) (x : Part) : Part := passed r (if t then keptPart r x else passed r x 1) (g - 1)
/-- a wrong try that is looked at; a reset -/
def evC (b : Book) (acts : List Act) (g : Int) (r : Rule) (y : Key) (N : Nat) : Bool := match actN acts N with
  | .try_ a p false => decide (y = keyFor r a p) && !lockN b acts g N a p
  | _ => false
def rsC (b : Book) (acts : List Act) (g : Int) (r : Rule) (y : Key) (N : Nat) : Bool := match actN acts N with
  | .open_ a => decide (y.1 = some a)
  | .try_ a p true => decide (y = keyFor r a p) && !lockN b acts g N a p && r.clears
  | _ => false
theorem passed_new (r : Rule) {n : Int} (hn : 0 ≤ n) : passed r newPart n = newPart := by
  refine part_ext ?_ ?_ ?_ ?_ ?_
  · rw [passed_count]; split <;> rfl
  · rw [passed_age]; rw [if_neg fun z => z.2 rfl]
  · rw [passed_left]; show max0 (0 - n) = 0; unfold max0; split <;> omega
  · rw [passed_whole]; split <;> rfl
  · rw [passed_str]
theorem kept_in {x : Part} (hr : RuleOk r) (h : PartIn r x) : PartIn r (keptPart r x) := by
  have q := passed_in hr h 1
  unfold keptPart
  split
  · rename_i z
    exact ⟨q.c0, q.c1, q.s0, q.s1, fun e => e, h.w1, h.w1⟩
  · exact q
theorem let_in {x : Part} (hr : RuleOk r) (h : PartIn r x) : PartIn r (letPart r x) := by
  unfold letPart
  split
  · exact new_in hr
  · exact passed_in hr h 1
theorem factor_pos (s : Int) : 1 ≤ factor s ∧ factor s ≤ 4 := by
  unfold factor
  split
  · omega
  · split <;> omega
theorem size_pos (hr : RuleOk r) (s : Int) : 1 ≤ r.lock * (if r.grows then factor s else 1) := by
  have hl := hr.2.2.1.1
  have hf := factor_pos s
  have : 0 < r.lock * (if r.grows then factor s else 1) := Int.mul_pos (by omega) (by split <;> omega)
  omega
theorem begun_in {x : Part} (hr : RuleOk r) (h : PartIn r x) : PartIn r (begun r x) := by
  unfold begun
  have h0 := h.c0
  split
  · rename_i z
    have q : PartIn r ⟨x.count + 1, 0, 0, 0, x.streak⟩ := ⟨by show 0 ≤ x.count + 1; omega, z, h.s0, h.s1, fun _ => rfl, Int.le_refl 0, Int.le_refl 0⟩
    exact passed_in hr q 1
  · have hs := size_pos hr x.streak
    refine ⟨Int.le_refl 0, by show (0 : Int) < r.most; have := hr.2.1.1; omega, ?_, ?_, fun e => e, by show 0 ≤ r.lock * (if r.grows then factor x.streak else 1); omega, by show 0 ≤ r.lock * (if r.grows then factor x.streak else 1); omega⟩
    · show 0 ≤ (if r.grows then min2 (x.streak + 1) else 0)
      have := h.s0
      unfold min2
      split
      · split <;> omega
      · omega
    · show (if r.grows then min2 (x.streak + 1) else 0) ≤ 2
      unfold min2
      split
      · split <;> omega
      · omega
theorem chg_in (hr : RuleOk r) {N : Nat} (h : PartIn r (vN b acts g r k y N)) : PartIn r (chg b acts g r k y N) := by
  unfold chg
  split
  · exact passed_in hr h 1
  · split
    · exact new_in hr
    · exact passed_in hr h 1
  · split
    · split
      · exact kept_in hr h
      · split
        · exact let_in hr h
        · exact begun_in hr h
    · exact passed_in hr h 1
theorem v_in (G : GoodIn b acts g) (hr : b.rules[k]? = some r) (hy : y ∈ keysOf b r) : ∀ N, PartIn r (vN b acts g r k y N)
  | 0 => by rw [v_zero]; exact new_in (G.rules r (List.mem_of_getElem? hr))
  | N + 1 => by
    have hro := G.rules r (List.mem_of_getElem? hr)
    rw [v_step G hr hy]
    exact passed_in hro (chg_in hro (v_in G hr hy N)) _
/-! ### the three kinds of step -/
theorem v_ev (G : GoodIn b acts g) (hr : b.rules[k]? = some r) (hy : y ∈ keysOf b r) {N : Nat} (h : evC b acts g r y N = true) : vN b acts g r k y (N + 1) = passed r (begun r (vN b acts g r k y N)) (g - 1) := by
  rw [v_step G hr hy]
  unfold chg
  unfold evC at h
  generalize actN acts N = act at h
  cases act with
  | none => cases h
  | open_ a => cases h
  | try_ a p right =>
    cases right with
    | true => cases h
    | false =>
      have h' : (decide (y = keyFor r a p) && !lockN b acts g N a p) = true := h
      rw [Bool.and_eq_true, decide_eq_true_iff, Bool.not_eq_true'] at h'
      dsimp only
      rw [if_pos h'.1, h'.2, if_neg Bool.false_ne_true, if_neg Bool.false_ne_true]
theorem v_rs (G : GoodIn b acts g) (hr : b.rules[k]? = some r) (hy : y ∈ keysOf b r) {N : Nat} (h : rsC b acts g r y N = true) : vN b acts g r k y (N + 1) = newPart := by
  rw [v_step G hr hy]
  have hz : chg b acts g r k y N = newPart := by
    unfold chg
    unfold rsC at h
    generalize actN acts N = act at h
    cases act with
    | none => cases h
    | open_ a => exact if_pos (of_decide_eq_true h)
    | try_ a p right =>
      cases right with
      | false => cases h
      | true =>
        have h' : (decide (y = keyFor r a p) && !lockN b acts g N a p && r.clears) = true := h
        rw [Bool.and_eq_true, Bool.and_eq_true, decide_eq_true_iff, Bool.not_eq_true'] at h'
        dsimp only
        rw [if_pos h'.1.1, h'.1.2, if_neg Bool.false_ne_true, if_pos rfl]
        unfold letPart
        rw [if_pos h'.2]
  rw [hz, passed_new r (by have := G.gap.1; omega)]
theorem kept_free {x : Part} (h : ¬ 0 < x.left) : keptPart r x = passed r x 1 := by
  unfold keptPart
  rw [if_neg fun z => h z.2]
theorem v_q (G : GoodIn b acts g) (hr : b.rules[k]? = some r) (hy : y ∈ keysOf b r) {N : Nat} (h1 : evC b acts g r y N = false) (h2 : rsC b acts g r y N = false) : vN b acts g r k y (N + 1) = qst r g (tchA r y (actN acts N)) (vN b acts g r k y N) := by
  rw [v_step G hr hy]
  unfold qst
  congr 1
  have hL := @lock_iff b acts g N
  unfold chg tchA
  unfold evC at h1
  unfold rsC at h2
  generalize actN acts N = act at h1 h2
  cases act with
  | none => rfl
  | open_ a => exact if_neg (of_decide_eq_false h2)
  | try_ a p right =>
    dsimp only at h1 h2 ⊢
    by_cases e : y = keyFor r a p
    · rw [if_pos e, if_pos (decide_eq_true e)]
      cases hl : lockN b acts g N a p with
      | true => rw [if_pos rfl]
      | false =>
        rw [if_neg Bool.false_ne_true]
        have hfree : ¬ 0 < (vN b acts g r k y N).left := fun z => by
          have q := hL.mpr ⟨k, r, hr, by rw [← e]; exact z⟩
          rw [hl] at q
          cases q
        rw [kept_free hfree]
        cases right with
        | false =>
          have h1' : (decide (y = keyFor r a p) && !lockN b acts g N a p) = false := h1
          rw [decide_eq_true e, hl] at h1'
          cases h1'
        | true =>
          have h2' : (decide (y = keyFor r a p) && !lockN b acts g N a p && r.clears) = false := h2
          rw [decide_eq_true e, hl] at h2'
          have hc : r.clears = false := h2'
          rw [if_pos rfl]
          unfold letPart
          rw [hc, if_neg Bool.false_ne_true]
    · rw [if_neg e, if_neg (show ¬ decide (y = keyFor r a p) = true by rw [decide_eq_false e]; exact Bool.false_ne_true)]
/-! ### what an event leaves -/
def kd (r : Rule) (x : Part) : Int × Int := (if x.count + 1 < r.most then x.count else 2, x.streak)
def KD : List (Int × Int) := [(0, 0), (0, 1), (0, 2), (1, 0), (1, 1), (1, 2), (2, 0), (2, 1), (2, 2)]
def bg (r : Rule) (κ : Int × Int) : Part := if κ.1 = 2 then ⟨0, 0, r.lock * (if r.grows then factor κ.2 else 1), r.lock * (if r.grows then factor κ.2 else 1), if r.grows then min2 (κ.2 + 1) else 0⟩ else passed r ⟨κ.1 + 1, 0, 0, 0, κ.2⟩ 1
theorem kd_in {x : Part} (hr : RuleOk r) (h : PartIn r x) : kd r x ∈ KD := by
  have h0 := h.c0
  have h3 := h.s0
  have h4 := h.s1
  have hm := hr.2.1.2
  have hc : (if x.count + 1 < r.most then x.count else 2) = 0 ∨ (if x.count + 1 < r.most then x.count else 2) = 1 ∨ (if x.count + 1 < r.most then x.count else 2) = 2 := by split <;> omega
  have hs : x.streak = 0 ∨ x.streak = 1 ∨ x.streak = 2 := by omega
  unfold kd KD
  rcases hc with e | e | e <;> rcases hs with f | f | f <;> rw [e, f] <;> simp
theorem begun_kd {x : Part} (hr : RuleOk r) (h : PartIn r x) : begun r x = bg r (kd r x) := by
  have h0 := h.c0
  have hm := hr.2.1.2
  unfold begun bg kd
  dsimp only
  by_cases z : x.count + 1 < r.most
  · rw [if_pos z, if_pos z, if_neg (by omega)]
  · rw [if_neg z, if_neg z, if_pos rfl]
/-- the lock's size | none -/
def sizeK (r : Rule) (κ : Int × Int) : Int := if κ.1 = 2 then r.lock * (if r.grows then factor κ.2 else 1) else 0
def wcK (κ : Int × Int) : Nat := if κ.1 = 2 then (if κ.2 = 0 then 4 else if κ.2 = 1 then 8 else 16) else 0
theorem size_le {κ : Int × Int} (hr : RuleOk r) : sizeK r κ ≤ wcK κ := by
  have hl1 := hr.2.2.1.1
  have hl2 := hr.2.2.1.2
  unfold sizeK wcK
  split
  · have hf : (if r.grows then factor κ.2 else 1) ≤ factor κ.2 := by have := factor_pos κ.2; split <;> omega
    have h2 : r.lock * (if r.grows then factor κ.2 else 1) ≤ 4 * factor κ.2 := Int.mul_le_mul hl2 hf (by have := factor_pos κ.2; split <;> omega) (by decide)
    refine Int.le_trans h2 ?_
    unfold factor
    split
    · decide
    · split <;> decide
  · decide
/-- m moments' steps behind an event, the first of them at place s -/
def VG (r : Rule) (g : Int) (T : Nat) (tc : Nat → Bool) (κ : Int × Int) (s : Nat) : Nat → Part
  | 0 => passed r (bg r κ) (g - 1)
  | m + 1 => qst r g (tc ((s + m) % T)) (VG r g T tc κ s m)
theorem VG_mod {T : Nat} {tc : Nat → Bool} {κ : Int × Int} {s s' : Nat} (h : s % T = s' % T) : ∀ m, VG r g T tc κ s m = VG r g T tc κ s' m
  | 0 => rfl
  | m + 1 => by
    have e : (s + m) % T = (s' + m) % T := by rw [Nat.add_mod, h, ← Nat.add_mod]
    show qst r g (tc ((s + m) % T)) (VG r g T tc κ s m) = qst r g (tc ((s' + m) % T)) (VG r g T tc κ s' m)
    rw [e, VG_mod h m]
end
end TL
/-! Trylocks, plain: what is seen of an event settles. -/
namespace TL
section
variable {g : Int} {r : Rule} {T : Nat} {tc : Nat → Bool} {κ : Int × Int} {s : Nat}
theorem kept_count (r : Rule) (x : Part) : (keptPart r x).count = (passed r x 1).count := by unfold keptPart; split <;> rfl
theorem kept_age (r : Rule) (x : Part) : (keptPart r x).age = (passed r x 1).age := by unfold keptPart; split <;> rfl
theorem kept_str (r : Rule) (x : Part) : (keptPart r x).streak = x.streak := by
  unfold keptPart
  split
  · exact passed_str r x 1
  · exact passed_str r x 1
theorem qst_count (t : Bool) (x : Part) : (qst r g t x).count = (passed r (passed r x 1) (g - 1)).count := by
  unfold qst
  cases t with
  | false => rfl
  | true => rw [if_pos rfl, passed_count, passed_count, kept_count, kept_age]
theorem qst_age (t : Bool) (x : Part) : (qst r g t x).age = (passed r (passed r x 1) (g - 1)).age := by
  unfold qst
  cases t with
  | false => rfl
  | true => rw [if_pos rfl, passed_age, passed_age, kept_count, kept_age]
theorem qst_str (t : Bool) (x : Part) : (qst r g t x).streak = x.streak := by
  unfold qst
  rw [passed_str]
  cases t with
  | false => exact passed_str r x 1
  | true => exact kept_str r x
theorem pp_count (x : Part) (hg : 1 ≤ g) : (passed r (passed r x 1) (g - 1)).count = if r.fade ≠ 0 ∧ x.count ≠ 0 ∧ r.fade ≤ x.age + g then 0 else x.count := by
  rw [passed_count, passed_count, passed_age]
  by_cases h1 : r.fade ≠ 0 ∧ x.count ≠ 0
  · by_cases h2 : r.fade ≤ x.age + 1
    · rw [if_pos (show r.fade ≠ 0 ∧ x.count ≠ 0 ∧ r.fade ≤ x.age + 1 from ⟨h1.1, h1.2, h2⟩), if_pos (show r.fade ≠ 0 ∧ x.count ≠ 0 ∧ r.fade ≤ x.age + g from ⟨h1.1, h1.2, by omega⟩)]
      exact ite_self _
    · rw [if_neg (show ¬ (r.fade ≠ 0 ∧ x.count ≠ 0 ∧ r.fade ≤ x.age + 1) from fun z => h2 z.2.2), if_pos h1, if_neg h2, show x.age + 1 + (g - 1) = x.age + g by omega]
  · rw [if_neg (show ¬ (r.fade ≠ 0 ∧ x.count ≠ 0 ∧ r.fade ≤ x.age + 1) from fun z => h1 ⟨z.1, z.2.1⟩), if_neg (show ¬ (r.fade ≠ 0 ∧ x.count ≠ 0 ∧ r.fade ≤ x.age + g) from fun z => h1 ⟨z.1, z.2.1⟩)]
    exact if_neg fun z => h1 ⟨z.1, z.2.1⟩
theorem pp_age (x : Part) (hg : 1 ≤ g) : (passed r (passed r x 1) (g - 1)).age = if r.fade ≠ 0 ∧ x.count ≠ 0 then (if r.fade ≤ x.age + g then 0 else x.age + g) else x.age := by
  rw [passed_age, passed_count, passed_age]
  by_cases h1 : r.fade ≠ 0 ∧ x.count ≠ 0
  · by_cases h2 : r.fade ≤ x.age + 1
    · rw [if_pos (show r.fade ≠ 0 ∧ x.count ≠ 0 ∧ r.fade ≤ x.age + 1 from ⟨h1.1, h1.2, h2⟩), if_pos h1, if_pos h2, if_pos h1, if_pos (show r.fade ≤ x.age + g by omega)]
      exact if_neg fun z => z.2 rfl
    · rw [if_neg (show ¬ (r.fade ≠ 0 ∧ x.count ≠ 0 ∧ r.fade ≤ x.age + 1) from fun z => h2 z.2.2), if_pos h1, if_neg h2, if_pos h1, if_pos h1, show x.age + 1 + (g - 1) = x.age + g by omega]
  · rw [if_neg (show ¬ (r.fade ≠ 0 ∧ x.count ≠ 0 ∧ r.fade ≤ x.age + 1) from fun z => h1 ⟨z.1, z.2.1⟩), if_neg h1, if_neg h1, if_neg h1]
theorem c0_nn (hk : κ ∈ KD) : 0 ≤ (if κ.1 = 2 then 0 else κ.1 + 1) := by
  unfold KD at hk
  simp only [List.mem_cons, List.not_mem_nil, or_false] at hk
  rcases hk with rfl | rfl | rfl | rfl | rfl | rfl | rfl | rfl | rfl <;> decide
/-- count and age behind m steps, in closed form -/
def c0K (κ : Int × Int) : Int := if κ.1 = 2 then 0 else κ.1 + 1
theorem VG_ca (hr : RuleOk r) (hg : 1 ≤ g) (hk : κ ∈ KD) : ∀ m : Nat, (VG r g T tc κ s m).count = (if r.fade ≠ 0 ∧ r.fade ≤ ((m : Int) + 1) * g then 0 else c0K κ) ∧ (VG r g T tc κ s m).age = (if (r.fade ≠ 0 ∧ c0K κ ≠ 0) ∧ ¬ r.fade ≤ ((m : Int) + 1) * g then ((m : Int) + 1) * g else 0)
  | 0 => by
    have hf := hr.2.2.2.1
    have hc : 0 ≤ c0K κ := c0_nn hk
    have h1 : (((0 : Nat) : Int) + 1) * g = g := by rw [show ((0 : Nat) : Int) + 1 = 1 from rfl, Int.one_mul]
    rw [h1]
    -- the part of which the event's is the next
    have hb : ∃ x : Part, (bg r κ).count = (passed r x 1).count ∧ (bg r κ).age = (passed r x 1).age ∧ x.count = c0K κ ∧ x.age = 0 := by
      unfold bg c0K
      by_cases z : κ.1 = 2
      · rw [if_pos z, if_pos z]
        refine ⟨⟨0, 0, 0, 0, 0⟩, ?_, ?_, rfl, rfl⟩
        · rw [passed_count]; exact (ite_self _).symm
        · rw [passed_age]; exact (if_neg fun q => q.2 rfl).symm
      · rw [if_neg z, if_neg z]
        exact ⟨⟨κ.1 + 1, 0, 0, 0, κ.2⟩, rfl, rfl, rfl, rfl⟩
    obtain ⟨x, b1, b2, b3, b4⟩ := hb
    have p1 := pp_count (r := r) x hg
    have p2 := pp_age (r := r) x hg
    rw [passed_count, ← b1, ← b2, ← passed_count, b3, b4, Int.zero_add] at p1
    rw [passed_age, ← b1, ← b2, ← passed_age, b3, b4, Int.zero_add] at p2
    show (passed r (bg r κ) (g - 1)).count = _ ∧ (passed r (bg r κ) (g - 1)).age = _
    rw [p1, p2]
    generalize c0K κ = c at hc
    clear b1 b2 b3 b4 p1 p2
    constructor
    · by_cases h1 : c = 0
      · rw [h1]; split <;> split <;> rfl
      · by_cases h2 : r.fade ≠ 0 ∧ r.fade ≤ g
        · rw [if_pos h2, if_pos ⟨h2.1, h1, h2.2⟩]
        · rw [if_neg h2, if_neg fun z => h2 ⟨z.1, z.2.2⟩]
    · by_cases h1 : r.fade ≠ 0 ∧ c ≠ 0
      · rw [if_pos h1]
        by_cases h2 : r.fade ≤ g
        · rw [if_pos h2, if_neg fun z => z.2 h2]
        · rw [if_neg h2, if_pos ⟨h1, h2⟩]
      · rw [if_neg h1, if_neg fun z => h1 z.1]
  | m + 1 => by
    obtain ⟨i1, i2⟩ := VG_ca hr hg hk m
    have hf := hr.2.2.2.1
    have hc : 0 ≤ c0K κ := c0_nn hk
    have hM : (((m + 1 : Nat) : Int) + 1) * g = ((m : Int) + 1) * g + g := by
      rw [show (((m + 1 : Nat) : Int) + 1) = ((m : Int) + 1) + 1 by omega, Int.add_mul ((m : Int) + 1), Int.one_mul]
    have hM0 : 0 ≤ ((m : Int) + 1) * g := Int.mul_nonneg (by omega) (by omega)
    show (qst r g _ _).count = _ ∧ (qst r g _ _).age = _
    rw [qst_count, qst_age, pp_count _ hg, pp_age _ hg, i1, i2, hM]
    clear i1 i2 hM
    generalize ((m : Int) + 1) * g = M at hM0
    generalize c0K κ = c at hc
    by_cases h0 : c = 0
    · rw [h0]
      refine ⟨?_, ?_⟩
      · simp only [ite_self]
      · rw [if_neg (show ¬ (r.fade ≠ 0 ∧ (if r.fade ≠ 0 ∧ r.fade ≤ M then (0 : Int) else 0) ≠ 0) from fun z => z.2 (by split <;> rfl)), if_neg (show ¬ ((r.fade ≠ 0 ∧ (0 : Int) ≠ 0) ∧ ¬ r.fade ≤ M) from fun z => z.1.2 rfl), if_neg (show ¬ ((r.fade ≠ 0 ∧ (0 : Int) ≠ 0) ∧ ¬ r.fade ≤ M + g) from fun z => z.1.2 rfl)]
    · by_cases h1 : r.fade ≠ 0
      · by_cases h2 : r.fade ≤ M
        · rw [if_pos (show r.fade ≠ 0 ∧ r.fade ≤ M from ⟨h1, h2⟩), if_neg (show ¬ ((r.fade ≠ 0 ∧ c ≠ 0) ∧ ¬ r.fade ≤ M) from fun z => z.2 h2), if_pos (show r.fade ≠ 0 ∧ r.fade ≤ M + g from ⟨h1, by omega⟩), if_neg (show ¬ ((r.fade ≠ 0 ∧ c ≠ 0) ∧ ¬ r.fade ≤ M + g) from fun z => z.2 (by omega))]
          refine ⟨if_neg fun z => z.2.1 rfl, if_neg fun z => z.2 rfl⟩
        · rw [if_neg (show ¬ (r.fade ≠ 0 ∧ r.fade ≤ M) from fun z => h2 z.2), if_pos (show (r.fade ≠ 0 ∧ c ≠ 0) ∧ ¬ r.fade ≤ M from ⟨⟨h1, h0⟩, h2⟩), if_pos (show r.fade ≠ 0 ∧ c ≠ 0 from ⟨h1, h0⟩)]
          by_cases h3 : r.fade ≤ M + g
          · rw [if_pos (show r.fade ≠ 0 ∧ c ≠ 0 ∧ r.fade ≤ M + g from ⟨h1, h0, h3⟩), if_pos (show r.fade ≠ 0 ∧ r.fade ≤ M + g from ⟨h1, h3⟩), if_pos h3, if_neg (show ¬ ((r.fade ≠ 0 ∧ c ≠ 0) ∧ ¬ r.fade ≤ M + g) from fun z => z.2 h3)]
            exact ⟨rfl, rfl⟩
          · rw [if_neg (show ¬ (r.fade ≠ 0 ∧ c ≠ 0 ∧ r.fade ≤ M + g) from fun z => h3 z.2.2), if_neg (show ¬ (r.fade ≠ 0 ∧ r.fade ≤ M + g) from fun z => h3 z.2), if_neg h3, if_pos (show (r.fade ≠ 0 ∧ c ≠ 0) ∧ ¬ r.fade ≤ M + g from ⟨⟨h1, h0⟩, h3⟩)]
            exact ⟨rfl, rfl⟩
      · rw [if_neg (show ¬ (r.fade ≠ 0 ∧ r.fade ≤ M) from fun z => h1 z.1), if_neg (show ¬ ((r.fade ≠ 0 ∧ c ≠ 0) ∧ ¬ r.fade ≤ M) from fun z => h1 z.1.1), if_neg (show ¬ (r.fade ≠ 0 ∧ c ≠ 0) from fun z => h1 z.1), if_neg (show ¬ (r.fade ≠ 0 ∧ r.fade ≤ M + g) from fun z => h1 z.1), if_neg (show ¬ ((r.fade ≠ 0 ∧ c ≠ 0) ∧ ¬ r.fade ≤ M + g) from fun z => h1 z.1.1)]
        exact ⟨if_neg fun z => h1 z.1, rfl⟩
theorem VG_str (m : Nat) : (VG r g T tc κ s m).streak = (bg r κ).streak := by
  induction m with
  | zero => exact passed_str _ _ _
  | succ m ih => exact (qst_str _ _).trans ih
/-! ### locks -/
theorem max0_max0 (a n : Int) (hn : 0 ≤ n) : max0 (max0 a - n) = max0 (a - n) := by unfold max0; split <;> split <;> omega
theorem max0_zero {a : Int} : max0 a = 0 ↔ a ≤ 0 := by unfold max0; split <;> omega
theorem pp_left (x : Part) (hg : 1 ≤ g) (h : 0 ≤ x.left) : (passed r (passed r x 1) (g - 1)).left = max0 (x.left - g) := by
  rw [passed_left, passed_left, max0_max0 _ _ (by omega), show x.left - 1 - (g - 1) = x.left - g by omega]
theorem pp_whole (x : Part) (hg : 1 ≤ g) : (passed r (passed r x 1) (g - 1)).whole = if max0 (x.left - g) ≠ 0 then x.whole else 0 := by
  rw [passed_whole, passed_whole, passed_left, max0_max0 _ _ (by omega), show x.left - 1 - (g - 1) = x.left - g by omega]
  by_cases h : max0 (x.left - g) ≠ 0
  · have h1 : max0 (x.left - 1) ≠ 0 := fun z => h (max0_zero.mpr (by have := max0_zero.mp z; omega))
    rw [if_pos h, if_pos h, if_pos h1]
  · rw [if_neg h, if_neg h]
/-- a step that does not lock anew -/
theorem qst_soft {t : Bool} {x : Part} (h : ¬ (t = true ∧ r.strict = true ∧ 0 < x.left)) : qst r g t x = passed r (passed r x 1) (g - 1) := by
  unfold qst
  congr 1
  cases t with
  | false => rfl
  | true =>
    rw [if_pos rfl]
    unfold keptPart
    rw [if_neg fun z => h ⟨rfl, z.1, z.2⟩]
theorem qst_hard {x : Part} (h1 : r.strict = true) (h2 : 0 < x.left) : (qst r g true x).left = max0 (x.whole - (g - 1)) ∧ (qst r g true x).whole = if max0 (x.whole - (g - 1)) ≠ 0 then x.whole else 0 := by
  unfold qst
  rw [if_pos rfl, passed_left, passed_whole]
  unfold keptPart
  rw [if_pos ⟨h1, h2⟩]
  exact ⟨rfl, rfl⟩
/-- what is free stays free -/
theorem qst_free {t : Bool} {x : Part} (hg : 1 ≤ g) (h : x.left = 0) : (qst r g t x).left = 0 ∧ (qst r g t x).whole = 0 := by
  rw [qst_soft fun z => by have := z.2.2; omega, pp_left _ hg (by omega), pp_whole _ hg, h]
  have e : max0 (0 - g) = 0 := max0_zero.mpr (by omega)
  rw [e]
  exact ⟨rfl, if_neg fun z => z rfl⟩
theorem VG_free {m : Nat} (hg : 1 ≤ g) (h : (VG r g T tc κ s m).left = 0) : ∀ j : Nat, (VG r g T tc κ s (m + j)).left = 0
  | 0 => h
  | j + 1 => (qst_free hg (VG_free hg h j)).1
theorem VG_nn (hr : RuleOk r) (hg : 1 ≤ g) : ∀ m : Nat, 0 ≤ (VG r g T tc κ s m).left
  | 0 => by
    show 0 ≤ (passed r (bg r κ) (g - 1)).left
    rw [passed_left]
    exact max0_nn _
  | m + 1 => by
    show 0 ≤ (qst r g _ _).left
    unfold qst
    rw [passed_left]
    exact max0_nn _
theorem VG0 (hr : RuleOk r) (hg : 1 ≤ g) : (VG r g T tc κ s 0).left = max0 (sizeK r κ - (g - 1)) ∧ (VG r g T tc κ s 0).whole = if max0 (sizeK r κ - (g - 1)) ≠ 0 then sizeK r κ else 0 := by
  show (passed r (bg r κ) (g - 1)).left = _ ∧ (passed r (bg r κ) (g - 1)).whole = _
  rw [passed_left, passed_whole]
  unfold bg sizeK
  by_cases z : κ.1 = 2
  · rw [if_pos z, if_pos z]
    exact ⟨rfl, rfl⟩
  · rw [if_neg z, if_neg z, passed_left, passed_whole]
    have e : max0 ((0 : Int) - 1) = 0 := max0_zero.mpr (by decide)
    dsimp only
    rw [e]
    exact ⟨rfl, by split <;> (try split) <;> rfl⟩
/-- a soft lock -/
theorem VG_soft (hr : RuleOk r) (hg : 1 ≤ g) (h : r.strict = false) : ∀ m : Nat, (VG r g T tc κ s m).left = max0 (sizeK r κ - (((m : Int) + 1) * g - 1)) ∧ (VG r g T tc κ s m).whole = if max0 (sizeK r κ - (((m : Int) + 1) * g - 1)) ≠ 0 then sizeK r κ else 0
  | 0 => by
    rw [show (((0 : Nat) : Int) + 1) * g = g by rw [show ((0 : Nat) : Int) + 1 = 1 from rfl, Int.one_mul]]
    exact VG0 hr hg
  | m + 1 => by
    obtain ⟨i1, i2⟩ := VG_soft hr hg h m
    have hM : (((m + 1 : Nat) : Int) + 1) * g = ((m : Int) + 1) * g + g := by
      rw [show (((m + 1 : Nat) : Int) + 1) = ((m : Int) + 1) + 1 by omega, Int.add_mul ((m : Int) + 1), Int.one_mul]
    show (qst r g _ _).left = _ ∧ (qst r g _ _).whole = _
    rw [qst_soft (fun z => by rw [h] at z; cases z.2.1), pp_left _ hg (VG_nn hr hg m), pp_whole _ hg, i1, i2, hM, max0_max0 _ _ (by omega)]
    generalize ((m : Int) + 1) * g = M
    rw [show sizeK r κ - (M - 1) - g = sizeK r κ - (M + g - 1) by omega]
    refine ⟨rfl, ?_⟩
    by_cases z : max0 (sizeK r κ - (M + g - 1)) ≠ 0
    · have z2 : max0 (sizeK r κ - (M - 1)) ≠ 0 := fun q => z (max0_zero.mpr (by have := max0_zero.mp q; omega))
      rw [if_pos z, if_pos z, if_pos z2]
    · rw [if_neg z, if_neg z]
/-- while it holds, a lock keeps its size -/
theorem VG_whole (hr : RuleOk r) (hg : 1 ≤ g) : ∀ m : Nat, 0 < (VG r g T tc κ s m).left → (VG r g T tc κ s m).whole = sizeK r κ
  | 0 => fun h => by
    obtain ⟨i1, i2⟩ := VG0 (T := T) (tc := tc) (κ := κ) (s := s) hr hg
    rw [i1] at h
    rw [i2, if_pos (by omega)]
  | m + 1 => fun h => by
    have hm : 0 < (VG r g T tc κ s m).left := by
      have h0 := VG_nn (T := T) (tc := tc) (κ := κ) (s := s) hr hg m
      by_cases z : (VG r g T tc κ s m).left = 0
      · have q := VG_free hg z 1
        rw [q] at h
        omega
      · omega
    have ih := VG_whole hr hg m hm
    have h' : 0 < (qst r g (tc ((s + m) % T)) (VG r g T tc κ s m)).left := h
    show (qst r g (tc ((s + m) % T)) (VG r g T tc κ s m)).whole = _
    by_cases z : tc ((s + m) % T) = true ∧ r.strict = true ∧ 0 < (VG r g T tc κ s m).left
    · rw [z.1] at h' ⊢
      obtain ⟨j1, j2⟩ := qst_hard (g := g) z.2.1 z.2.2
      rw [j1] at h'
      rw [j2, if_pos (by omega), ih]
    · rw [qst_soft z] at h' ⊢
      rw [pp_left _ hg (by omega)] at h'
      rw [pp_whole _ hg, if_pos (by omega), ih]
/-- locks go alike from alike locks -/
theorem qst_lw {t : Bool} {x x' : Part} (hg : 1 ≤ g) (h0 : 0 ≤ x.left) (h1 : x.left = x'.left) (h2 : x.whole = x'.whole) : (qst r g t x).left = (qst r g t x').left ∧ (qst r g t x).whole = (qst r g t x').whole := by
  by_cases z : t = true ∧ r.strict = true ∧ 0 < x.left
  · obtain ⟨z1, z2, z3⟩ := z
    subst z1
    obtain ⟨a1, a2⟩ := qst_hard (g := g) z2 z3
    obtain ⟨b1, b2⟩ := qst_hard (g := g) (x := x') z2 (by rw [← h1]; exact z3)
    rw [a1, a2, b1, b2, h2]
    exact ⟨rfl, rfl⟩
  · rw [qst_soft z, qst_soft (x := x') (by rw [← h1]; exact z), pp_left _ hg h0, pp_left _ hg (by rw [← h1]; exact h0), pp_whole _ hg, pp_whole _ hg, h1, h2]
    exact ⟨rfl, rfl⟩
/-- a strict lock that holds for a whole round holds for ever -/
theorem VG_ring (hr : RuleOk r) (hg : 1 ≤ g) (hT : 1 ≤ T) (ht : tc ((s + (T - 1)) % T) = true) (hst : r.strict = true) (hl : 0 < (VG r g T tc κ s (T - 1)).left) : ∀ j : Nat, (VG r g T tc κ s (T + j)).left = (VG r g T tc κ s j).left ∧ (VG r g T tc κ s (T + j)).whole = (VG r g T tc κ s j).whole
  | 0 => by
    have hw := VG_whole hr hg (T - 1) hl
    obtain ⟨i1, i2⟩ := VG0 (T := T) (tc := tc) (κ := κ) (s := s) hr hg
    have e : VG r g T tc κ s (T + 0) = qst r g true (VG r g T tc κ s (T - 1)) := by
      rw [← ht, show T + 0 = (T - 1) + 1 by omega]
      rfl
    obtain ⟨a1, a2⟩ := qst_hard (g := g) hst hl
    rw [e, a1, a2, i1, i2, hw]
    exact ⟨rfl, rfl⟩
  | j + 1 => by
    obtain ⟨h1, h2⟩ := VG_ring hr hg hT ht hst hl j
    have e : (s + (T + j)) % T = (s + j) % T := by rw [show s + (T + j) = (s + j) + T by omega, Nat.add_mod_right]
    show (qst r g (tc ((s + (T + j)) % T)) (VG r g T tc κ s (T + j))).left = (qst r g (tc ((s + j) % T)) (VG r g T tc κ s j)).left ∧ _ = (qst r g (tc ((s + j) % T)) (VG r g T tc κ s j)).whole
    have q := qst_lw (r := r) (t := tc ((s + j) % T)) hg (VG_nn (T := T) (tc := tc) (κ := κ) (s := s) hr hg (T + j)) h1 h2
    rw [← e] at q ⊢
    exact ⟨q.1, q.2⟩
/-- THE EVENT SETTLES -/
theorem VG_settle (hr : RuleOk r) (hg : 1 ≤ g) (hk : κ ∈ KD) (hT : 1 ≤ T) (ht : tc ((s + (T - 1)) % T) = true) {m : Nat} (h1 : T ≤ m + 1) (h2 : sizeK r κ + 1 ≤ ((m : Int) + 1) * g) (h3 : 5 ≤ ((m : Int) + 1) * g) : VG r g T tc κ s (T + m) = VG r g T tc κ s m := by
  obtain ⟨a1, a2⟩ := VG_ca (T := T) (tc := tc) (s := s) hr hg hk (T + m)
  obtain ⟨b1, b2⟩ := VG_ca (T := T) (tc := tc) (s := s) hr hg hk m
  have hM : (((T + m : Nat) : Int) + 1) * g = ((m : Int) + 1) * g + (T : Int) * g := by
    rw [show (((T + m : Nat) : Int) + 1) = ((m : Int) + 1) + (T : Int) by omega, Int.add_mul ((m : Int) + 1)]
  have hTg : 0 ≤ (T : Int) * g := Int.mul_nonneg (by omega) (by omega)
  rw [hM] at a1 a2
  have hf := hr.2.2.2.2
  have hlw : (VG r g T tc κ s (T + m)).left = (VG r g T tc κ s m).left ∧ (VG r g T tc κ s (T + m)).whole = (VG r g T tc κ s m).whole := by
    cases hst : r.strict with
    | false =>
      obtain ⟨c1, c2⟩ := VG_soft (T := T) (tc := tc) (κ := κ) (s := s) hr hg hst (T + m)
      obtain ⟨d1, d2⟩ := VG_soft (T := T) (tc := tc) (κ := κ) (s := s) hr hg hst m
      rw [hM] at c1 c2
      have z1 : max0 (sizeK r κ - (((m : Int) + 1) * g - 1)) = 0 := max0_zero.mpr (by omega)
      have z2 : max0 (sizeK r κ - (((m : Int) + 1) * g + (T : Int) * g - 1)) = 0 := max0_zero.mpr (by omega)
      rw [c1, c2, d1, d2, z1, z2]
      exact ⟨rfl, rfl⟩
    | true =>
      have h0 := VG_nn (T := T) (tc := tc) (κ := κ) (s := s) hr hg (T - 1)
      by_cases hl : 0 < (VG r g T tc κ s (T - 1)).left
      · exact VG_ring hr hg hT ht hst hl m
      · have hz : (VG r g T tc κ s (T - 1)).left = 0 := by omega
        have f : ∀ j, T - 1 ≤ j → (VG r g T tc κ s j).left = 0 := fun j hj => by
          have q := VG_free hg hz (j - (T - 1))
          rw [show T - 1 + (j - (T - 1)) = j by omega] at q
          exact q
        have fw : ∀ j, T ≤ j → (VG r g T tc κ s j).whole = 0 := fun j hj => by
          have q := (qst_free (r := r) (t := tc ((s + (j - 1)) % T)) hg (f (j - 1) (by omega))).2
          rw [show j = (j - 1) + 1 by omega]
          exact q
        refine ⟨by rw [f _ (by omega), f _ (by omega)], ?_⟩
        rw [fw (T + m) (by omega)]
        by_cases hmT : T ≤ m
        · rw [fw m hmT]
        · -- m is T - 1 and nothing is left
          have hm : m = T - 1 := by omega
          have hw : ∀ j, (VG r g T tc κ s j).left = 0 → (VG r g T tc κ s j).whole = 0 := fun j hj => by
            cases j with
            | zero =>
              obtain ⟨i1, i2⟩ := VG0 (T := T) (tc := tc) (κ := κ) (s := s) hr hg
              rw [i1] at hj
              rw [i2, if_neg fun z => z hj]
            | succ j =>
              show (qst r g _ _).whole = 0
              have hj' : (qst r g (tc ((s + j) % T)) (VG r g T tc κ s j)).left = 0 := hj
              unfold qst at hj' ⊢
              rw [passed_left] at hj'
              rw [passed_whole, if_neg fun z => z hj']
          exact (hw m (by rw [hm]; exact hz)).symm
  refine part_ext ?_ ?_ hlw.1 hlw.2 ?_
  · rw [a1, b1]
    by_cases h : r.fade ≠ 0
    · rw [if_pos ⟨h, by omega⟩, if_pos ⟨h, by omega⟩]
    · rw [if_neg fun z => h z.1, if_neg fun z => h z.1]
  · rw [a2, b2, if_neg fun z => z.2 (by omega), if_neg fun z => z.2 (by omega)]
  · rw [VG_str, VG_str]
end
end TL
/-! Trylocks, plain: histories. -/
namespace TL
section
variable {b : Book} {acts : List Act} {g : Int} {r : Rule} {k : Nat} {y : Key}
/-- the two pairs: (0, 0) and the other one, if there is one -/
def cl (a p : Int) : Bool := !decide (a = 0 ∧ p = 0)
def pr (b : Book) (i : Bool) : Int × Int := if i then ((b.accs : Int) - 1, (b.plcs : Int) - 1) else (0, 0)
theorem pr_of (G : GoodIn b acts g) {a p : Int} {right : Bool} (h : ActOk b (.try_ a p right)) : (a, p) = pr b (cl a p) := by
  obtain ⟨⟨h1, h2⟩, h3, h4⟩ := h
  have s := G.sizes
  unfold pr cl
  by_cases z : a = 0 ∧ p = 0
  · rw [decide_eq_true z]
    show (a, p) = (0, 0)
    rw [z.1, z.2]
  · rw [decide_eq_false z]
    show (a, p) = ((b.accs : Int) - 1, (b.plcs : Int) - 1)
    have e1 : a = (b.accs : Int) - 1 := by omega
    have e2 : p = (b.plcs : Int) - 1 := by omega
    rw [← e1, ← e2]
def isW (i : Bool) : Act → Bool
  | .try_ a p false => decide (cl a p = i)
  | _ => false
def tou (b : Book) (r : Rule) (y : Key) (i : Bool) : Bool := decide (y = keyFor r (pr b i).1 (pr b i).2)
/-- a wrong try of a pair that is looked at -/
def evP (b : Book) (acts : List Act) (g : Int) (i : Bool) (N : Nat) : Bool := isW i (actN acts N) && !lockN b acts g N (pr b i).1 (pr b i).2
theorem evC_iff (G : GoodIn b acts g) {N : Nat} : evC b acts g r y N = true ↔ ∃ i, evP b acts g i N = true ∧ tou b r y i = true := by
  have hin := actN_in G N
  unfold evC evP tou
  generalize actN acts N = act at hin
  cases act with
  | none => exact ⟨(fun h => by cases h), (fun ⟨i, h, _⟩ => by cases h)⟩
  | open_ a => exact ⟨(fun h => by cases h), (fun ⟨i, h, _⟩ => by cases h)⟩
  | try_ a p right =>
    cases right with
    | true => exact ⟨(fun h => by cases h), (fun ⟨i, h, _⟩ => by cases h)⟩
    | false =>
      have hp := pr_of G hin
      have ha : a = (pr b (cl a p)).1 := congrArg Prod.fst hp
      have hq : p = (pr b (cl a p)).2 := congrArg Prod.snd hp
      constructor
      · intro h
        have h' : (decide (y = keyFor r a p) && !lockN b acts g N a p) = true := h
        rw [Bool.and_eq_true] at h'
        refine ⟨cl a p, ?_, ?_⟩
        · show (decide (cl a p = cl a p) && !lockN b acts g N (pr b (cl a p)).1 (pr b (cl a p)).2) = true
          rw [← ha, ← hq, decide_eq_true rfl, h'.2]
          rfl
        · rw [← ha, ← hq]
          exact h'.1
      · rintro ⟨i, h, h2⟩
        have h' : (decide (cl a p = i) && !lockN b acts g N (pr b i).1 (pr b i).2) = true := h
        rw [Bool.and_eq_true] at h'
        have ei : cl a p = i := of_decide_eq_true h'.1
        subst ei
        rw [← ha, ← hq] at h' h2
        show (decide (y = keyFor r a p) && !lockN b acts g N a p) = true
        rw [h2, h'.2]
        rfl
/-- behind the last such try of a pair | 0 -/
def evL (b : Book) (acts : List Act) (g : Int) (i : Bool) : Nat → Nat
  | 0 => 0
  | N + 1 => if evP b acts g i N = true then N + 1 else evL b acts g i N
theorem evL_le (i : Bool) : ∀ N, evL b acts g i N ≤ N
  | 0 => Nat.le_refl 0
  | N + 1 => by
    unfold evL
    split
    · exact Nat.le_refl _
    · exact Nat.le_succ_of_le (evL_le i N)
/-- the last event was one -/
theorem evL_ev (i : Bool) : ∀ N, 1 ≤ evL b acts g i N → evP b acts g i (evL b acts g i N - 1) = true
  | 0 => fun h => absurd h (by unfold evL; decide)
  | N + 1 => fun h => by
    unfold evL at h ⊢
    split
    · rename_i z
      exact z
    · rename_i z
      rw [if_neg z] at h
      exact evL_ev i N h
/-- none has come since -/
theorem evL_since (i : Bool) : ∀ N M, evL b acts g i N ≤ M → M < N → evP b acts g i M = false
  | 0, M, _, h => absurd h (Nat.not_lt_zero _)
  | N + 1, M, h1, h2 => by
    unfold evL at h1
    by_cases z : evP b acts g i N = true
    · rw [if_pos z] at h1
      omega
    · rw [if_neg z] at h1
      by_cases e : M = N
      · rw [e]; exact Bool.eq_false_iff.mpr z
      · exact evL_since i N M h1 (by omega)
def celL (b : Book) (acts : List Act) (g : Int) (r : Rule) (y : Key) (N : Nat) : Nat := max (if tou b r y false = true then evL b acts g false N else 0) (if tou b r y true = true then evL b acts g true N else 0)
theorem celL_ev (G : GoodIn b acts g) {N : Nat} (h : evC b acts g r y N = true) : celL b acts g r y (N + 1) = N + 1 := by
  obtain ⟨i, h1, h2⟩ := (evC_iff G).mp h
  have l1 := evL_le (b := b) (acts := acts) (g := g) false (N + 1)
  have l2 := evL_le (b := b) (acts := acts) (g := g) true (N + 1)
  have e : evL b acts g i (N + 1) = N + 1 := if_pos h1
  unfold celL
  cases i with
  | false =>
    rw [if_pos h2, e]
    have : (if tou b r y true = true then evL b acts g true (N + 1) else 0) ≤ N + 1 := by split <;> omega
    omega
  | true =>
    rw [if_pos h2, e]
    have : (if tou b r y false = true then evL b acts g false (N + 1) else 0) ≤ N + 1 := by split <;> omega
    omega
theorem celL_q (G : GoodIn b acts g) {N : Nat} (h : evC b acts g r y N = false) : celL b acts g r y (N + 1) = celL b acts g r y N := by
  have no : ∀ i, tou b r y i = true → evL b acts g i (N + 1) = evL b acts g i N := fun i hi => if_neg fun z => by
    have q := (evC_iff (r := r) (y := y) G).mpr ⟨i, z, hi⟩
    rw [h] at q
    cases q
  unfold celL
  congr 1
  · by_cases z : tou b r y false = true
    · rw [if_pos z, if_pos z, no _ z]
    · rw [if_neg z, if_neg z]
  · by_cases z : tou b r y true = true
    · rw [if_pos z, if_pos z, no _ z]
    · rw [if_neg z, if_neg z]
/-- what the last event left, if it was not reset -/
def kdL (b : Book) (acts : List Act) (g : Int) (r : Rule) (k : Nat) (y : Key) : Nat → Option (Int × Int)
  | 0 => none
  | N + 1 => if evC b acts g r y N = true then some (kd r (vN b acts g r k y N)) else if rsC b acts g r y N = true then none else kdL b acts g r k y N
def tcA (acts : List Act) (r : Rule) (y : Key) (j : Nat) : Bool := tchA r y (acts.getD j .none)
theorem qst_new (hg : 1 ≤ g) (t : Bool) : qst r g t newPart = newPart := by
  rw [qst_soft (fun z => by cases z.2.2), passed_new r (by decide), passed_new r (by omega)]
theorem ev_tch {N : Nat} (h : evC b acts g r y N = true) : tcA acts r y (N % acts.length) = true := by
  unfold tcA tchA
  unfold evC actN at h
  generalize acts.getD (N % acts.length) .none = act at h
  cases act with
  | none => cases h
  | open_ a => cases h
  | try_ a p right =>
    cases right with
    | true => cases h
    | false =>
      have h' : (decide (y = keyFor r a p) && !lockN b acts g N a p) = true := h
      rw [Bool.and_eq_true] at h'
      exact h'.1
/-- THE CELL'S HISTORY -/
theorem hist (G : GoodIn b acts g) (hr : b.rules[k]? = some r) (hy : y ∈ keysOf b r) : ∀ N, (kdL b acts g r k y N = none → vN b acts g r k y N = newPart) ∧
    ∀ κ, kdL b acts g r k y N = some κ → κ ∈ KD ∧ 1 ≤ celL b acts g r y N ∧ celL b acts g r y N ≤ N ∧ tcA acts r y ((celL b acts g r y N - 1) % acts.length) = true ∧ vN b acts g r k y N = VG r g acts.length (tcA acts r y) κ (celL b acts g r y N) (N - celL b acts g r y N)
  | 0 => ⟨fun _ => v_zero, (fun κ h => by cases h)⟩
  | N + 1 => by
    obtain ⟨i1, i2⟩ := hist G hr hy N
    have hro := G.rules r (List.mem_of_getElem? hr)
    have hg := G.gap.1
    have hin := v_in G hr hy N
    unfold kdL
    by_cases z1 : evC b acts g r y N = true
    · rw [if_pos z1]
      refine ⟨(fun h => by cases h), fun κ h => ?_⟩
      cases h
      rw [celL_ev G z1, Nat.sub_self]
      refine ⟨kd_in hro hin, by omega, Nat.le_refl _, ev_tch z1, ?_⟩
      rw [v_ev G hr hy z1, begun_kd hro hin]
      rfl
    · rw [if_neg z1]
      have z1' : evC b acts g r y N = false := Bool.eq_false_iff.mpr z1
      by_cases z2 : rsC b acts g r y N = true
      · rw [if_pos z2]
        exact ⟨fun _ => v_rs G hr hy z2, (fun κ h => by cases h)⟩
      · rw [if_neg z2]
        have z2' : rsC b acts g r y N = false := Bool.eq_false_iff.mpr z2
        have hq := v_q G hr hy z1' z2'
        refine ⟨(fun h => by rw [hq, i1 h, qst_new hg]), fun κ h => ?_⟩
        obtain ⟨a1, a2, a3, a4, a5⟩ := i2 κ h
        rw [celL_q G z1']
        refine ⟨a1, a2, by omega, a4, ?_⟩
        rw [hq, a5, show N + 1 - celL b acts g r y N = (N - celL b acts g r y N) + 1 by omega]
        show _ = qst r g (tcA acts r y ((celL b acts g r y N + (N - celL b acts g r y N)) % acts.length)) _
        rw [show celL b acts g r y N + (N - celL b acts g r y N) = N by omega]
        rfl
end
end TL
/-! Trylocks, plain: books of few cells. -/
namespace TL
/-! ### lists and their lengths -/
theorem filt_disj {α : Type} {p q : α → Bool} (h : ∀ x, p x = true → q x = true → False) : ∀ l : List α, (l.filter p).length + (l.filter q).length ≤ l.length
  | [] => Nat.le_refl 0
  | x :: l => by
    have ih := filt_disj h l
    rw [List.filter_cons, List.filter_cons, List.length_cons]
    by_cases hp : p x = true
    · rw [if_pos hp, if_neg fun z => h x hp z, List.length_cons]
      omega
    · rw [if_neg hp]
      split
      · rw [List.length_cons]; omega
      · omega
def allL {α : Type} (o : List α) : Nat → List (List α)
  | 0 => [[]]
  | n + 1 => o.flatMap fun x => (allL o n).map fun l => x :: l
theorem flat_len {α β : Type} (f : α → List β) (m : Nat) : ∀ o : List α, (∀ x ∈ o, (f x).length ≤ m) → (o.flatMap f).length ≤ o.length * m
  | [], _ => Nat.zero_le _
  | x :: o, h => by
    rw [List.flatMap_cons, List.length_append, List.length_cons, Nat.add_mul, Nat.one_mul]
    have h1 := h x (List.mem_cons_self ..)
    have h2 := flat_len f m o fun y hy => h y (List.mem_cons_of_mem _ hy)
    omega
theorem allL_len {α : Type} (o : List α) : ∀ n, (allL o n).length ≤ o.length ^ n
  | 0 => Nat.le_refl 1
  | n + 1 => by
    have q := flat_len (fun x => (allL o n).map fun l => x :: l) (o.length ^ n) o fun x _ => by
      rw [List.length_map]
      exact allL_len o n
    rw [Nat.pow_succ, Nat.mul_comm]
    exact q
theorem allL_mem {α : Type} {o : List α} : ∀ l : List α, (∀ x ∈ l, x ∈ o) → l ∈ allL o l.length
  | [], _ => List.mem_singleton.mpr rfl
  | x :: l, h => List.mem_flatMap.mpr ⟨x, h x (List.mem_cons_self ..), List.mem_map.mpr ⟨l, allL_mem l fun y hy => h y (List.mem_cons_of_mem _ hy), rfl⟩⟩
/-- as many values as codes at most -/
theorem by_codes {α β : Type} (st : Nat → α) (code : Nat → β) (C : List β) (h : ∀ n, code n ∈ C) (same : ∀ n m, code n = code m → st n = st m) : ∃ Z : List α, Z.length ≤ C.length ∧ ∀ n, st n ∈ Z := by
  classical
  refine ⟨C.map fun c => if q : ∃ n, code n = c then st q.choose else st 0, by rw [List.length_map]; exact Nat.le_refl _, fun n => ?_⟩
  refine List.mem_map.mpr ⟨code n, h n, ?_⟩
  have q : ∃ m, code m = code n := ⟨n, rfl⟩
  rw [dif_pos q]
  exact same _ _ q.choose_spec
/-! ### times -/
def flagsFor : Option Nat → Option Nat → List Bool
  | some i, some j => if 16 ≤ i ∧ 16 ≤ j then [false, true] else [decide (j < i)]
  | none, some _ => [true]
  | _, none => [false]
def hi : Option Nat → Bool
  | some i => decide (16 ≤ i)
  | none => false
def trips (A B : List (Option Nat)) : List (Option Nat × Option Nat × Bool) := A.flatMap fun a => B.flatMap fun b => (flagsFor a b).map fun f => (a, b, f)
theorem flags_len (a b : Option Nat) : (flagsFor a b).length ≤ 1 + if hi a = true ∧ hi b = true then 1 else 0 := by
  cases a with
  | none => cases b <;> exact Nat.le_add_right 1 _
  | some i =>
    cases b with
    | none => exact Nat.le_add_right 1 _
    | some j =>
      show (if 16 ≤ i ∧ 16 ≤ j then [false, true] else [decide (j < i)]).length ≤ 1 + if decide (16 ≤ i) = true ∧ decide (16 ≤ j) = true then 1 else 0
      by_cases h : 16 ≤ i ∧ 16 ≤ j
      · rw [if_pos h, if_pos ⟨decide_eq_true h.1, decide_eq_true h.2⟩]
        exact Nat.le_refl 2
      · rw [if_neg h]
        exact Nat.le_add_right 1 _
theorem trips_in (a : Option Nat) : ∀ B : List (Option Nat), (B.flatMap fun b => (flagsFor a b).map fun f => (a, b, f)).length ≤ B.length + if hi a = true then (B.filter hi).length else 0
  | [] => Nat.zero_le _
  | b :: B => by
    have ih := trips_in a B
    have hf := flags_len a b
    rw [List.flatMap_cons, List.length_append, List.length_map, List.length_cons, List.filter_cons]
    by_cases ha : hi a = true
    · rw [if_pos ha] at ih ⊢
      by_cases hb : hi b = true
      · rw [if_pos ⟨ha, hb⟩] at hf
        rw [if_pos hb, List.length_cons]
        omega
      · rw [if_neg fun z => hb z.2] at hf
        rw [if_neg hb]
        omega
    · rw [if_neg ha] at ih ⊢
      rw [if_neg fun z => ha z.1] at hf
      omega
theorem trips_len (B : List (Option Nat)) : ∀ A : List (Option Nat), (trips A B).length ≤ A.length * B.length + (A.filter hi).length * (B.filter hi).length
  | [] => Nat.zero_le _
  | a :: A => by
    have ih := trips_len B A
    have h1 := trips_in a B
    unfold trips at ih ⊢
    rw [List.flatMap_cons, List.length_append, List.length_cons, List.filter_cons, Nat.add_mul, Nat.one_mul]
    by_cases ha : hi a = true
    · rw [if_pos ha] at h1 ⊢
      rw [List.length_cons, Nat.add_mul, Nat.one_mul]
      omega
    · rw [if_neg ha] at h1 ⊢
      omega
section
variable {b : Book} {acts : List Act} {g : Int} {r : Rule} {k : Nat} {y : Key}
def ecap (T m : Nat) : Nat := if m < 16 then m else 16 + (m - 16) % T
def slotW (acts : List Act) (i : Bool) (e : Nat) : Bool := (List.range acts.length).any fun j => decide ((j + 1 + e) % acts.length = 0) && isW i (acts.getD j .none)
def slots (acts : List Act) (i : Bool) : List Nat := (List.range (16 + acts.length)).filter (slotW acts i)
def slotO (acts : List Act) (i : Bool) : List (Option Nat) := none :: (slots acts i).map some
theorem T_cases (G : GoodIn b acts g) : acts.length = 2 ∨ acts.length = 3 ∨ acts.length = 4 ∨ acts.length = 5 ∨ acts.length = 6 := by
  have := G.few
  omega
theorem isW_one {act : Act} (h1 : isW false act = true) (h2 : isW true act = true) : False := by
  cases act with
  | none => cases h1
  | open_ a => cases h1
  | try_ a p right =>
    cases right with
    | true => cases h1
    | false =>
      have e1 : cl a p = false := of_decide_eq_true h1
      have e2 : cl a p = true := of_decide_eq_true h2
      rw [e1] at e2
      cases e2
theorem slot_disj (G : GoodIn b acts g) (e : Nat) (h1 : slotW acts false e = true) (h2 : slotW acts true e = true) : False := by
  unfold slotW at h1 h2
  rw [List.any_eq_true] at h1 h2
  obtain ⟨j, hj, h1⟩ := h1
  obtain ⟨j', hj', h2⟩ := h2
  rw [Bool.and_eq_true] at h1 h2
  have m1 := of_decide_eq_true h1.1
  have m2 := of_decide_eq_true h2.1
  have l1 := List.mem_range.mp hj
  have l2 := List.mem_range.mp hj'
  have ej : j = j' := by
    rcases T_cases G with t | t | t | t | t <;> rw [t] at m1 m2 l1 l2 <;> omega
  rw [← ej] at h2
  exact isW_one h1.2 h2.2
theorem trips_few (G : GoodIn b acts g) : (trips (slotO acts false) (slotO acts true)).length ≤ 153 := by
  have q := trips_len (slotO acts true) (slotO acts false)
  have d1 := filt_disj (slot_disj G) (List.range (16 + acts.length))
  have d2 := filt_disj (slot_disj G) ((List.range (16 + acts.length)).filter fun i => decide (16 ≤ i))
  have hfl : ∀ i, ((slotO acts i).filter hi).length = (((List.range (16 + acts.length)).filter fun i => decide (16 ≤ i)).filter (slotW acts i)).length := fun i => by
    unfold slotO slots
    rw [List.filter_cons, if_neg (by decide), List.filter_map, List.length_map, List.filter_filter, List.filter_filter]
    congr 1
    refine List.filter_congr fun x _ => ?_
    show (decide (16 ≤ x) && slotW acts i x) = (slotW acts i x && decide (16 ≤ x))
    exact Bool.and_comm _ _
  have hol : ∀ i, (slotO acts i).length = ((List.range (16 + acts.length)).filter (slotW acts i)).length + 1 := fun i => by
    unfold slotO slots
    rw [List.length_cons, List.length_map]
  have hh : ((List.range (16 + acts.length)).filter fun i => decide (16 ≤ i)).length ≤ 6 := by
    rcases T_cases G with t | t | t | t | t <;> rw [t] <;> decide
  rw [List.length_range] at d1
  have hT := G.few.2
  rw [hfl, hfl, hol, hol] at q
  generalize ((List.range (16 + acts.length)).filter (slotW acts false)).length = a at q d1
  generalize ((List.range (16 + acts.length)).filter (slotW acts true)).length = c at q d1
  generalize (((List.range (16 + acts.length)).filter fun i => decide (16 ≤ i)).filter (slotW acts false)).length = a' at q d2
  generalize (((List.range (16 + acts.length)).filter fun i => decide (16 ≤ i)).filter (slotW acts true)).length = c' at q d2
  have n1 : ∀ a < 23, ∀ c < 23, a + c ≤ 22 → (a + 1) * (c + 1) ≤ 144 := by decide
  have n2 : ∀ a < 7, ∀ c < 7, a + c ≤ 6 → a * c ≤ 9 := by decide
  have m1 := n1 a (by omega) c (by omega) (by omega)
  have m2 := n2 a' (by omega) c' (by omega) (by omega)
  omega
end
end TL
/-! Trylocks, plain: books of at most five cells stand in fewer than 2^24 ways. -/
namespace TL
section
variable {b : Book} {acts : List Act} {g : Int} {r : Rule} {k : Nat} {y : Key}
theorem wc_le (κ : Int × Int) : wcK κ ≤ 16 := by
  unfold wcK
  split
  · split
    · decide
    · split <;> decide
  · decide
theorem mul_ge {m : Nat} (hg : 1 ≤ g) : (m : Int) + 1 ≤ ((m : Int) + 1) * g := by
  have := Int.mul_le_mul_of_nonneg_left hg (show (0 : Int) ≤ (m : Int) + 1 by omega)
  rw [Int.mul_one] at this
  exact this
theorem VG_more {T : Nat} {tc : Nat → Bool} {κ : Int × Int} {s m : Nat} (hr : RuleOk r) (hg : 1 ≤ g) (hk : κ ∈ KD) (hT : 1 ≤ T) (ht : tc ((s + (T - 1)) % T) = true) (h1 : T ≤ m + 1) (h2 : sizeK r κ ≤ m) (h3 : 4 ≤ m) : ∀ q : Nat, VG r g T tc κ s (m + q * T) = VG r g T tc κ s m
  | 0 => by rw [Nat.zero_mul, Nat.add_zero]
  | q + 1 => by
    have hqT : 0 ≤ q * T := Nat.zero_le _
    have e : m + (q + 1) * T = T + (m + q * T) := by rw [Nat.add_mul, Nat.one_mul]; omega
    have hm := mul_ge (g := g) (m := m + q * T) hg
    rw [e, VG_settle hr hg hk hT ht (by omega) (by omega) (by omega)]
    exact VG_more hr hg hk hT ht h1 h2 h3 q
theorem VG_cap {T : Nat} {tc : Nat → Bool} {κ : Int × Int} {s s' m m' n n' : Nat} (hr : RuleOk r) (hg : 1 ≤ g) (hk : κ ∈ KD) (hT : T = 2 ∨ T = 3 ∨ T = 4 ∨ T = 5 ∨ T = 6) (hs : 1 ≤ s) (hs' : 1 ≤ s') (ht : tc ((s - 1) % T) = true) (ht' : tc ((s' - 1) % T) = true) (e : s + m = n * T) (e' : s' + m' = n' * T) (h : ecap T m = ecap T m') :
    VG r g T tc κ s m = VG r g T tc κ s' m' := by
  have aux : ∀ {s s' m m' n n' : Nat}, 1 ≤ s → 1 ≤ s' → tc ((s' - 1) % T) = true → s + m = n * T → s' + m' = n' * T → m ≤ m' → ecap T m = ecap T m' → VG r g T tc κ s m = VG r g T tc κ s' m' := fun {s s' m m' n n'} hs hs' ht' e e' hm h => by
    unfold ecap at h
    by_cases z : m < 16
    · rw [if_pos z] at h
      have hmm : m = m' := by
        by_cases z' : m' < 16
        · rw [if_pos z'] at h; exact h
        · rw [if_neg z'] at h; omega
      subst hmm
      exact VG_mod (by rcases hT with t | t | t | t | t <;> subst t <;> omega) m
    · have z' : ¬ m' < 16 := by omega
      rw [if_neg z, if_neg z'] at h
      obtain ⟨q, hq⟩ : ∃ q, m' = m + q * T := ⟨(m' - m) / T, by rcases hT with t | t | t | t | t <;> subst t <;> omega⟩
      have hw := size_le (κ := κ) hr
      have hw2 := wc_le κ
      have htt : (s' + (T - 1)) % T = (s' - 1) % T := by rcases hT with t | t | t | t | t <;> subst t <;> omega
      rw [hq, VG_more hr hg hk (by omega) (by rw [htt]; exact ht') (by omega) (by omega) (by omega) q]
      exact VG_mod (by
        rw [hq] at e'
        rcases hT with t | t | t | t | t <;> subst t <;> omega) m
  rcases Nat.le_total m m' with hm | hm
  · exact aux hs hs' ht' e e' hm h
  · exact (aux hs' hs ht e' e hm h.symm).symm
def tmL (b : Book) (acts : List Act) (g : Int) (i : Bool) (N : Nat) : Option Nat := if evL b acts g i N = 0 then none else some (ecap acts.length (N - evL b acts g i N))
theorem ecap_lt (T m : Nat) (h : 1 ≤ T) : ecap T m < 16 + T := by
  unfold ecap
  split
  · omega
  · have := Nat.mod_lt (m - 16) (show 0 < T by omega)
    omega
theorem tm_in (G : GoodIn b acts g) (i : Bool) (n : Nat) : tmL b acts g i (n * acts.length) ∈ slotO acts i := by
  unfold tmL slotO
  by_cases z : evL b acts g i (n * acts.length) = 0
  · rw [if_pos z]
    exact List.mem_cons_self ..
  · rw [if_neg z]
    refine List.mem_cons_of_mem _ (List.mem_map.mpr ⟨_, ?_, rfl⟩)
    have hle := evL_le (b := b) (acts := acts) (g := g) i (n * acts.length)
    have hev := evL_ev (b := b) (acts := acts) (g := g) i (n * acts.length) (by omega)
    generalize evL b acts g i (n * acts.length) = s at z hle hev
    have hT := T_cases G
    refine List.mem_filter.mpr ⟨List.mem_range.mpr (ecap_lt _ _ (by omega)), ?_⟩
    unfold slotW
    rw [List.any_eq_true]
    refine ⟨(s - 1) % acts.length, List.mem_range.mpr (Nat.mod_lt _ (by omega)), ?_⟩
    unfold evP at hev
    rw [Bool.and_eq_true] at hev
    rw [Bool.and_eq_true]
    refine ⟨decide_eq_true ?_, hev.1⟩
    unfold ecap
    generalize acts.length = T at hT hle
    rcases hT with t | t | t | t | t <;> subst t <;> split <;> omega
theorem flag_in (G : GoodIn b acts g) (n : Nat) : decide (evL b acts g false (n * acts.length) < evL b acts g true (n * acts.length)) ∈ flagsFor (tmL b acts g false (n * acts.length)) (tmL b acts g true (n * acts.length)) := by
  have h1 := evL_le (b := b) (acts := acts) (g := g) false (n * acts.length)
  have h2 := evL_le (b := b) (acts := acts) (g := g) true (n * acts.length)
  unfold tmL
  generalize evL b acts g false (n * acts.length) = s at h1
  generalize evL b acts g true (n * acts.length) = t at h2
  generalize n * acts.length = N at h1 h2
  by_cases z1 : s = 0
  · rw [if_pos z1]
    by_cases z2 : t = 0
    · rw [if_pos z2, z1, z2]
      exact List.mem_singleton.mpr rfl
    · rw [if_neg z2, decide_eq_true (by omega)]
      exact List.mem_singleton.mpr rfl
  · rw [if_neg z1]
    by_cases z2 : t = 0
    · rw [if_pos z2, decide_eq_false (by omega)]
      exact List.mem_singleton.mpr rfl
    · rw [if_neg z2]
      show _ ∈ (if 16 ≤ ecap acts.length (N - s) ∧ 16 ≤ ecap acts.length (N - t) then [false, true] else [decide (ecap acts.length (N - t) < ecap acts.length (N - s))])
      by_cases z : 16 ≤ ecap acts.length (N - s) ∧ 16 ≤ ecap acts.length (N - t)
      · rw [if_pos z]
        cases decide (s < t) <;> simp
      · rw [if_neg z]
        refine List.mem_singleton.mpr (decide_eq_decide.mpr ?_)
        unfold ecap at z ⊢
        by_cases y1 : N - s < 16 <;> by_cases y2 : N - t < 16
        · rw [if_pos y1, if_pos y2]; omega
        · rw [if_pos y1, if_neg y2]; omega
        · rw [if_neg y1, if_pos y2]; omega
        · rw [if_neg y1, if_neg y2] at z; omega
/-- the cells of a book -/
def cellsL (b : Book) : List (Nat × Rule × Key) := b.rules.zipIdx.flatMap fun z => (keysOf b z.1).map fun y => (z.2, z.1, y)
theorem cells_in {c : Nat × Rule × Key} : c ∈ cellsL b ↔ b.rules[c.1]? = some c.2.1 ∧ c.2.2 ∈ keysOf b c.2.1 := by
  unfold cellsL
  rw [List.mem_flatMap]
  constructor
  · rintro ⟨z, hz, h⟩
    obtain ⟨y, hy, rfl⟩ := List.mem_map.mp h
    exact ⟨List.mem_zipIdx_iff_getElem?.mp hz, hy⟩
  · rintro ⟨h1, h2⟩
    exact ⟨(c.2.1, c.1), List.mem_zipIdx_iff_getElem?.mpr h1, List.mem_map.mpr ⟨c.2.2, h2, rfl⟩⟩
theorem touched (G : GoodIn b acts g) (hr : b.rules[k]? = some r) (hy : y ∈ keysOf b r) : tou b r y false = true ∨ tou b r y true = true := by
  have s := G.sizes
  unfold tou pr keyFor
  unfold keysOf at hy
  by_cases h0 : r.key = 0
  · rw [if_pos h0] at hy
    obtain ⟨i, hi, rfl⟩ := List.mem_map.mp hy
    have hi' := List.mem_range.mp hi
    simp only [if_pos h0, decide_eq_true_eq]
    by_cases z : i = 0
    · left; subst z; rfl
    · right; show (some (i : Int), none) = (some ((b.accs : Int) - 1), none); congr 2; omega
  · rw [if_neg h0] at hy
    by_cases h1 : r.key = 1
    · rw [if_pos h1] at hy
      obtain ⟨i, hi, rfl⟩ := List.mem_map.mp hy
      have hi' := List.mem_range.mp hi
      simp only [if_neg h0, if_pos h1, decide_eq_true_eq]
      by_cases z : i = 0
      · left; subst z; rfl
      · right; show (none, some (i : Int)) = (none, some ((b.plcs : Int) - 1)); congr 2; omega
    · rw [if_neg h1] at hy
      unfold pairsOf at hy
      obtain ⟨i, hi, hy⟩ := List.mem_flatMap.mp hy
      obtain ⟨j, hj, rfl⟩ := List.mem_map.mp hy
      have hi' := List.mem_range.mp hi
      have hj' := List.mem_range.mp hj
      simp only [if_neg h0, if_neg h1, decide_eq_true_eq]
      by_cases z : i = 0 ∧ j = 0
      · left; rw [z.1, z.2]; rfl
      · right
        show (some (i : Int), some (j : Int)) = (some ((b.accs : Int) - 1), some ((b.plcs : Int) - 1))
        congr 2 <;> omega
/-- which pair's time a cell has -/
def selL (b : Book) (r : Rule) (y : Key) (tf tt : Option Nat) (f : Bool) : Option Nat := if tou b r y false && (!tou b r y true || !f) then tf else tt
theorem sel_eq (G : GoodIn b acts g) (hr : b.rules[k]? = some r) (hy : y ∈ keysOf b r) (N : Nat) (h : 1 ≤ celL b acts g r y N) :
    selL b r y (tmL b acts g false N) (tmL b acts g true N) (decide (evL b acts g false N < evL b acts g true N)) = some (ecap acts.length (N - celL b acts g r y N)) := by
  have ht := touched G hr hy
  unfold selL tmL
  unfold celL at h ⊢
  cases hf : tou b r y false with
  | false =>
    cases htt : tou b r y true with
    | false => rw [hf, htt] at ht; rcases ht with z | z <;> cases z
    | true =>
      rw [hf, htt, if_neg Bool.false_ne_true, if_pos rfl] at h
      rw [if_neg Bool.false_ne_true, if_pos rfl, Bool.false_and, if_neg Bool.false_ne_true, if_neg (by omega)]
      congr 2
  | true =>
    cases htt : tou b r y true with
    | false =>
      rw [hf, htt, if_neg Bool.false_ne_true, if_pos rfl] at h
      rw [if_neg Bool.false_ne_true, if_pos rfl]
      show (if (true && (!false || _)) = true then _ else _) = _
      rw [Bool.true_and, Bool.not_false, Bool.true_or, if_pos rfl, if_neg (by omega)]
      congr 2
      omega
    | true =>
      rw [hf, htt, if_pos rfl, if_pos rfl] at h
      rw [if_pos rfl, if_pos rfl, Bool.true_and, Bool.not_true, Bool.false_or]
      by_cases z : evL b acts g false N < evL b acts g true N
      · rw [decide_eq_true z, Bool.not_true, if_neg Bool.false_ne_true, if_neg (by omega)]
        congr 2
        omega
      · rw [decide_eq_false z, Bool.not_false, if_pos rfl, if_neg (by omega)]
        congr 2
        omega
/-- the code of a round's beginning -/
def code1 (b : Book) (acts : List Act) (g : Int) (n : Nat) : List (Option (Int × Int)) × Option Nat × Option Nat × Bool :=
  ((cellsL b).map fun c => kdL b acts g c.2.1 c.1 c.2.2 (n * acts.length), tmL b acts g false (n * acts.length), tmL b acts g true (n * acts.length), decide (evL b acts g false (n * acts.length) < evL b acts g true (n * acts.length)))
theorem code1_same (G : GoodIn b acts g) (n m : Nat) (h : code1 b acts g n = code1 b acts g m) : stN b g acts n = stN b g acts m := by
  unfold code1 at h
  injection h with h1 h2
  injection h2 with h2 h3
  injection h3 with h3 h4
  refine st_ext G fun k r y hr hy => ?_
  have hc : (k, r, y) ∈ cellsL b := cells_in.mpr ⟨hr, hy⟩
  have hk : kdL b acts g r k y (n * acts.length) = kdL b acts g r k y (m * acts.length) := List.map_inj_left.mp h1 _ hc
  obtain ⟨a1, a2⟩ := hist G hr hy (n * acts.length)
  obtain ⟨c1, c2⟩ := hist G hr hy (m * acts.length)
  cases z : kdL b acts g r k y (n * acts.length) with
  | none => rw [a1 z, c1 (hk ▸ z)]
  | some κ =>
    obtain ⟨d1, d2, d3, d4, d5⟩ := a2 κ z
    obtain ⟨e1, e2, e3, e4, e5⟩ := c2 κ (hk ▸ z)
    have s1 := sel_eq G hr hy _ d2
    have s2 := sel_eq G hr hy _ e2
    rw [h2, h3, h4, s2] at s1
    rw [d5, e5]
    exact VG_cap (n := n) (n' := m) (G.rules r (List.mem_of_getElem? hr)) G.gap.1 d1 (T_cases G) d2 e2 d4 e4 (by omega) (by omega) (Option.some.inj s1).symm
theorem bound5 (G : GoodIn b acts g) (hc : (cellsL b).length ≤ 5) : ∃ Z : List Stand, Z.length < 2 ^ 24 ∧ ∀ n, stN b g acts n ∈ Z := by
  let C := (allL (none :: KD.map some) (cellsL b).length).flatMap fun xs => (trips (slotO acts false) (slotO acts true)).map fun t => (xs, t)
  have hmem : ∀ n, code1 b acts g n ∈ C := fun n => by
    refine List.mem_flatMap.mpr ⟨_, ?_, List.mem_map.mpr ⟨_, ?_, rfl⟩⟩
    · have q := allL_mem (o := none :: KD.map some) ((cellsL b).map fun c => kdL b acts g c.2.1 c.1 c.2.2 (n * acts.length)) fun x hx => by
        obtain ⟨c, hc', rfl⟩ := List.mem_map.mp hx
        obtain ⟨hr, hy⟩ := cells_in.mp hc'
        cases z : kdL b acts g c.2.1 c.1 c.2.2 (n * acts.length) with
        | none => exact List.mem_cons_self ..
        | some κ => exact List.mem_cons_of_mem _ (List.mem_map.mpr ⟨κ, ((hist G hr hy _).2 κ z).1, rfl⟩)
      rw [List.length_map] at q
      exact q
    · exact List.mem_flatMap.mpr ⟨_, tm_in G false n, List.mem_flatMap.mpr ⟨_, tm_in G true n, List.mem_map.mpr ⟨_, flag_in G n, rfl⟩⟩⟩
  obtain ⟨Z, h1, h2⟩ := by_codes (stN b g acts) (code1 b acts g) C hmem (code1_same G)
  refine ⟨Z, Nat.lt_of_le_of_lt h1 ?_, h2⟩
  have q := flat_len (fun xs => (trips (slotO acts false) (slotO acts true)).map fun t => (xs, t)) 153 (allL (none :: KD.map some) (cellsL b).length) fun x _ => by
    rw [List.length_map]
    exact trips_few G
  have q2 := allL_len (none :: KD.map some) (cellsL b).length
  have q3 : (none :: KD.map some).length ^ (cellsL b).length ≤ 10 ^ 5 := Nat.pow_le_pow_right (n := 10) (by decide) hc
  have q4 := Nat.mul_le_mul_right 153 (Nat.le_trans q2 q3)
  exact Nat.lt_of_le_of_lt (Nat.le_trans q q4) (by decide)
end
end TL
/-! Trylocks, plain: split rules; the two pairs go their own ways. -/
namespace TL
section
variable {b : Book} {acts : List Act} {g : Int} {r : Rule} {k : Nat} {y : Key}
/-- a rule's key at a pair -/
def ky (b : Book) (i : Bool) (r : Rule) : Key := keyFor r (pr b i).1 (pr b i).2
/-- each rule tells the pairs apart -/
def Split (b : Book) : Prop := ∀ r ∈ b.rules, ky b false r ≠ ky b true r
theorem split_ne (S : Split b) (hr : b.rules[k]? = some r) {i j : Bool} (h : ky b i r = ky b j r) : i = j := by
  have q := S r (List.mem_of_getElem? hr)
  cases i <;> cases j <;> first | rfl | exact absurd h q | exact absurd h.symm q
theorem tou_iff (S : Split b) (hr : b.rules[k]? = some r) {i j : Bool} : tou b r (ky b i r) j = true ↔ j = i := by
  unfold tou
  rw [decide_eq_true_iff]
  exact ⟨fun h => (split_ne S hr (show ky b i r = ky b j r from h)).symm, fun h => by rw [h]; rfl⟩
theorem ev_cell (G : GoodIn b acts g) (S : Split b) (hr : b.rules[k]? = some r) {i : Bool} {N : Nat} : evC b acts g r (ky b i r) N = evP b acts g i N := by
  rw [Bool.eq_iff_iff, evC_iff G]
  constructor
  · rintro ⟨j, h1, h2⟩
    rw [(tou_iff S hr).mp h2] at h1
    exact h1
  · intro h
    exact ⟨i, h, (tou_iff S hr).mpr rfl⟩
theorem cel_cell (S : Split b) (hr : b.rules[k]? = some r) {i : Bool} {N : Nat} : celL b acts g r (ky b i r) N = evL b acts g i N := by
  unfold celL
  cases i with
  | false =>
    rw [if_pos ((tou_iff S hr).mpr rfl), if_neg fun z => by cases (tou_iff S hr).mp z]
    omega
  | true =>
    rw [if_neg fun z => (by cases (tou_iff S hr).mp z), if_pos ((tou_iff S hr).mpr rfl)]
    omega
theorem ky_in (G : GoodIn b acts g) (hr : b.rules[k]? = some r) (i : Bool) : ky b i r ∈ keysOf b r := by
  have s := G.sizes
  refine keyFor_in ?_ (G.rules r (List.mem_of_getElem? hr)).1
  unfold pr InBook
  cases i with
  | false =>
    rw [if_neg Bool.false_ne_true]
    exact ⟨⟨Int.le_refl 0, by show (0 : Int) < b.accs; omega⟩, Int.le_refl 0, by show (0 : Int) < b.plcs; omega⟩
  | true =>
    rw [if_pos rfl]
    exact ⟨⟨by show (0 : Int) ≤ (b.accs : Int) - 1; omega, by show (b.accs : Int) - 1 < b.accs; omega⟩, by show (0 : Int) ≤ (b.plcs : Int) - 1; omega, by show (b.plcs : Int) - 1 < b.plcs; omega⟩
theorem lock_pr {i : Bool} {N : Nat} : lockN b acts g N (pr b i).1 (pr b i).2 = true ↔ ∃ (k : Nat) (r : Rule), b.rules[k]? = some r ∧ 0 < (vN b acts g r k (ky b i r) N).left := lock_iff
/-- a pair's parts are alike at two times -/
def Sam (b : Book) (acts : List Act) (g : Int) (i : Bool) (N M : Nat) : Prop := ∀ (k : Nat) (r : Rule), b.rules[k]? = some r → vN b acts g r k (ky b i r) N = vN b acts g r k (ky b i r) M
theorem sam_lock {i : Bool} {N M : Nat} (h : Sam b acts g i N M) : lockN b acts g N (pr b i).1 (pr b i).2 = lockN b acts g M (pr b i).1 (pr b i).2 := by
  rw [Bool.eq_iff_iff, lock_pr, lock_pr]
  constructor
  · rintro ⟨k, r, h1, h2⟩
    exact ⟨k, r, h1, by rw [← h k r h1]; exact h2⟩
  · rintro ⟨k, r, h1, h2⟩
    exact ⟨k, r, h1, by rw [h k r h1]; exact h2⟩
theorem sam_step (G : GoodIn b acts g) (S : Split b) {i : Bool} {N M : Nat} (hm : N % acts.length = M % acts.length) (h : Sam b acts g i N M) : Sam b acts g i (N + 1) (M + 1) := fun k r hr => by
  have hy := ky_in G hr i
  rw [v_step G hr hy, v_step G hr hy]
  congr 1
  have hl := sam_lock h
  have hv := h k r hr
  have ea : actN acts N = actN acts M := by unfold actN; rw [hm]
  have hin := actN_in G N
  unfold chg
  rw [← ea, hv]
  generalize actN acts N = act at hin
  cases act with
  | none => rfl
  | open_ a => rfl
  | try_ a p right =>
    have hp := pr_of G hin
    have ha : a = (pr b (cl a p)).1 := congrArg Prod.fst hp
    have hq : p = (pr b (cl a p)).2 := congrArg Prod.snd hp
    dsimp only
    by_cases e : ky b i r = keyFor r a p
    · have ei : i = cl a p := split_ne S hr (show ky b i r = ky b (cl a p) r by rw [e]; unfold ky; rw [← ha, ← hq])
      rw [if_pos e, if_pos e]
      have e1 : lockN b acts g N a p = lockN b acts g M a p := by
        have z := hl
        rw [ei, ← ha, ← hq] at z
        exact z
      rw [e1]
    · rw [if_neg e, if_neg e]
theorem sam_many (G : GoodIn b acts g) (S : Split b) {i : Bool} {N M : Nat} (hm : N % acts.length = M % acts.length) (h : Sam b acts g i N M) : ∀ j, Sam b acts g i (N + j) (M + j)
  | 0 => h
  | j + 1 => sam_step G S (by show (N + j) % acts.length = (M + j) % acts.length; rw [Nat.add_mod, hm, ← Nat.add_mod]) (sam_many G S hm h j)
/-! ### the codes at a pair's last event -/
def xeAt (b : Book) (acts : List Act) (g : Int) (i : Bool) (N : Nat) : List (Int × Int) := b.rules.zipIdx.map fun z => kd z.1 (vN b acts g z.1 z.2 (ky b i z.1) N)
def xeL (b : Book) (acts : List Act) (g : Int) (i : Bool) (N : Nat) : List (Int × Int) := xeAt b acts g i (evL b acts g i N - 1)
theorem xe_get {i : Bool} {N M : Nat} (h : xeAt b acts g i N = xeAt b acts g i M) (hr : b.rules[k]? = some r) : kd r (vN b acts g r k (ky b i r) N) = kd r (vN b acts g r k (ky b i r) M) :=
  List.map_inj_left.mp h (r, k) (List.mem_zipIdx_iff_getElem?.mpr hr)
theorem xe_mem {i : Bool} {N : Nat} (hr : b.rules[k]? = some r) : kd r (vN b acts g r k (ky b i r) N) ∈ xeAt b acts g i N := List.mem_map.mpr ⟨(r, k), List.mem_zipIdx_iff_getElem?.mpr hr, rfl⟩
theorem xe_in (G : GoodIn b acts g) {i : Bool} {N : Nat} : ∀ x ∈ xeAt b acts g i N, x ∈ KD := fun x hx => by
  obtain ⟨z, hz, rfl⟩ := List.mem_map.mp hx
  have hr := List.mem_zipIdx_iff_getElem?.mp hz
  exact kd_in (G.rules _ (List.mem_of_getElem? hr)) (v_in G hr (ky_in G hr i) N)
theorem kdL_val {κ : Int × Int} : ∀ N, kdL b acts g r k y N = some κ → (∀ M, celL b acts g r y M ≤ M) → GoodIn b acts g → κ = kd r (vN b acts g r k y (celL b acts g r y N - 1))
  | 0, h, _, _ => by cases h
  | N + 1, h, hc, G => by
    unfold kdL at h
    by_cases z1 : evC b acts g r y N = true
    · rw [if_pos z1] at h
      cases h
      rw [celL_ev G z1]
      rfl
    · rw [if_neg z1] at h
      by_cases z2 : rsC b acts g r y N = true
      · rw [if_pos z2] at h
        cases h
      · rw [if_neg z2] at h
        rw [celL_q G (Bool.eq_false_iff.mpr z1)]
        exact kdL_val N h hc G
/-- behind an event -/
theorem v_after (G : GoodIn b acts g) (S : Split b) (hr : b.rules[k]? = some r) {i : Bool} {N : Nat} (h : evP b acts g i N = true) : vN b acts g r k (ky b i r) (N + 1) = passed r (bg r (kd r (vN b acts g r k (ky b i r) N))) (g - 1) := by
  have hy := ky_in G hr i
  rw [v_ev G hr hy (by rw [ev_cell G S hr]; exact h), begun_kd (G.rules r (List.mem_of_getElem? hr)) (v_in G hr hy N)]
/-- the same codes so many steps ago -/
theorem sam_code (G : GoodIn b acts g) (S : Split b) {i : Bool} {n n' m : Nat} (h1 : 1 ≤ evL b acts g i (n * acts.length)) (h2 : 1 ≤ evL b acts g i (n' * acts.length)) (hm : n * acts.length - evL b acts g i (n * acts.length) = m) (hm' : n' * acts.length - evL b acts g i (n' * acts.length) = m)
    (hx : xeL b acts g i (n * acts.length) = xeL b acts g i (n' * acts.length)) : Sam b acts g i (n * acts.length) (n' * acts.length) := by
  have l1 := evL_le (b := b) (acts := acts) (g := g) i (n * acts.length)
  have l2 := evL_le (b := b) (acts := acts) (g := g) i (n' * acts.length)
  have e1 := evL_ev (b := b) (acts := acts) (g := g) i _ h1
  have e2 := evL_ev (b := b) (acts := acts) (g := g) i _ h2
  unfold xeL at hx
  generalize evL b acts g i (n * acts.length) = s at *
  generalize evL b acts g i (n' * acts.length) = s' at *
  have base : Sam b acts g i s s' := fun k r hr => by
    have q1 := v_after G S hr e1
    have q2 := v_after G S hr e2
    rw [show s - 1 + 1 = s by omega] at q1
    rw [show s' - 1 + 1 = s' by omega] at q2
    rw [q1, q2, xe_get hx hr]
  have hT := T_cases G
  have hmod : s % acts.length = s' % acts.length := by
    generalize acts.length = T at *
    rcases hT with t | t | t | t | t <;> subst t <;> omega
  have q := sam_many G S hmod base m
  rw [show s + m = n * acts.length by omega, show s' + m = n' * acts.length by omega] at q
  exact q
/-- no event so far -/
theorem sam_none (G : GoodIn b acts g) (S : Split b) {i : Bool} {N M : Nat} (h1 : evL b acts g i N = 0) (h2 : evL b acts g i M = 0) : Sam b acts g i N M := fun k r hr => by
  have one : ∀ N, evL b acts g i N = 0 → vN b acts g r k (ky b i r) N = newPart := fun N h => by
    obtain ⟨a1, a2⟩ := hist G hr (ky_in G hr i) N
    cases z : kdL b acts g r k (ky b i r) N with
    | none => exact a1 z
    | some κ =>
      have q := (a2 κ z).2.1
      rw [cel_cell S hr, h] at q
      exact absurd q (by decide)
  rw [one N h1, one M h2]
end
end TL
/-! Trylocks, plain: when a pair's locks have gone round. -/
namespace TL
section
variable {b : Book} {acts : List Act} {g : Int} {r : Rule} {k : Nat} {y : Key}
/-- the greatest lock of some codes -/
def Wl : List (Int × Int) → Nat
  | [] => 0
  | x :: l => max (wcK x) (Wl l)
theorem Wl_ge {x : Int × Int} : ∀ {l : List (Int × Int)}, x ∈ l → wcK x ≤ Wl l
  | [], h => by cases h
  | z :: l, h => by
    unfold Wl
    rcases List.mem_cons.mp h with e | e
    · rw [e]; omega
    · have := Wl_ge e
      omega
theorem wc_4 (x : Int × Int) : wcK x = 0 ∨ 4 ≤ wcK x := by
  unfold wcK
  split
  · right
    split
    · omega
    · split <;> omega
  · exact .inl rfl
theorem Wl_4 : ∀ l : List (Int × Int), Wl l = 0 ∨ 4 ≤ Wl l
  | [] => .inl rfl
  | x :: l => by
    unfold Wl
    have h1 := wc_4 x
    have h2 := Wl_4 l
    omega
theorem evL_mid {i : Bool} {N : Nat} : ∀ {M : Nat}, evL b acts g i N ≤ M → M ≤ N → evL b acts g i M = evL b acts g i N := fun {M} h1 h2 => by
  induction N with
  | zero =>
    have : M = 0 := by omega
    rw [this]
  | succ N ih =>
    by_cases e : M = N + 1
    · rw [e]
    · have hM : M ≤ N := by omega
      unfold evL at h1 ⊢
      by_cases z : evP b acts g i N = true
      · rw [if_pos z] at h1
        omega
      · rw [if_neg z] at h1
        rw [if_neg z]
        have q := ih h1 hM
        cases M with
        | zero =>
          rw [← q]
          rfl
        | succ M => exact q
/-- nothing of the pair is left of locks: none comes but by an event -/
theorem free_on (G : GoodIn b acts g) (S : Split b) (hr : b.rules[k]? = some r) {i : Bool} {s : Nat} (h0 : (vN b acts g r k (ky b i r) s).left = 0) : ∀ j, (∀ M, s ≤ M → M < s + j → evP b acts g i M = false) → (vN b acts g r k (ky b i r) (s + j)).left = 0
  | 0, _ => h0
  | j + 1, h => by
    have ih := free_on G S hr h0 j fun M h1 h2 => h M h1 (by omega)
    have hy := ky_in G hr i
    have e : evC b acts g r (ky b i r) (s + j) = false := by rw [ev_cell G S hr]; exact h _ (by omega) (by omega)
    show (vN b acts g r k (ky b i r) (s + j + 1)).left = 0
    by_cases z : rsC b acts g r (ky b i r) (s + j) = true
    · rw [v_rs G hr hy z]
      rfl
    · rw [v_q G hr hy e (Bool.eq_false_iff.mpr z)]
      exact (qst_free G.gap.1 ih).1
/-- without events a reset cell stays so -/
theorem kd_none (S : Split b) (G : GoodIn b acts g) (hr : b.rules[k]? = some r) {i : Bool} {s : Nat} (h0 : kdL b acts g r k (ky b i r) s = none) : ∀ j, (∀ M, s ≤ M → M < s + j → evP b acts g i M = false) → kdL b acts g r k (ky b i r) (s + j) = none
  | 0, _ => h0
  | j + 1, h => by
    have ih := kd_none S G hr h0 j fun M h1 h2 => h M h1 (by omega)
    have e : evC b acts g r (ky b i r) (s + j) = false := by rw [ev_cell G S hr]; exact h _ (by omega) (by omega)
    show (if evC b acts g r (ky b i r) (s + j) = true then _ else _) = none
    rw [e, if_neg Bool.false_ne_true]
    split
    · rfl
    · exact ih
/-- without events what stands now stood before -/
theorem kd_back (S : Split b) (G : GoodIn b acts g) (hr : b.rules[k]? = some r) {i : Bool} {s j : Nat} {κ : Int × Int} (h : kdL b acts g r k (ky b i r) (s + j) = some κ) (hn : ∀ M, s ≤ M → M < s + j → evP b acts g i M = false) : kdL b acts g r k (ky b i r) s = some κ := by
  induction j with
  | zero => exact h
  | succ j ih =>
    have e : evC b acts g r (ky b i r) (s + j) = false := by rw [ev_cell G S hr]; exact hn _ (by omega) (by omega)
    have h' : (if evC b acts g r (ky b i r) (s + j) = true then some (kd r (vN b acts g r k (ky b i r) (s + j))) else if rsC b acts g r (ky b i r) (s + j) = true then none else kdL b acts g r k (ky b i r) (s + j)) = some κ := h
    rw [e, if_neg Bool.false_ne_true] at h'
    by_cases z : rsC b acts g r (ky b i r) (s + j) = true
    · rw [if_pos z] at h'
      cases h'
    · rw [if_neg z] at h'
      exact ih h' fun M h1 h2 => hn M h1 (by omega)
/-- a place comes within a round -/
theorem place_in {T s j : Nat} (hT : T = 2 ∨ T = 3 ∨ T = 4 ∨ T = 5 ∨ T = 6) (hj : j < T) (hs : 1 ≤ s) (hne : j ≠ (s - 1) % T) : ∃ M, s ≤ M ∧ M < s + (T - 1) ∧ M % T = j := by
  by_cases z : s % T ≤ j
  · exact ⟨s - s % T + j, by rcases hT with t | t | t | t | t <;> subst t <;> omega, by rcases hT with t | t | t | t | t <;> subst t <;> omega, by rcases hT with t | t | t | t | t <;> subst t <;> omega⟩
  · exact ⟨s - s % T + T + j, by rcases hT with t | t | t | t | t <;> subst t <;> omega, by rcases hT with t | t | t | t | t <;> subst t <;> omega, by rcases hT with t | t | t | t | t <;> subst t <;> omega⟩
/-- THE PAIR STANDS STILL -/
theorem still (G : GoodIn b acts g) (S : Split b) {i : Bool} {n q : Nat} (h1 : 1 ≤ evL b acts g i (n * acts.length)) (hq : q * acts.length ≤ n * acts.length - evL b acts g i (n * acts.length)) (hW : Wl (xeL b acts g i (n * acts.length)) < q * acts.length) (hW4 : 4 ≤ Wl (xeL b acts g i (n * acts.length))) :
    Sam b acts g i (n * acts.length) (n * acts.length + acts.length) := by
  have hT := T_cases G
  have hg := G.gap.1
  have l1 := evL_le (b := b) (acts := acts) (g := g) i (n * acts.length)
  have e1 := evL_ev (b := b) (acts := acts) (g := g) i _ h1
  have hsince := evL_since (b := b) (acts := acts) (g := g) i (n * acts.length)
  have hmid := fun M => @evL_mid b acts g i (n * acts.length) M
  unfold xeL at hW hW4
  generalize hs : evL b acts g i (n * acts.length) = s at *
  generalize hT0 : acts.length = T at *
  have hq1 : 1 ≤ q := by
    cases q with
    | zero => rw [Nat.zero_mul] at hW; omega
    | succ q => omega
  have hTq : T ≤ q * T := by
    have := Nat.mul_le_mul_right T hq1
    rw [Nat.one_mul] at this
    exact this
  -- the try at the event's own place, so many rounds later, is kept
  have hNs : s ≤ s - 1 + q * T := by omega
  have hNl : s - 1 + q * T < n * T := by omega
  have hno := hsince (s - 1 + q * T) hNs hNl
  have hact : actN acts (s - 1 + q * T) = actN acts (s - 1) := by
    unfold actN
    rw [hT0, Nat.add_mul_mod_self_right]
  unfold evP at hno e1
  rw [hact] at hno
  rw [Bool.and_eq_true] at e1
  rw [e1.1, Bool.true_and, Bool.not_eq_false'] at hno
  obtain ⟨k0, r0, hr0, hl0⟩ := lock_pr.mp hno
  have hy0 := ky_in G hr0 i
  have hro := G.rules r0 (List.mem_of_getElem? hr0)
  have hevs : ∀ M, s ≤ M → M < s + (q * T - 1) → evP b acts g i M = false := fun M a c => hsince M a (by omega)
  obtain ⟨a1, a2⟩ := hist G hr0 hy0 (s - 1 + q * T)
  obtain ⟨κ, hκ⟩ : ∃ κ, kdL b acts g r0 k0 (ky b i r0) (s - 1 + q * T) = some κ := by
    cases z : kdL b acts g r0 k0 (ky b i r0) (s - 1 + q * T) with
    | none =>
      rw [a1 z] at hl0
      exact absurd hl0 (by decide)
    | some κ => exact ⟨κ, rfl⟩
  obtain ⟨c1, c2, c3, c4, c5⟩ := a2 κ hκ
  have hcel : celL b acts g r0 (ky b i r0) (s - 1 + q * T) = s := by rw [cel_cell S hr0]; exact hmid _ hNs (by omega)
  rw [hcel, hT0] at c4 c5
  rw [show s - 1 + q * T - s = q * T - 1 by omega] at c5
  rw [c5] at hl0
  -- its code is one of the event's
  have hval : κ = kd r0 (vN b acts g r0 k0 (ky b i r0) (s - 1)) := by
    have z := kdL_val _ hκ (fun M => by rw [cel_cell S hr0]; exact evL_le i M) G
    rw [hcel] at z
    exact z
  have hwc : wcK κ ≤ Wl (xeAt b acts g i (s - 1)) := Wl_ge (by rw [hval]; exact xe_mem hr0)
  have hsz := size_le (κ := κ) hro
  have hst : r0.strict = true := by
    cases z : r0.strict with
    | true => rfl
    | false =>
      obtain ⟨d1, _⟩ := VG_soft (T := T) (tc := tcA acts r0 (ky b i r0)) (κ := κ) (s := s) hro hg z (q * T - 1)
      rw [d1] at hl0
      have hm := mul_ge (g := g) (m := q * T - 1) hg
      have hz : max0 (sizeK r0 κ - ((((q * T - 1 : Nat) : Int) + 1) * g - 1)) = 0 := max0_zero.mpr (by omega)
      rw [hz] at hl0
      exact absurd hl0 (by decide)
  have hfree : ∀ j, j ≤ q * T - 1 → 0 < (VG r0 g T (tcA acts r0 (ky b i r0)) κ s j).left := fun j hj => by
    have h0 := VG_nn (T := T) (tc := tcA acts r0 (ky b i r0)) (κ := κ) (s := s) hro hg j
    by_cases z : (VG r0 g T (tcA acts r0 (ky b i r0)) κ s j).left = 0
    · have w := VG_free hg z (q * T - 1 - j)
      rw [show j + (q * T - 1 - j) = q * T - 1 by omega] at w
      omega
    · omega
  have hpl : tcA acts r0 (ky b i r0) ((s + (T - 1)) % T) = true := by
    rw [show (s + (T - 1)) % T = (s - 1) % T by rcases hT with t | t | t | t | t <;> subst t <;> omega]
    exact c4
  have hring := VG_ring (T := T) (tc := tcA acts r0 (ky b i r0)) (κ := κ) (s := s) hro hg (by omega) hpl hst (hfree (T - 1) (by omega))
  have hall : ∀ q' j, j < T → 0 < (VG r0 g T (tcA acts r0 (ky b i r0)) κ s (q' * T + j)).left := fun q' => by
    induction q' with
    | zero => intro j hj; rw [Nat.zero_mul, Nat.zero_add]; exact hfree j (by omega)
    | succ q' ih =>
      intro j hj
      have e : (q' + 1) * T + j = T + (q' * T + j) := by rw [Nat.add_mul, Nat.one_mul]; omega
      rw [e, (hring _).1]
      exact ih j hj
  have hallj : ∀ j, 0 < (VG r0 g T (tcA acts r0 (ky b i r0)) κ s j).left := fun j => by
    have z := hall (j / T) (j % T) (Nat.mod_lt _ (by omega))
    rw [Nat.mul_comm, Nat.div_add_mod] at z
    exact z
  -- no opening touches it
  have hop : ∀ j, j < T → opA (ky b i r0) (acts.getD j .none) = false := fun j hj => by
    cases z : opA (ky b i r0) (acts.getD j .none) with
    | false => rfl
    | true =>
      exfalso
      have hne : j ≠ (s - 1) % T := fun e => by
        rw [e] at z
        unfold tcA at c4
        generalize acts.getD ((s - 1) % T) .none = act at z c4
        cases act with
        | none => cases z
        | open_ a => cases c4
        | try_ a p right => cases z
      obtain ⟨M, m1, m2, m3⟩ := place_in hT hj h1 hne
      have hrs : rsC b acts g r0 (ky b i r0) M = true := by
        unfold rsC actN
        rw [hT0, m3]
        generalize acts.getD j .none = act at z
        cases act with
        | none => cases z
        | open_ a => exact z
        | try_ a p right => cases z
      have hMn : kdL b acts g r0 k0 (ky b i r0) (M + 1) = none := by
        show (if evC b acts g r0 (ky b i r0) M = true then _ else _) = none
        rw [show evC b acts g r0 (ky b i r0) M = false by rw [ev_cell G S hr0]; exact hevs M m1 (by omega), if_neg Bool.false_ne_true, if_pos hrs]
      have w := kd_none S G hr0 hMn (s - 1 + q * T - (M + 1)) fun M' x1 x2 => hevs M' (by omega) (by omega)
      rw [show M + 1 + (s - 1 + q * T - (M + 1)) = s - 1 + q * T by omega, hκ] at w
      cases w
  -- so it holds for ever
  have hκs : kdL b acts g r0 k0 (ky b i r0) s = some κ := kd_back S G hr0 (j := q * T - 1) (by rw [show s + (q * T - 1) = s - 1 + q * T by omega]; exact hκ) hevs
  have hlockAt : ∀ N, kdL b acts g r0 k0 (ky b i r0) N = some κ → evL b acts g i N = s → lockN b acts g N (pr b i).1 (pr b i).2 = true := fun N x1 x2 => by
    obtain ⟨_, _, _, _, y5⟩ := (hist G hr0 hy0 N).2 κ x1
    rw [cel_cell S hr0, x2, hT0] at y5
    exact lock_pr.mpr ⟨k0, r0, hr0, by rw [y5]; exact hallj _⟩
  have hever : ∀ j, kdL b acts g r0 k0 (ky b i r0) (s + j) = some κ ∧ evL b acts g i (s + j) = s := fun j => by
    induction j with
    | zero => exact ⟨hκs, hmid s (Nat.le_refl s) l1⟩
    | succ j ih =>
      obtain ⟨x1, x2⟩ := ih
      have hl := hlockAt _ x1 x2
      have hev : evP b acts g i (s + j) = false := by unfold evP; rw [hl]; exact Bool.and_false _
      refine ⟨?_, ?_⟩
      · show (if evC b acts g r0 (ky b i r0) (s + j) = true then _ else if rsC b acts g r0 (ky b i r0) (s + j) = true then _ else _) = _
        rw [ev_cell G S hr0, hev, if_neg Bool.false_ne_true]
        have hrs : rsC b acts g r0 (ky b i r0) (s + j) = false := by
          have hin := actN_in G (s + j)
          have ho := hop ((s + j) % T) (Nat.mod_lt _ (by omega))
          unfold rsC
          unfold actN at hin ⊢
          rw [hT0] at hin ⊢
          generalize acts.getD ((s + j) % T) .none = act at hin ho
          cases act with
          | none => rfl
          | open_ a => exact ho
          | try_ a p right =>
            cases right with
            | false => rfl
            | true =>
              have hp := pr_of G hin
              have ha : a = (pr b (cl a p)).1 := congrArg Prod.fst hp
              have hqq : p = (pr b (cl a p)).2 := congrArg Prod.snd hp
              show (decide (ky b i r0 = keyFor r0 a p) && !lockN b acts g (s + j) a p && r0.clears) = false
              by_cases e : ky b i r0 = keyFor r0 a p
              · have ei : i = cl a p := split_ne S hr0 (show ky b i r0 = ky b (cl a p) r0 by rw [e]; unfold ky; rw [← ha, ← hqq])
                have hl' := hl
                rw [ei, ← ha, ← hqq] at hl'
                rw [hl', Bool.not_true, Bool.and_false, Bool.false_and]
              · rw [decide_eq_false e, Bool.false_and, Bool.false_and]
        rw [hrs, if_neg Bool.false_ne_true]
        exact x1
      · show (if evP b acts g i (s + j) = true then _ else _) = _
        rw [hev, if_neg Bool.false_ne_true]
        exact x2
  have hlk : ∀ N, s ≤ N → lockN b acts g N (pr b i).1 (pr b i).2 = true := fun N hN => by
    obtain ⟨x1, x2⟩ := hever (N - s)
    rw [show s + (N - s) = N by omega] at x1 x2
    exact hlockAt N x1 x2
  have hnev : ∀ N, s ≤ N → evP b acts g i N = false := fun N hN => by unfold evP; rw [hlk N hN]; exact Bool.and_false _
  -- all cells of the pair
  intro k r hr
  have hy := ky_in G hr i
  have hrok := G.rules r (List.mem_of_getElem? hr)
  have hevs1 : evP b acts g i (s - 1) = true := by unfold evP; rw [Bool.and_eq_true]; exact e1
  by_cases ho : ∃ j, j < T ∧ opA (ky b i r) (acts.getD j .none) = true
  · -- opened in each round
    obtain ⟨j, hj, z⟩ := ho
    have hne : j ≠ (s - 1) % T := fun e => by
      rw [e] at z
      have w := e1.1
      unfold actN at w
      rw [hT0] at w
      generalize acts.getD ((s - 1) % T) .none = act at z w
      cases act with
      | none => cases z
      | open_ a => cases w
      | try_ a p right => cases z
    obtain ⟨M, m1, m2, m3⟩ := place_in hT hj h1 hne
    have hrs : rsC b acts g r (ky b i r) M = true := by
      unfold rsC actN
      rw [hT0, m3]
      generalize acts.getD j .none = act at z
      cases act with
      | none => cases z
      | open_ a => exact z
      | try_ a p right => cases z
    have hMn : kdL b acts g r k (ky b i r) (M + 1) = none := by
      show (if evC b acts g r (ky b i r) M = true then _ else _) = none
      rw [ev_cell G S hr, hnev M m1, if_neg Bool.false_ne_true, if_pos hrs]
    have w1 := kd_none S G hr hMn (n * T - (M + 1)) fun M' x1 x2 => hnev M' (by omega)
    have w2 := kd_none S G hr hMn (n * T + T - (M + 1)) fun M' x1 x2 => hnev M' (by omega)
    rw [show M + 1 + (n * T - (M + 1)) = n * T by omega] at w1
    rw [show M + 1 + (n * T + T - (M + 1)) = n * T + T by omega] at w2
    rw [(hist G hr hy _).1 w1, (hist G hr hy _).1 w2]
  · -- never reset
    have hrs : ∀ N, s ≤ N → rsC b acts g r (ky b i r) N = false := fun N hN => by
      have hin := actN_in G N
      have hoN : opA (ky b i r) (actN acts N) = false := by
        cases z : opA (ky b i r) (actN acts N) with
        | false => rfl
        | true =>
          unfold actN at z
          rw [hT0] at z
          exact absurd ⟨N % T, Nat.mod_lt _ (by omega), z⟩ ho
      have hl := hlk N hN
      unfold rsC
      generalize actN acts N = act at hin hoN
      cases act with
      | none => rfl
      | open_ a => exact hoN
      | try_ a p right =>
        cases right with
        | false => rfl
        | true =>
          have hp := pr_of G hin
          have ha : a = (pr b (cl a p)).1 := congrArg Prod.fst hp
          have hqq : p = (pr b (cl a p)).2 := congrArg Prod.snd hp
          show (decide (ky b i r = keyFor r a p) && !lockN b acts g N a p && r.clears) = false
          by_cases e : ky b i r = keyFor r a p
          · have ei : i = cl a p := split_ne S hr (show ky b i r = ky b (cl a p) r by rw [e]; unfold ky; rw [← ha, ← hqq])
            rw [ei, ← ha, ← hqq] at hl
            rw [hl, Bool.not_true, Bool.and_false, Bool.false_and]
          · rw [decide_eq_false e, Bool.false_and, Bool.false_and]
    have hk0 : kdL b acts g r k (ky b i r) s = some (kd r (vN b acts g r k (ky b i r) (s - 1))) := by
      have e : s = (s - 1) + 1 := by omega
      rw [e]
      show (if evC b acts g r (ky b i r) (s - 1) = true then _ else _) = _
      rw [ev_cell G S hr, hevs1, if_pos rfl]
      rfl
    have hkj : ∀ j, kdL b acts g r k (ky b i r) (s + j) = some (kd r (vN b acts g r k (ky b i r) (s - 1))) := fun j => by
      induction j with
      | zero => exact hk0
      | succ j ih =>
        show (if evC b acts g r (ky b i r) (s + j) = true then _ else if rsC b acts g r (ky b i r) (s + j) = true then _ else _) = _
        rw [ev_cell G S hr, hnev _ (by omega), if_neg Bool.false_ne_true, hrs _ (by omega), if_neg Bool.false_ne_true]
        exact ih
    have at_ : ∀ j, vN b acts g r k (ky b i r) (s + j) = VG r g T (tcA acts r (ky b i r)) (kd r (vN b acts g r k (ky b i r) (s - 1))) s j ∧ tcA acts r (ky b i r) ((s - 1) % T) = true := fun j => by
      obtain ⟨_, _, _, y4, y5⟩ := (hist G hr hy (s + j)).2 _ (hkj j)
      have hc : celL b acts g r (ky b i r) (s + j) = s := by rw [cel_cell S hr]; exact (hever j).2
      rw [hc, hT0] at y4 y5
      rw [Nat.add_sub_cancel_left] at y5
      exact ⟨y5, y4⟩
    have w1 := (at_ (n * T - s)).1
    have w2 := (at_ (T + (n * T - s))).1
    have w3 := (at_ 0).2
    rw [show s + (n * T - s) = n * T by omega] at w1
    rw [show s + (T + (n * T - s)) = n * T + T by omega] at w2
    rw [w1, w2]
    have hwc' : wcK (kd r (vN b acts g r k (ky b i r) (s - 1))) ≤ Wl (xeAt b acts g i (s - 1)) := Wl_ge (xe_mem hr)
    have hsz' := size_le (κ := kd r (vN b acts g r k (ky b i r) (s - 1))) hrok
    have hm := mul_ge (g := g) (m := n * T - s) hg
    have hpl' : tcA acts r (ky b i r) ((s + (T - 1)) % T) = true := by
      rw [show (s + (T - 1)) % T = (s - 1) % T by rcases hT with t | t | t | t | t <;> subst t <;> omega]
      exact w3
    exact (VG_settle hrok hg (kd_in hrok (v_in G hr hy (s - 1))) (by omega) hpl' (by omega) (by omega) (by omega)).symm
end
end TL
/-! Trylocks, plain: the bound. -/
namespace TL
section
variable {b : Book} {acts : List Act} {g : Int} {r : Rule} {k : Nat} {y : Key}
/-- how many times there are for codes with such a lock, of w wrong tries in T actions -/
def nT (w T W : Nat) : Nat := if W = 0 then 1 else w * (1 + W / T)
def nSum (w T : Nat) : Nat := ((allL KD 3).map fun x => nT w T (Wl x)).sum
def wr (acts : List Act) (i : Bool) : List Nat := (List.range acts.length).filter (slotW acts i)
def slots2 (acts : List Act) (i : Bool) (W : Nat) : List Nat := if W = 0 then ((List.range acts.length).find? (slotW acts i)).toList else (wr acts i).flatMap fun ρ => (List.range (1 + W / acts.length)).map fun q => ρ + q * acts.length
theorem slots2_len (i : Bool) (W : Nat) : (slots2 acts i W).length ≤ nT (wr acts i).length acts.length W := by
  unfold slots2 nT
  split
  · cases (List.range acts.length).find? (slotW acts i) with
    | none => exact Nat.zero_le _
    | some x => exact Nat.le_refl 1
  · exact flat_len _ _ _ fun x _ => by rw [List.length_map, List.length_range]; exact Nat.le_refl _
def codes2 (acts : List Act) (i : Bool) : List (Option (Option (List (Int × Int) × Nat))) := none :: some none :: (allL KD 3).flatMap fun x => (slots2 acts i (Wl x)).map fun m => some (some (x, m))
theorem flat_sum {α β : Type} (f : α → List β) (h : α → Nat) : ∀ o : List α, (∀ x ∈ o, (f x).length ≤ h x) → (o.flatMap f).length ≤ (o.map h).sum
  | [], _ => Nat.zero_le _
  | x :: o, hx => by
    rw [List.flatMap_cons, List.length_append, List.map_cons, List.sum_cons]
    have h1 := hx x (List.mem_cons_self ..)
    have h2 := flat_sum f h o fun y hy => hx y (List.mem_cons_of_mem _ hy)
    omega
theorem codes2_len (i : Bool) : (codes2 acts i).length ≤ 2 + nSum (wr acts i).length acts.length := by
  unfold codes2 nSum
  rw [List.length_cons, List.length_cons]
  have q := flat_sum (fun x => (slots2 acts i (Wl x)).map fun m => some (some (x, m))) (fun x => nT (wr acts i).length acts.length (Wl x)) (allL KD 3) fun x _ => by
    rw [List.length_map]
    exact slots2_len i _
  omega
theorem sums_small : ∀ T ∈ [2, 3, 4, 5, 6], ∀ w ∈ List.range 7, ∀ v ∈ List.range 7, w + v ≤ T → (2 + nSum w T) * (2 + nSum v T) < 2 ^ 24 := by decide +kernel
/-- the code of a pair at a round's beginning -/
def code2 (b : Book) (acts : List Act) (g : Int) (i : Bool) (n : Nat) : Option (Option (List (Int × Int) × Nat)) :=
  if evL b acts g i (n * acts.length) = 0 then none
  else if 0 < Wl (xeL b acts g i (n * acts.length)) ∧ Wl (xeL b acts g i (n * acts.length)) < (n * acts.length - evL b acts g i (n * acts.length)) / acts.length * acts.length then some none
  else some (some (xeL b acts g i (n * acts.length), n * acts.length - evL b acts g i (n * acts.length)))
theorem slotW_ev (G : GoodIn b acts g) {i : Bool} {s m n : Nat} (h : isW i (actN acts s) = true) (e : s + 1 + m = n * acts.length) : slotW acts i m = true := by
  have hT := T_cases G
  unfold slotW
  rw [List.any_eq_true]
  refine ⟨s % acts.length, List.mem_range.mpr (Nat.mod_lt _ (by omega)), ?_⟩
  rw [Bool.and_eq_true]
  refine ⟨decide_eq_true ?_, h⟩
  generalize acts.length = T at *
  rcases hT with t | t | t | t | t <;> subst t <;> omega
theorem code2_in (G : GoodIn b acts g) (S : Split b) (h3 : b.rules.length = 3) (i : Bool) (n : Nat) : code2 b acts g i n ∈ codes2 acts i := by
  have hT := T_cases G
  unfold code2 codes2
  by_cases z : evL b acts g i (n * acts.length) = 0
  · rw [if_pos z]
    exact List.mem_cons_self ..
  · rw [if_neg z]
    refine List.mem_cons_of_mem _ ?_
    by_cases zt : 0 < Wl (xeL b acts g i (n * acts.length)) ∧ Wl (xeL b acts g i (n * acts.length)) < (n * acts.length - evL b acts g i (n * acts.length)) / acts.length * acts.length
    · rw [if_pos zt]
      exact List.mem_cons_self ..
    · rw [if_neg zt]
      refine List.mem_cons_of_mem _ ?_
      have l1 := evL_le (b := b) (acts := acts) (g := g) i (n * acts.length)
      have e1 := evL_ev (b := b) (acts := acts) (g := g) i (n * acts.length) (by omega)
      have hsince := evL_since (b := b) (acts := acts) (g := g) i (n * acts.length)
      have hx : xeL b acts g i (n * acts.length) ∈ allL KD 3 := by
        have q := allL_mem (o := KD) (xeL b acts g i (n * acts.length)) (xe_in G)
        have hl : (xeL b acts g i (n * acts.length)).length = 3 := by
          unfold xeL xeAt
          rw [List.length_map, List.length_zipIdx, h3]
        rw [hl] at q
        exact q
      refine List.mem_flatMap.mpr ⟨_, hx, List.mem_map.mpr ⟨_, ?_, rfl⟩⟩
      have hw1 : isW i (actN acts (evL b acts g i (n * acts.length) - 1)) = true := by
        unfold evP at e1
        rw [Bool.and_eq_true] at e1
        exact e1.1
      have hslot : slotW acts i (n * acts.length - evL b acts g i (n * acts.length)) = true := slotW_ev (n := n) G hw1 (by omega)
      unfold slots2
      by_cases zw : Wl (xeL b acts g i (n * acts.length)) = 0
      · rw [if_pos zw, Option.mem_toList]
        -- no lock: the last wrong try of the round
        have hleft : ∀ (k : Nat) (r : Rule), b.rules[k]? = some r → (vN b acts g r k (ky b i r) (evL b acts g i (n * acts.length))).left = 0 := fun k r hr => by
          have q := v_after G S hr e1
          rw [show evL b acts g i (n * acts.length) - 1 + 1 = evL b acts g i (n * acts.length) by omega] at q
          have hro := G.rules r (List.mem_of_getElem? hr)
          have hwc : wcK (kd r (vN b acts g r k (ky b i r) (evL b acts g i (n * acts.length) - 1))) ≤ Wl (xeL b acts g i (n * acts.length)) := Wl_ge (xe_mem hr)
          have hsz := size_le (κ := kd r (vN b acts g r k (ky b i r) (evL b acts g i (n * acts.length) - 1))) hro
          have h0 := (VG0 (T := 1) (tc := fun _ => false) (κ := kd r (vN b acts g r k (ky b i r) (evL b acts g i (n * acts.length) - 1))) (s := 0) hro G.gap.1).1
          have hg := G.gap.1
          rw [q]
          exact h0.trans (max0_zero.mpr (by omega))
        have hun : ∀ M, evL b acts g i (n * acts.length) ≤ M → M < n * acts.length → lockN b acts g M (pr b i).1 (pr b i).2 = false := fun M a c => by
          cases zl : lockN b acts g M (pr b i).1 (pr b i).2 with
          | false => rfl
          | true =>
            obtain ⟨k, r, hr, hl⟩ := lock_pr.mp zl
            have q := free_on G S hr (hleft k r hr) (M - evL b acts g i (n * acts.length)) fun M' x1 x2 => hsince M' x1 (by omega)
            rw [show evL b acts g i (n * acts.length) + (M - evL b acts g i (n * acts.length)) = M by omega] at q
            rw [q] at hl
            exact absurd hl (by decide)
        have hless : ∀ m', m' < n * acts.length - evL b acts g i (n * acts.length) → slotW acts i m' = false := fun m' hm' => by
          cases zs : slotW acts i m' with
          | false => rfl
          | true =>
            unfold slotW at zs
            rw [List.any_eq_true] at zs
            obtain ⟨j, hj, zs⟩ := zs
            rw [Bool.and_eq_true] at zs
            have hj' := List.mem_range.mp hj
            have hmz := of_decide_eq_true zs.1
            have hMj : (n * acts.length - m' - 1) % acts.length = j := by
              clear hun hleft hsince e1 hslot zt hx zs hj zw hw1
              generalize evL b acts g i (n * acts.length) = s at *
              generalize acts.length = T at *
              rcases hT with t | t | t | t | t <;> subst t <;> omega
            have hev : evP b acts g i (n * acts.length - m' - 1) = true := by
              unfold evP actN
              rw [hun _ (by omega) (by omega), hMj, zs.2]
              rfl
            rw [hsince _ (by omega) (by omega)] at hev
            cases hev
        have hmT : n * acts.length - evL b acts g i (n * acts.length) < acts.length := by
          by_cases zz : n * acts.length - evL b acts g i (n * acts.length) < acts.length
          · exact zz
          · exfalso
            have q := hless (n * acts.length - evL b acts g i (n * acts.length) - acts.length) (by omega)
            have n1 : 1 ≤ n := by
              cases n with
              | zero => rw [Nat.zero_mul] at l1; omega
              | succ n => omega
            have hn : (n - 1) * acts.length = n * acts.length - acts.length := by rw [Nat.sub_mul, Nat.one_mul]
            have q2 : slotW acts i (n * acts.length - evL b acts g i (n * acts.length) - acts.length) = true := slotW_ev (n := n - 1) G hw1 (by rw [hn]; omega)
            rw [q] at q2
            cases q2
        rw [List.find?_range_eq_some]
        exact ⟨hslot, List.mem_range.mpr hmT, fun j hj => by rw [hless j hj]; rfl⟩
      · rw [if_neg zw]
        have hnot : ¬ Wl (xeL b acts g i (n * acts.length)) < (n * acts.length - evL b acts g i (n * acts.length)) / acts.length * acts.length := fun q => zt ⟨by omega, q⟩
        have hTpos : 0 < acts.length := by omega
        refine List.mem_flatMap.mpr ⟨(n * acts.length - evL b acts g i (n * acts.length)) % acts.length, ?_, List.mem_map.mpr ⟨(n * acts.length - evL b acts g i (n * acts.length)) / acts.length, ?_, ?_⟩⟩
        · refine List.mem_filter.mpr ⟨List.mem_range.mpr (Nat.mod_lt _ hTpos), ?_⟩
          unfold slotW at hslot ⊢
          rw [List.any_eq_true] at hslot ⊢
          obtain ⟨j, hj, hs⟩ := hslot
          refine ⟨j, hj, ?_⟩
          rw [Bool.and_eq_true] at hs ⊢
          refine ⟨decide_eq_true ?_, hs.2⟩
          have hz := of_decide_eq_true hs.1
          rw [Nat.add_mod, Nat.mod_mod, ← Nat.add_mod]
          exact hz
        · refine List.mem_range.mpr ?_
          have q : (n * acts.length - evL b acts g i (n * acts.length)) / acts.length ≤ Wl (xeL b acts g i (n * acts.length)) / acts.length := (Nat.le_div_iff_mul_le hTpos).mpr (by omega)
          omega
        · generalize n * acts.length - evL b acts g i (n * acts.length) = M
          have := Nat.mod_add_div M acts.length
          rw [Nat.mul_comm] at this
          exact this
theorem still_on (G : GoodIn b acts g) (S : Split b) {i : Bool} {n : Nat} (h : Sam b acts g i (n * acts.length) (n * acts.length + acts.length)) : ∀ j, Sam b acts g i (n * acts.length) ((n + j) * acts.length)
  | 0 => fun k r hr => rfl
  | j + 1 => fun k r hr => by
    have ih := still_on G S h j
    have q := sam_many G S (N := n * acts.length) (M := (n + j) * acts.length) (by rw [Nat.mul_mod_left, Nat.mul_mod_left]) ih acts.length k r hr
    rw [h k r hr, q]
    rw [show (n + j) * acts.length + acts.length = (n + (j + 1)) * acts.length by rw [← Nat.add_assoc, Nat.add_mul (n + j), Nat.one_mul]]
theorem code2_same (G : GoodIn b acts g) (S : Split b) {i : Bool} {n m : Nat} (h : code2 b acts g i n = code2 b acts g i m) : Sam b acts g i (n * acts.length) (m * acts.length) := by
  have term : ∀ {n m : Nat}, evL b acts g i (n * acts.length) ≠ 0 → (0 < Wl (xeL b acts g i (n * acts.length)) ∧ Wl (xeL b acts g i (n * acts.length)) < (n * acts.length - evL b acts g i (n * acts.length)) / acts.length * acts.length) → n ≤ m → Sam b acts g i (n * acts.length) (m * acts.length) := fun {n m} a c hnm => by
    have hW := Wl_4 (xeL b acts g i (n * acts.length))
    have q := still_on G S (still G S (q := (n * acts.length - evL b acts g i (n * acts.length)) / acts.length) (by omega) (Nat.div_mul_le_self _ _) c.2 (by omega)) (m - n)
    rw [show n + (m - n) = m by omega] at q
    exact q
  unfold code2 at h
  by_cases z1 : evL b acts g i (n * acts.length) = 0
  · rw [if_pos z1] at h
    by_cases z2 : evL b acts g i (m * acts.length) = 0
    · exact sam_none G S z1 z2
    · rw [if_neg z2] at h
      split at h <;> cases h
  · rw [if_neg z1] at h
    by_cases z2 : evL b acts g i (m * acts.length) = 0
    · rw [if_pos z2] at h
      split at h <;> cases h
    · rw [if_neg z2] at h
      by_cases t1 : 0 < Wl (xeL b acts g i (n * acts.length)) ∧ Wl (xeL b acts g i (n * acts.length)) < (n * acts.length - evL b acts g i (n * acts.length)) / acts.length * acts.length
      · rw [if_pos t1] at h
        by_cases t2 : 0 < Wl (xeL b acts g i (m * acts.length)) ∧ Wl (xeL b acts g i (m * acts.length)) < (m * acts.length - evL b acts g i (m * acts.length)) / acts.length * acts.length
        · rcases Nat.le_total n m with q | q
          · exact term z1 t1 q
          · exact fun k r hr => (term z2 t2 q k r hr).symm
        · rw [if_neg t2] at h
          cases h
      · rw [if_neg t1] at h
        by_cases t2 : 0 < Wl (xeL b acts g i (m * acts.length)) ∧ Wl (xeL b acts g i (m * acts.length)) < (m * acts.length - evL b acts g i (m * acts.length)) / acts.length * acts.length
        · rw [if_pos t2] at h
          cases h
        · rw [if_neg t2] at h
          injection h with h
          injection h with h
          injection h with h1 h2
          exact sam_code G S (by omega) (by omega) h2 rfl h1
theorem bound6 (G : GoodIn b acts g) (S : Split b) (h3 : b.rules.length = 3) : ∃ Z : List Stand, Z.length < 2 ^ 24 ∧ ∀ n, stN b g acts n ∈ Z := by
  let C := (codes2 acts false).flatMap fun x => (codes2 acts true).map fun z => (x, z)
  have hmem : ∀ n, (code2 b acts g false n, code2 b acts g true n) ∈ C := fun n => List.mem_flatMap.mpr ⟨_, code2_in G S h3 false n, List.mem_map.mpr ⟨_, code2_in G S h3 true n, rfl⟩⟩
  have hsame : ∀ n m, (code2 b acts g false n, code2 b acts g true n) = (code2 b acts g false m, code2 b acts g true m) → stN b g acts n = stN b g acts m := fun n m h => by
    injection h with h1 h2
    have s1 := code2_same G S h1
    have s2 := code2_same G S h2
    refine st_ext G fun k r y hr hy => ?_
    rcases touched G hr hy with t | t
    · have e : y = ky b false r := of_decide_eq_true t
      rw [e]
      exact s1 k r hr
    · have e : y = ky b true r := of_decide_eq_true t
      rw [e]
      exact s2 k r hr
  obtain ⟨Z, h1, h2⟩ := by_codes (stN b g acts) (fun n => (code2 b acts g false n, code2 b acts g true n)) C hmem hsame
  refine ⟨Z, Nat.lt_of_le_of_lt h1 ?_, h2⟩
  have q := flat_len (fun x => (codes2 acts true).map fun z => (x, z)) (2 + nSum (wr acts true).length acts.length) (codes2 acts false) fun x _ => by
    rw [List.length_map]
    exact codes2_len true
  have d := filt_disj (slot_disj G) (List.range acts.length)
  rw [List.length_range] at d
  have hf := G.few
  have d' : (wr acts false).length + (wr acts true).length ≤ acts.length := d
  have hT : acts.length ∈ [2, 3, 4, 5, 6] := by
    rcases T_cases G with t | t | t | t | t <;> rw [t] <;> decide
  have s := sums_small acts.length hT (wr acts false).length (List.mem_range.mpr (by omega)) (wr acts true).length (List.mem_range.mpr (by omega)) d'
  exact Nat.lt_of_le_of_lt (Nat.le_trans q (Nat.mul_le_mul_right _ (codes2_len false))) s
end
end TL
/-! Trylocks, plain: fewer than 2^24 standings. -/
namespace TL
section
variable {b : Book} {acts : List Act} {g : Int} {r : Rule}
theorem keys_two (G : GoodIn b acts g) (hr : RuleOk r) : (keysOf b r).length ≤ 2 ∧ ((keysOf b r).length = 2 → ky b false r ≠ ky b true r) := by
  have hk := hr.1
  have s := G.sizes
  have h3 : r.key = 0 ∨ r.key = 1 ∨ r.key = 2 := by omega
  unfold keysOf pairsOf ky keyFor pr
  rcases s with ⟨ha, hp⟩ | ⟨ha, hp⟩ | ⟨ha, hp⟩ <;> rcases h3 with h | h | h <;> rw [ha, hp, h] <;> decide
theorem bound (G : GoodIn b acts g) : ∃ Z : List Stand, Z.length < 2 ^ 24 ∧ ∀ n, stN b g acts n ∈ Z := by
  by_cases hc : (cellsL b).length ≤ 5
  · exact bound5 G hc
  · have hl := G.len
    have kt := fun r (hr : r ∈ b.rules) => keys_two G (G.rules r hr)
    unfold cellsL at hc
    have both : b.rules.length = 3 ∧ ∀ r ∈ b.rules, (keysOf b r).length = 2 := by
      match hb : b.rules, hl, kt with
      | [], _, _ => rw [hb] at hc; exact absurd (Nat.zero_le 5) hc
      | [x], _, kt =>
        rw [hb] at hc
        have h1 := (kt x (by simp)).1
        simp [List.zipIdx] at hc
        omega
      | [x, y], _, kt =>
        rw [hb] at hc
        have h1 := (kt x (by simp)).1
        have h2 := (kt y (by simp)).1
        simp [List.zipIdx] at hc
        omega
      | [x, y, z], _, kt =>
        rw [hb] at hc
        have h1 := (kt x (by simp)).1
        have h2 := (kt y (by simp)).1
        have h3 := (kt z (by simp)).1
        simp [List.zipIdx] at hc
        refine ⟨rfl, fun r hr => ?_⟩
        simp only [List.mem_cons, List.not_mem_nil, or_false] at hr
        rcases hr with rfl | rfl | rfl <;> omega
      | _ :: _ :: _ :: _ :: _, hl, _ =>
        simp at hl
    exact bound6 G (fun r hr => (kt r hr).2 (both.2 r hr)) both.1
end
end TL
/-! Trylocks, plain: the law's cells are small and stand at keys of the book. -/
namespace TL
section
variable {b : Book} {acts : List Act} {g : Int} {r : Rule} {k : Nat} {y : Key}
/-! ### small parts -/
structure PartSm (x : Part) : Prop where
  a0 : 0 ≤ x.age
  a1 : x.age ≤ 5
  l1 : x.left ≤ 16
  w1 : x.whole ≤ 16
theorem new_sm : PartSm newPart := ⟨Int.le_refl 0, by decide, by decide, by decide⟩
theorem passed_sm {x : Part} (hr : RuleOk r) (h : PartSm x) {n : Int} (hn : 0 ≤ n) : PartSm (passed r x n) := by
  have hf := hr.2.2.2
  have h1 := h.a0
  have h2 := h.a1
  have h3 := h.l1
  have h4 := h.w1
  refine ⟨?_, ?_, ?_, ?_⟩
  · rw [passed_age]; split
    · split <;> omega
    · exact h1
  · rw [passed_age]; split
    · split <;> omega
    · exact h2
  · rw [passed_left]; unfold max0; split <;> omega
  · rw [passed_whole]; split <;> omega
theorem kept_sm {x : Part} (hr : RuleOk r) (h : PartSm x) : PartSm (keptPart r x) := by
  have q := passed_sm hr h (show (0 : Int) ≤ 1 by decide)
  unfold keptPart
  split
  · exact ⟨q.a0, q.a1, h.w1, h.w1⟩
  · exact q
theorem bg_sm {κ : Int × Int} (hr : RuleOk r) : PartSm (bg r κ) := by
  have hs := size_le (κ := κ) hr
  have hw := wc_le κ
  unfold bg
  unfold sizeK at hs
  by_cases z : κ.1 = 2
  · rw [if_pos z] at hs ⊢
    exact ⟨Int.le_refl 0, by show (0 : Int) ≤ 5; decide, by show r.lock * (if r.grows then factor κ.2 else 1) ≤ 16; omega, by show r.lock * (if r.grows then factor κ.2 else 1) ≤ 16; omega⟩
  · rw [if_neg z]
    exact passed_sm hr ⟨Int.le_refl 0, by show (0 : Int) ≤ 5; decide, by show (0 : Int) ≤ 16; decide, by show (0 : Int) ≤ 16; decide⟩ (by decide)
theorem v_sm (G : GoodIn b acts g) (hr : b.rules[k]? = some r) (hy : y ∈ keysOf b r) : ∀ N, PartSm (vN b acts g r k y N)
  | 0 => by rw [v_zero]; exact new_sm
  | N + 1 => by
    have hro := G.rules r (List.mem_of_getElem? hr)
    have ih := v_sm G hr hy N
    have hin := v_in G hr hy N
    have hg := G.gap.1
    rw [v_step G hr hy]
    refine passed_sm hro ?_ (by omega)
    unfold chg
    split
    · exact passed_sm hro ih (by decide)
    · split
      · exact new_sm
      · exact passed_sm hro ih (by decide)
    · split
      · split
        · exact kept_sm hro ih
        · split
          · unfold letPart
            split
            · exact new_sm
            · exact passed_sm hro ih (by decide)
          · rw [begun_kd hro hin]
            exact bg_sm hro
      · exact passed_sm hro ih (by decide)
/-! ### the keys of the law's cells -/
def KeysIn (b : Book) (L : LSt) : Prop := ∀ e ∈ L, ∃ r, b.rules[e.1.1]? = some r ∧ e.1.2 ∈ keysOf b r
theorem setC_keysIn {L : LSt} (h : KeysIn b L) {c : Cell} (hr : b.rules[k]? = some r) (hy : y ∈ keysOf b r) : KeysIn b (setC L k y c) := fun e he => by
  unfold setC at he
  split at he
  · obtain ⟨x, hx, rfl⟩ := List.mem_map.mp he
    split
    · exact h x hx
    · exact h x hx
  · rcases List.mem_append.mp he with q | q
    · exact h e q
    · rw [List.mem_singleton.mp q]
      exact ⟨r, hr, hy⟩
theorem try_keysIn (G : GoodIn b acts g) {held : List Nat} {t a p : Int} {right : Bool} (hp : InBook b a p) : ∀ (ks : List Nat) (L : LSt), KeysIn b L → KeysIn b (ks.foldl (tryL b.rules held t a p right) L)
  | [], _, h => h
  | k :: ks, L, h => by
    refine try_keysIn G hp ks _ ?_
    cases hk : b.rules[k]? with
    | none =>
      unfold tryL
      rw [hk]
      exact h
    | some r =>
      rw [tryL_some hk]
      exact setC_keysIn h hk (keyFor_in hp (G.rules r (List.mem_of_getElem? hk)).1)
theorem run_keysIn (G : GoodIn b acts g) : ∀ N, KeysIn b (lrun b.rules g acts N)
  | 0 => fun e he => nomatch he
  | N + 1 => by
    have ih := run_keysIn G N
    have hin := actB_of (actN_in G N)
    show KeysIn b (doL b.rules (lrun b.rules g acts N) ((N : Int) * g) (actN acts N)).2
    generalize actN acts N = act at hin
    cases act with
    | none => exact ih
    | open_ a =>
      intro e he
      obtain ⟨x, hx, rfl⟩ := List.mem_map.mp he
      split
      · exact ih x hx
      · exact ih x hx
    | try_ a p right => exact try_keysIn G hin _ _ ih
theorem getC_mem {L : LSt} (nd : (L.map (·.1)).Nodup) {e : (Nat × Key) × Cell} (he : e ∈ L) : getC L e.1.1 e.1.2 = e.2 := by
  induction L with
  | nil => cases he
  | cons x L ih =>
    rw [List.map_cons, List.nodup_cons] at nd
    rw [getC_cons]
    by_cases h : x.1 = (e.1.1, e.1.2)
    · rw [if_pos h]
      rcases List.mem_cons.mp he with q | q
      · rw [q]
      · exact absurd (List.mem_map.mpr ⟨e, q, h.symm⟩) nd.1
    · rw [if_neg h]
      rcases List.mem_cons.mp he with q | q
      · exact absurd (by rw [q]) h
      · exact ih nd.2 q
theorem getC_in {L : LSt} (h : getC L k y ≠ zeroC) : ∃ e ∈ L, e.1 = (k, y) ∧ e.2 = getC L k y := by
  unfold getC at h ⊢
  cases hf : L.find? fun e => decide (e.1 = (k, y)) with
  | none =>
    rw [hf] at h
    exact absurd rfl h
  | some e => exact ⟨e, List.mem_of_find?_eq_some hf, by simpa using List.find?_some hf, rfl⟩
/-- what the mark sees of a cell are the part's numbers -/
def partNums (x : Part) : List Int := [x.count, x.age, x.left, x.whole, x.streak]
theorem seen_norm (r : Rule) (c : Cell) (t : Int) : seenC r (freshC r c t) t = partNums (norm r c t) := by
  obtain ⟨f2, f3, f4⟩ := fresh_c1 r c t
  have f1 : (freshC r c t).c0 > 0 → (freshC r c t).c1 = c.c1 := fun h => by
    unfold freshC at h ⊢
    split
    · rename_i z
      rw [if_pos z] at h
      exact absurd h (by show ¬ (0 : Int) > 0; decide)
    · rfl
  have m1 : max (c.c2 - t + 1) 0 = max0 (c.c2 - t + 1) := by unfold max0; split <;> omega
  have m2 : min c.c4 2 = min2 c.c4 := by unfold min2; split <;> omega
  unfold seenC partNums norm
  dsimp only
  rw [f2, f3, f4, m1, m2]
  have e1 : (if (freshC r c t).c0 > 0 ∧ r.fade > 0 then t - (freshC r c t).c1 else 0) = if (freshC r c t).c0 > 0 ∧ r.fade > 0 then t - c.c1 else 0 := by
    split
    · rename_i z
      rw [f1 z.1]
    · rfl
  have e2 : (if max0 (c.c2 - t + 1) > 0 then c.c3 else 0) = if c.c2 - t + 1 > 0 then c.c3 else 0 := by
    by_cases z : c.c2 - t + 1 > 0
    · rw [if_pos z, if_pos (by unfold max0; split <;> omega)]
    · rw [if_neg z, if_neg (by unfold max0; split <;> omega)]
  rw [e1, e2]
/-- each cell of the law, as a part of the program -/
theorem cell_part (G : GoodIn b acts g) {N : Nat} {e : (Nat × Key) × Cell} (he : e ∈ lrun b.rules g acts N) : ∃ r, b.rules[e.1.1]? = some r ∧ e.1.2 ∈ keysOf b r ∧ seenC r (freshC r e.2 ((N : Int) * g)) ((N : Int) * g) = partNums (vN b acts g r e.1.1 e.1.2 N) := by
  obtain ⟨r, hr, hy⟩ := run_keysIn G N e he
  have nd := (lok_run (gap := g) (acts := acts) G.len G.actIn N).1
  refine ⟨r, hr, hy, ?_⟩
  rw [seen_norm]
  unfold vN
  rw [getC_mem nd he]
end
end TL
/-! Trylocks, plain: texts of cells. -/
namespace TL
open PySem
/-- the code points -/
abbrev cp (s : Str) : List Nat := s.cps.toList
theorem cp_app (a b : Str) : cp (a ++ b) = cp a ++ cp b := by
  show (a.cps ++ b.cps).toList = _
  rw [Array.toList_append]
theorem cp_inj {a b : Str} (h : cp a = cp b) : a = b := by
  cases a
  cases b
  simpa [cp] using h
/-- a small number's text -/
def nt (i : Int) : List Nat := cp (PyData.shown (.int i))
def smallI (i : Int) : Prop := 0 ≤ i ∧ i ≤ 16
theorem nt_facts : ∀ i : Fin 17, (nt (i.val : Int)).length ≤ 2 ∧ 44 ∉ nt (i.val : Int) ∧ 41 ∉ nt (i.val : Int) ∧ (PyData.showable (.int (i.val : Int))) = true := by decide +kernel
theorem nt_inj : ∀ i j : Fin 17, nt (i.val : Int) = nt (j.val : Int) → i = j := by decide +kernel
theorem small_fin {i : Int} (h : smallI i) : ∃ f : Fin 17, i = (f.val : Int) := ⟨⟨i.toNat, by have := h.1; have := h.2; omega⟩, by have := h.1; show i = ((i.toNat : Nat) : Int); omega⟩
theorem key_facts : ∀ e ∈ allK, (lkey e).data.showable = true ∧ (lkey e).data.shown.length ≤ 1000 := by decide +kernel
theorem key_free : ∀ e ∈ allK, ∀ f ∈ allK, (cp (lkey e).data.shown).isPrefixOf (cp (lkey f).data.shown) = true → e = f := by decide +kernel
def tcp (a b c d e : Int) : List Nat := 40 :: (nt a ++ 44 :: 32 :: (nt b ++ 44 :: 32 :: (nt c ++ 44 :: 32 :: (nt d ++ 44 :: 32 :: (nt e ++ [41])))))
theorem tup_cp (a b c d e : Int) : cp (NestedKey.tup ([a, b, c, d, e].map NestedKey.num)).data.shown = tcp a b c d e := by
  have h1 : cp (("(" : String) : Str) = [40] := by decide +kernel
  have h2 : cp ((", " : String) : Str) = [44, 32] := by decide +kernel
  have h3 : cp ((")" : String) : Str) = [41] := by decide +kernel
  show cp (tupleText [PyData.shown (.int a), PyData.shown (.int b), PyData.shown (.int c), PyData.shown (.int d), PyData.shown (.int e)]) = _
  show cp ((("(" : String) : Str) ++ (PyData.shown (.int a) ++ ((", " : String) : Str) ++ (PyData.shown (.int b) ++ ((", " : String) : Str) ++ (PyData.shown (.int c) ++ ((", " : String) : Str) ++ (PyData.shown (.int d) ++ ((", " : String) : Str) ++ PyData.shown (.int e))))) ++ ((")" : String) : Str)) = _
  rw [cp_app, cp_app, cp_app, cp_app, cp_app, cp_app, cp_app, cp_app, cp_app, cp_app, h1, h2, h3]
  unfold tcp nt
  simp only [List.append_assoc, List.cons_append, List.nil_append]
theorem split1 {c : Nat} : ∀ {u u' r r' : List Nat}, c ∉ u → c ∉ u' → u ++ c :: r = u' ++ c :: r' → u = u' ∧ r = r'
  | [], [], r, r', _, _, h => ⟨rfl, (List.cons.inj h).2⟩
  | [], x :: u', r, r', _, h2, h => absurd (by rw [(List.cons.inj h).1]; exact List.mem_cons_self ..) h2
  | x :: u, [], r, r', h1, _, h => absurd (by rw [← (List.cons.inj h).1]; exact List.mem_cons_self ..) h1
  | x :: u, x' :: u', r, r', h1, h2, h => by
    have hi := List.cons.inj h
    obtain ⟨q1, q2⟩ := split1 (fun z => h1 (List.mem_cons_of_mem _ z)) (fun z => h2 (List.mem_cons_of_mem _ z)) hi.2
    exact ⟨by rw [hi.1, q1], q2⟩
theorem nt_44 {i : Int} (h : smallI i) : 44 ∉ nt i := by
  obtain ⟨f, rfl⟩ := small_fin h
  exact (nt_facts f).2.1
theorem nt_41 {i : Int} (h : smallI i) : 41 ∉ nt i := by
  obtain ⟨f, rfl⟩ := small_fin h
  exact (nt_facts f).2.2.1
theorem nt_eq {i j : Int} (hi : smallI i) (hj : smallI j) (h : nt i = nt j) : i = j := by
  obtain ⟨f, rfl⟩ := small_fin hi
  obtain ⟨f', rfl⟩ := small_fin hj
  rw [nt_inj f f' h]
/-- five small numbers -/
def Small5 (xs : List Int) : Prop := ∃ a b c d e, xs = [a, b, c, d, e] ∧ smallI a ∧ smallI b ∧ smallI c ∧ smallI d ∧ smallI e
theorem tup_parse {xs xs' : List Int} {t t' : List Nat} (h : Small5 xs) (h' : Small5 xs') (e : cp (NestedKey.tup (xs.map NestedKey.num)).data.shown ++ t = cp (NestedKey.tup (xs'.map NestedKey.num)).data.shown ++ t') : xs = xs' ∧ t = t' := by
  obtain ⟨a1, a2, a3, a4, a5, rfl, p1, p2, p3, p4, p5⟩ := h
  obtain ⟨b1, b2, b3, b4, b5, rfl, q1, q2, q3, q4, q5⟩ := h'
  rw [tup_cp, tup_cp] at e
  unfold tcp at e
  simp only [List.append_assoc, List.cons_append, List.nil_append] at e
  have e := (List.cons.inj e).2
  obtain ⟨r1, e⟩ := split1 (nt_44 p1) (nt_44 q1) e
  obtain ⟨r2, e⟩ := split1 (nt_44 p2) (nt_44 q2) (List.cons.inj e).2
  obtain ⟨r3, e⟩ := split1 (nt_44 p3) (nt_44 q3) (List.cons.inj e).2
  obtain ⟨r4, e⟩ := split1 (nt_44 p4) (nt_44 q4) (List.cons.inj e).2
  obtain ⟨r5, e⟩ := split1 (nt_41 p5) (nt_41 q5) (List.cons.inj e).2
  rw [nt_eq p1 q1 r1, nt_eq p2 q2 r2, nt_eq p3 q3 r3, nt_eq p4 q4 r4, nt_eq p5 q5 r5]
  exact ⟨rfl, e⟩
theorem cp_sp : cp ((" " : String) : Str) = [32] := by decide +kernel
theorem cell_parse {e e' : Nat × Key} {xs xs' : List Int} {t t' : List Nat} (he : e ∈ allK) (he' : e' ∈ allK) (h : Small5 xs) (h' : Small5 xs') (q : cp (cellText e xs) ++ t = cp (cellText e' xs') ++ t') : e = e' ∧ xs = xs' ∧ t = t' := by
  unfold cellText at q
  rw [cp_app, cp_app, cp_app, cp_app, cp_sp] at q
  simp only [List.append_assoc, List.cons_append, List.nil_append] at q
  have hp : e = e' := by
    have p1 : cp (lkey e).data.shown <+: cp (lkey e).data.shown ++ 32 :: (cp (NestedKey.tup (xs.map NestedKey.num)).data.shown ++ t) := List.prefix_append _ _
    have p2 : cp (lkey e').data.shown <+: cp (lkey e).data.shown ++ 32 :: (cp (NestedKey.tup (xs.map NestedKey.num)).data.shown ++ t) := by
      rw [q]
      exact List.prefix_append _ _
    rcases List.prefix_or_prefix_of_prefix p1 p2 with z | z
    · exact key_free e he e' he' (List.isPrefixOf_iff_prefix.mpr z)
    · exact (key_free e' he' e he (List.isPrefixOf_iff_prefix.mpr z)).symm
  subst hp
  have q2 := List.append_cancel_left q
  obtain ⟨r1, r2⟩ := tup_parse h h' (List.cons.inj q2).2
  exact ⟨rfl, r1, r2⟩
/-- the text of some cell -/
def MT (x : Str) : Prop := ∃ e xs, e ∈ allK ∧ Small5 xs ∧ x = cellText e xs
def tlL (r : List Str) : List Nat := r.flatMap fun p => 32 :: cp p
theorem glue_cp (r : List Str) : ∀ acc : Array Nat, (r.foldl (fun acc p => acc ++ ((" " : String) : Str).cps ++ p.cps) acc).toList = acc.toList ++ tlL r := by
  induction r with
  | nil => intro acc; show acc.toList = acc.toList ++ []; rw [List.append_nil]
  | cons x r ih =>
    intro acc
    rw [List.foldl_cons, ih]
    have h : ((" " : String) : Str).cps.toList = [32] := cp_sp
    rw [Array.toList_append, Array.toList_append, h]
    show _ = acc.toList ++ (32 :: cp x ++ tlL r)
    simp only [List.append_assoc, List.cons_append, List.nil_append]
theorem join_cp (x : Str) (r : List Str) : cp (Txt.join " " (x :: r)) = cp x ++ tlL r := glue_cp r x.cps
theorem join_nil : cp (Txt.join " " []) = [] := by decide +kernel
theorem tails (x x' : Str) : ∀ r r' : List Str, MT x → MT x' → (∀ z ∈ r, MT z) → (∀ z ∈ r', MT z) → cp x ++ tlL r = cp x' ++ tlL r' → x :: r = x' :: r' := fun r => by
  induction r generalizing x x' with
  | nil =>
    intro r' ⟨e, xs, h1, h2, hx⟩ ⟨e', xs', h1', h2', hx'⟩ _ _ h
    rw [hx, hx'] at h
    obtain ⟨q1, q2, q3⟩ := cell_parse h1 h1' h2 h2' h
    cases r' with
    | nil => rw [hx, hx', q1, q2]
    | cons p r' => cases q3
  | cons p r ih =>
    intro r' ⟨e, xs, h1, h2, hx⟩ ⟨e', xs', h1', h2', hx'⟩ hr hr' h
    rw [hx, hx'] at h
    obtain ⟨q1, q2, q3⟩ := cell_parse h1 h1' h2 h2' h
    cases r' with
    | nil => cases q3
    | cons p' r' =>
      have q4 : cp p ++ tlL r = cp p' ++ tlL r' := (List.cons.inj (show 32 :: (cp p ++ tlL r) = 32 :: (cp p' ++ tlL r') from q3)).2
      have q5 := ih p p' r' (hr p (List.mem_cons_self ..)) (hr' p' (List.mem_cons_self ..)) (fun z hz => hr z (List.mem_cons_of_mem _ hz)) (fun z hz => hr' z (List.mem_cons_of_mem _ hz)) q4
      rw [hx, hx', q1, q2, q5]
theorem mt_ne {x : Str} (h : MT x) : cp x ≠ [] := by
  obtain ⟨e, xs, _, _, rfl⟩ := h
  unfold cellText
  rw [cp_app, cp_app, cp_sp]
  intro z
  have := congrArg List.length z
  simp at this
theorem join_inj {ys ys' : List Str} (h : ∀ z ∈ ys, MT z) (h' : ∀ z ∈ ys', MT z) (e : Txt.join " " ys = Txt.join " " ys') : ys = ys' := by
  have e := congrArg cp e
  cases ys with
  | nil =>
    cases ys' with
    | nil => rfl
    | cons x' r' =>
      rw [join_nil, join_cp] at e
      exact absurd (List.append_eq_nil_iff.mp e.symm).1 (mt_ne (h' x' (List.mem_cons_self ..)))
  | cons x r =>
    cases ys' with
    | nil =>
      rw [join_nil, join_cp] at e
      exact absurd (List.append_eq_nil_iff.mp e).1 (mt_ne (h x (List.mem_cons_self ..)))
    | cons x' r' =>
      rw [join_cp, join_cp] at e
      exact tails x x' r r' (h x (List.mem_cons_self ..)) (h' x' (List.mem_cons_self ..)) (fun z hz => h z (List.mem_cons_of_mem _ hz)) (fun z hz => h' z (List.mem_cons_of_mem _ hz)) e
end TL
/-! Trylocks, plain: the mark tells the standing. -/
namespace TL
open PySem PySem.Spec PyProof.Rows
/-! ### sorted texts -/
theorem lt_le (a b : Str) : ltCps b.cps.toList a.cps.toList = false ↔ cp a ≤ cp b := by
  rw [ltCps_eq, decide_eq_false_iff_not]
  exact Iff.rfl
theorem rising_pw : ∀ (p : Str) (l : List Str), risingS p l = true → (p :: l).Pairwise fun a b => cp a ≤ cp b
  | p, [], _ => List.pairwise_singleton ..
  | p, x :: r, h => by
    have h' : (!ltCps x.cps.toList p.cps.toList && risingS x r) = true := h
    rw [Bool.and_eq_true, Bool.not_eq_true'] at h'
    have ih := rising_pw x r h'.2
    have hpx : cp p ≤ cp x := (lt_le p x).mp h'.1
    refine List.pairwise_cons.mpr ⟨fun z hz => ?_, ih⟩
    rcases List.mem_cons.mp hz with e | e
    · rw [e]; exact hpx
    · exact List.le_trans hpx ((List.pairwise_cons.mp ih).1 z e)
theorem sorted_pw : ∀ l : List Str, sortedS l = true → l.Pairwise fun a b => cp a ≤ cp b
  | [], _ => List.Pairwise.nil
  | x :: r, h => rising_pw x r h
theorem sorted_one {l m : List Str} (hp : l.Perm m) (h1 : sortedS l = true) (h2 : sortedS m = true) : l = m :=
  List.Perm.eq_of_pairwise (le := fun a b => cp a ≤ cp b) (fun a b _ _ x y => cp_inj (List.le_antisymm x y)) (sorted_pw l h1) (sorted_pw m h2) hp
theorem sorted_is (l : List Str) : ∃ m : List Str, m.Perm l ∧ sortedS m = true := by
  refine ⟨l.mergeSort fun a b => decide (cp a ≤ cp b), List.mergeSort_perm l _, sortedS_of_pairwise _ ?_⟩
  have q := List.pairwise_mergeSort (le := fun a b : Str => decide (cp a ≤ cp b)) (fun a b c x y => by
    rw [decide_eq_true_iff] at x y ⊢
    exact List.le_trans x y) (fun a b => by
    rw [Bool.or_eq_true, decide_eq_true_iff, decide_eq_true_iff]
    exact List.le_total _ _) l
  refine q.imp fun {a b} x => ?_
  exact (lt_le a b).mpr (of_decide_eq_true x)
/-- lists without doubles and of the same members -/
theorem perm_mem {α : Type} [DecidableEq α] : ∀ {l m : List α}, l.Nodup → m.Nodup → (∀ x, x ∈ l ↔ x ∈ m) → l.Perm m
  | [], m, _, _, h => by
    cases m with
    | nil => exact List.Perm.nil
    | cons x m => exact absurd ((h x).mpr (List.mem_cons_self ..)) (by simp)
  | x :: l, m, h1, h2, h => by
    have hx := (h x).mp (List.mem_cons_self ..)
    have hn := List.nodup_cons.mp h1
    refine List.Perm.trans (List.Perm.cons x (perm_mem hn.2 (h2.erase x) fun z => ?_)) (List.perm_cons_erase hx).symm
    rw [h2.mem_erase_iff]
    constructor
    · intro hz
      exact ⟨fun e => hn.1 (by rw [← e]; exact hz), (h z).mp (List.mem_cons_of_mem _ hz)⟩
    · rintro ⟨e, hz⟩
      rcases List.mem_cons.mp ((h z).mpr hz) with q | q
      · exact absurd q e
      · exact q
section
variable {b : Book} {acts : List Act} {g : Int} {r : Rule} {k : Nat} {y : Key}
theorem nums_small (G : GoodIn b acts g) (hr : b.rules[k]? = some r) (hy : y ∈ keysOf b r) (N : Nat) : Small5 (partNums (vN b acts g r k y N)) := by
  have h1 := v_in G hr hy N
  have h2 := v_sm G hr hy N
  have hm := (G.rules r (List.mem_of_getElem? hr)).2.1.2
  exact ⟨_, _, _, _, _, rfl, ⟨h1.c0, by have := h1.c1; omega⟩, ⟨h2.a0, by have := h2.a1; omega⟩, ⟨h1.l0, h2.l1⟩, ⟨h1.w1, h2.w1⟩, ⟨h1.s0, by have := h1.s1; omega⟩⟩
theorem small_show {xs : List Int} (h : Small5 xs) : (NestedKey.tup (xs.map NestedKey.num)).data.showable = true ∧ (NestedKey.tup (xs.map NestedKey.num)).data.shown.length ≤ 1000 := by
  obtain ⟨a, b, c, d, e, rfl, h1, h2, h3, h4, h5⟩ := h
  have f : ∀ {i : Int}, smallI i → PyData.showable (.int i) = true ∧ (nt i).length ≤ 2 := fun {i} hi => by
    obtain ⟨j, rfl⟩ := small_fin hi
    exact ⟨(nt_facts j).2.2.2, (nt_facts j).1⟩
  constructor
  · show (PyData.showable (.int a) && (PyData.showable (.int b) && (PyData.showable (.int c) && (PyData.showable (.int d) && (PyData.showable (.int e) && true))))) = true
    rw [(f h1).1, (f h2).1, (f h3).1, (f h4).1, (f h5).1]
    rfl
  · have q := tup_cp a b c d e
    have ql := congrArg List.length q
    have g1 := (f h1).2
    have g2 := (f h2).2
    have g3 := (f h3).2
    have g4 := (f h4).2
    have g5 := (f h5).2
    unfold tcp at ql
    simp only [List.length_cons, List.length_append, List.length_nil] at ql
    have e2 : ∀ s : Str, s.length = (cp s).length := fun s => Array.length_toList.symm
    rw [e2, ql]
    omega
theorem fair (G : GoodIn b acts g) (n : Nat) : Fair b.rules (lrun b.rules g acts (n * acts.length)) (((n * acts.length : Nat) : Int) * g) := fun e he => by
  obtain ⟨r, hr, hy, hs⟩ := cell_part G he
  have hk := key_facts e.1 ((lok_run (gap := g) (acts := acts) G.len G.actIn _).2.1 _ (List.mem_map.mpr ⟨e, he, rfl⟩))
  have hsm := small_show (nums_small G hr hy (n * acts.length))
  rw [← hs] at hsm
  exact ⟨r, hr, hk.1, hsm.1, hk.2, hsm.2⟩
/-- the texts of a round's beginning -/
def mkL (b : Book) (acts : List Act) (g : Int) (n : Nat) : List Str := marksOf b.rules (lrun b.rules g acts (n * acts.length)) (((n * acts.length : Nat) : Int) * g)
theorem loud_nums (x : Part) : loud (partNums x) = decide (¬ (x.count = 0 ∧ x.left = 0 ∧ x.streak = 0)) := rfl
theorem mkL_mem (G : GoodIn b acts g) {n : Nat} {x : Str} : x ∈ mkL b acts g n ↔ ∃ (k : Nat) (r : Rule) (y : Key), b.rules[k]? = some r ∧ y ∈ keysOf b r ∧ (k, y) ∈ allK ∧ loud (partNums (vN b acts g r k y (n * acts.length))) = true ∧ x = cellText (k, y) (partNums (vN b acts g r k y (n * acts.length))) := by
  have hok := lok_run (gap := g) (acts := acts) G.len G.actIn (n * acts.length)
  unfold mkL marksOf
  rw [List.mem_filterMap]
  constructor
  · rintro ⟨e, he, hm⟩
    obtain ⟨r, hr, hy, hs⟩ := cell_part G he
    unfold markOne at hm
    rw [hr] at hm
    dsimp only at hm
    rw [hs] at hm
    split at hm
    · rename_i hl
      exact ⟨e.1.1, r, e.1.2, hr, hy, hok.2.1 _ (List.mem_map.mpr ⟨e, he, rfl⟩), hl, (Option.some.inj hm).symm⟩
    · cases hm
  · rintro ⟨k, r, y, hr, hy, hk, hl, rfl⟩
    have hz : getC (lrun b.rules g acts (n * acts.length)) k y ≠ zeroC := fun z => by
      unfold vN at hl
      have hg := G.gap.1
      rw [z, norm_zero r (Int.mul_nonneg (by omega) (by omega))] at hl
      exact absurd hl (by decide)
    obtain ⟨e, he, h1, h2⟩ := getC_in hz
    obtain ⟨r', hr', hy', hs⟩ := cell_part G he
    rw [h1] at hr' hs
    dsimp only at hr' hs
    rw [hr] at hr'
    cases hr'
    refine ⟨e, he, ?_⟩
    unfold markOne
    rw [h1]
    dsimp only
    rw [hr]
    dsimp only
    rw [hs, if_pos hl]
theorem mkL_mt (G : GoodIn b acts g) {n : Nat} : ∀ x ∈ mkL b acts g n, MT x := fun x hx => by
  obtain ⟨k, r, y, hr, hy, hk, _, e⟩ := (mkL_mem G).mp hx
  exact ⟨_, _, hk, nums_small G hr hy _, e⟩
/-- the same texts, the same standing -/
theorem mkL_tells (G : GoodIn b acts g) {n m : Nat} (h : ∀ x, x ∈ mkL b acts g n ↔ x ∈ mkL b acts g m) : stN b g acts n = stN b g acts m := by
  have key : ∀ {n m : Nat}, (∀ x, x ∈ mkL b acts g n ↔ x ∈ mkL b acts g m) → ∀ (k : Nat) (r : Rule) (y : Key), b.rules[k]? = some r → y ∈ keysOf b r → loud (partNums (vN b acts g r k y (n * acts.length))) = true → vN b acts g r k y (n * acts.length) = vN b acts g r k y (m * acts.length) := fun {n m} h k r y hr hy hl => by
    have hk : (k, y) ∈ allK := by
      have hg := G.gap.1
      have hz : getC (lrun b.rules g acts (n * acts.length)) k y ≠ zeroC := fun z => by
        unfold vN at hl
        rw [z, norm_zero r (Int.mul_nonneg (by omega) (by omega))] at hl
        exact absurd hl (by decide)
      obtain ⟨e, he, h1, _⟩ := getC_in hz
      rw [← h1]
      exact (lok_run (gap := g) (acts := acts) G.len G.actIn _).2.1 _ (List.mem_map.mpr ⟨e, he, rfl⟩)
    obtain ⟨k', r', y', hr', hy', hk', hl', ex⟩ := (mkL_mem G).mp ((h _).mp ((mkL_mem G).mpr ⟨k, r, y, hr, hy, hk, hl, rfl⟩))
    obtain ⟨q1, q2, _⟩ := cell_parse (t := []) (t' := []) hk hk' (nums_small G hr hy _) (nums_small G hr' hy' _) (by rw [ex])
    injection q1 with q3 q4
    subst q3 q4
    rw [hr] at hr'
    cases hr'
    unfold partNums at q2
    injection q2 with e1 q2
    injection q2 with e2 q2
    injection q2 with e3 q2
    injection q2 with e4 q2
    injection q2 with e5 q2
    exact part_ext e1 e2 e3 e4 e5
  have quiet : ∀ {n : Nat} (k : Nat) (r : Rule) (y : Key), b.rules[k]? = some r → y ∈ keysOf b r → loud (partNums (vN b acts g r k y (n * acts.length))) = false → vN b acts g r k y (n * acts.length) = newPart := fun {n} k r y hr hy hl => by
    rw [loud_nums, decide_eq_false_iff_not, Classical.not_not] at hl
    have hw := (v_in G hr hy (n * acts.length)).w0 hl.2.1
    refine part_ext hl.1 ?_ hl.2.1 hw hl.2.2
    -- no count, no age
    have hN : (vN b acts g r k y (n * acts.length)).count = 0 := hl.1
    unfold vN at hN ⊢
    have e : (norm r (getC (lrun b.rules g acts (n * acts.length)) k y) (((n * acts.length : Nat) : Int) * g)).age = if (freshC r (getC (lrun b.rules g acts (n * acts.length)) k y) (((n * acts.length : Nat) : Int) * g)).c0 > 0 ∧ r.fade > 0 then (((n * acts.length : Nat) : Int) * g) - (getC (lrun b.rules g acts (n * acts.length)) k y).c1 else 0 := rfl
    have hc : (freshC r (getC (lrun b.rules g acts (n * acts.length)) k y) (((n * acts.length : Nat) : Int) * g)).c0 = 0 := hN
    rw [e, hc, if_neg fun z => absurd z.1 (by decide)]
    rfl
  refine st_ext G fun k r y hr hy => ?_
  cases z1 : loud (partNums (vN b acts g r k y (n * acts.length))) with
  | true => exact key h k r y hr hy z1
  | false =>
    cases z2 : loud (partNums (vN b acts g r k y (m * acts.length))) with
    | true => exact (key (fun x => (h x).symm) k r y hr hy z2).symm
    | false => rw [quiet k r y hr hy z1, quiet k r y hr hy z2]
/-- parts out of standings -/
theorem st_part (G : GoodIn b acts g) {n m : Nat} (h : stN b g acts n = stN b g acts m) (hr : b.rules[k]? = some r) (hy : y ∈ keysOf b r) : vN b acts g r k y (n * acts.length) = vN b acts g r k y (m * acts.length) := by
  have t := fun m => (tot_norm (b := b) (g := g) (acts := acts) G.rules G.gap.1 (fun a ha => actB_of (G.acts a ha)) m).1
  rw [t, t] at h
  unfold normS at h
  have all : ∀ (j : Nat) (rs : List Rule) (i : Nat) (r : Rule), normF b (lrun b.rules g acts (n * acts.length)) (((n * acts.length : Nat) : Int) * g) j rs = normF b (lrun b.rules g acts (m * acts.length)) (((m * acts.length : Nat) : Int) * g) j rs → rs[i]? = some r →
      rowN b (lrun b.rules g acts (n * acts.length)) (((n * acts.length : Nat) : Int) * g) r (j + i) = rowN b (lrun b.rules g acts (m * acts.length)) (((m * acts.length : Nat) : Int) * g) r (j + i) := fun j rs => by
    induction rs generalizing j with
    | nil => intro i r _ hi; cases hi
    | cons x rs ih =>
      intro i r h hi
      unfold normF at h
      injection h with h1 h2
      cases i with
      | zero => cases hi; exact h1
      | succ i =>
        have q := ih (j + 1) i r h2 hi
        rw [show j + 1 + i = j + (i + 1) by omega] at q
        exact q
  have q := all 0 b.rules k r h hr
  rw [Nat.zero_add] at q
  exact List.map_inj_left.mp q y hy
/-- the same standing, the same texts -/
theorem mkL_same (G : GoodIn b acts g) {n m : Nat} (h : stN b g acts n = stN b g acts m) : ∀ x, x ∈ mkL b acts g n ↔ x ∈ mkL b acts g m := by
  have half : ∀ {n m : Nat}, stN b g acts n = stN b g acts m → ∀ x, x ∈ mkL b acts g n → x ∈ mkL b acts g m := fun {n m} h x hx => by
    obtain ⟨k, r, y, hr, hy, hk, hl, e⟩ := (mkL_mem G).mp hx
    rw [st_part G h hr hy] at hl e
    exact (mkL_mem G).mpr ⟨k, r, y, hr, hy, hk, hl, e⟩
  exact fun x => ⟨half h x, half h.symm x⟩
theorem filterMap_nodup {α β : Type} {f : α → Option β} : ∀ {l : List α}, l.Nodup → (∀ x ∈ l, ∀ y ∈ l, ∀ z, f x = some z → f y = some z → x = y) → (l.filterMap f).Nodup
  | [], _, _ => List.nodup_nil
  | x :: l, h, hi => by
    have hn := List.nodup_cons.mp h
    have ih := filterMap_nodup hn.2 fun a ha c hc => hi a (List.mem_cons_of_mem _ ha) c (List.mem_cons_of_mem _ hc)
    rw [List.filterMap_cons]
    cases hx : f x with
    | none => exact ih
    | some z =>
      refine List.nodup_cons.mpr ⟨fun hz => ?_, ih⟩
      obtain ⟨y, hy, e⟩ := List.mem_filterMap.mp hz
      have q := hi x (List.mem_cons_self ..) y (List.mem_cons_of_mem _ hy) z hx e
      rw [q] at hn
      exact hn.1 hy
theorem mkL_nodup (G : GoodIn b acts g) (n : Nat) : (mkL b acts g n).Nodup := by
  have hok := lok_run (gap := g) (acts := acts) G.len G.actIn (n * acts.length)
  have nd : (lrun b.rules g acts (n * acts.length)).Nodup := List.Pairwise.of_map (S := fun x z => x ≠ z) (fun e : (Nat × Key) × Cell => e.1) (fun a c h e => h (congrArg _ e)) hok.1
  refine filterMap_nodup nd fun e he e' he' z h1 h2 => ?_
  obtain ⟨r, hr, hy, hs⟩ := cell_part G he
  obtain ⟨r', hr', hy', hs'⟩ := cell_part G he'
  have hk := hok.2.1 _ (List.mem_map.mpr ⟨e, he, rfl⟩)
  have hk' := hok.2.1 _ (List.mem_map.mpr ⟨e', he', rfl⟩)
  unfold markOne at h1 h2
  rw [hr] at h1
  rw [hr'] at h2
  dsimp only at h1 h2
  rw [hs] at h1
  rw [hs'] at h2
  split at h1
  · split at h2
    · have q := (Option.some.inj h1).trans (Option.some.inj h2).symm
      obtain ⟨q1, _, _⟩ := cell_parse (t := []) (t' := []) hk hk' (nums_small G hr hy _) (nums_small G hr' hy' _) (by rw [q])
      have g1 := getC_mem hok.1 he
      have g2 := getC_mem hok.1 he'
      rw [q1, g2] at g1
      exact Prod.ext q1 g1.symm
    · cases h2
  · cases h1
/-- WHAT PLAIN MATHS TELLS -/
theorem far_ok (b : Book) (acts : List Act) (g : Int) (G : GoodIn b acts g) : FarOk b acts g := by
  have hb : ∃ Z : List Stand, Z.length < sizeLine ∧ ∀ n, stN b g acts n ∈ Z := bound G
  obtain ⟨Z, hZ, hst⟩ := id hb
  have pick := fun n => sorted_is (mkL b acts g n)
  refine ⟨hb, fair G, fun n => Txt.join " " (pick n).choose, fun n ys hp hs => ?_, fun n hd => ?_, fun i n hin he => ?_⟩
  · have q := (pick n).choose_spec
    rw [sorted_one (hp.trans q.1.symm) hs q.2]
  · -- distinct marks, distinct standings
    have inj : ∀ i j, i < j → j < n → stN b g acts i ≠ stN b g acts j := fun i j hij hj e => by
      refine hd i j hij hj ?_
      have qi := (pick i).choose_spec
      have qj := (pick j).choose_spec
      have hp : (mkL b acts g i).Perm (mkL b acts g j) := perm_mem (mkL_nodup G i) (mkL_nodup G j) (mkL_same G e)
      show Txt.join " " (pick i).choose = Txt.join " " (pick j).choose
      rw [sorted_one ((qi.1.trans hp).trans qj.1.symm) qi.2 qj.2]
    have nd : ((List.range n).map (stN b g acts)).Nodup := by
      refine List.pairwise_map.mpr (List.Pairwise.imp_of_mem (R := fun a c => a < c) (fun {a c} ha hc h => inj a c h (List.mem_range.mp hc)) List.pairwise_lt_range)
    have q := nodup_le (m := Z) nd fun x hx => by
      obtain ⟨i, _, rfl⟩ := List.mem_map.mp hx
      exact hst i
    rw [List.length_map, List.length_range] at q
    omega
  · have qi := (pick i).choose_spec
    have qn := (pick n).choose_spec
    have e := join_inj (fun z hz => mkL_mt G z (qi.1.mem_iff.mp hz)) (fun z hz => mkL_mt G z (qn.1.mem_iff.mp hz)) he
    refine mkL_tells G fun x => ?_
    rw [← qi.1.mem_iff, ← qn.1.mem_iff, e]
end
end TL
/-! The law holds. -/
theorem PySem.Challenge.cw_trylocks_k04_whole_far_rows_holds : PySem.Challenge.rw_trylocks_k04_whole_far_rows.Holds :=
  TL.joined TL.far_ok
